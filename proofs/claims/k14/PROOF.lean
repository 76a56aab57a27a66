import PyProof.Rows.All
import Wide.All
import OpenK.AllK
import Wide.FinOn
import HandS.ForMost
import HandS.TupAny
import HandS.SortInts
import HandS.NoneIn
import HandS.IsInst
import HandS.Style
import HandS.SortKw
import HandS.Zip
import HandS.Replace
import KE.SortData
import KE.DataMinMax
import KE.KDictKeyed
import PyProof.Rows.RowBridgeK
import PyProof.Rows.StrRev
import PySem.Challenge.RW_tailshare_k14_whole_turned_about
set_option Elab.async false
set_option linter.all false
set_option maxRecDepth 100000
set_option maxHeartbeats 4000000
namespace G
open PySem PySem.Spec PyProof.Rows L2

abbrev Any : Addr → Prop := fun _ => True

/-! ### the weakest readings of syntax, over a family of contexts -/
section wp
variable {J : Type}
def wE (X : J → Cx) (e : Expr) : TE := fun s H Q => ∃ t : TE, (∀ i, PE (X i) e t) ∧ t s H Q
def wT (X : J → Cx) (e : Expr) : TT := fun s H Q => ∃ t : TT, (∀ i, PT (X i) e t) ∧ t s H Q
def wW (X : J → Cx) (e : Expr) : TT := fun s H Q => ∃ t : TT, (∀ i, PW (X i) e t) ∧ t s H Q
def wA (X : J → Cx) (es : List Expr) : TA := fun s H Q => ∃ t : TA, (∀ i, PA (X i) es t) ∧ t s H Q
def wS (X : J → Cx) (st : Stmt) : TS := fun D s H => ∃ t : TS, (∀ i, PS (X i) st t) ∧ t D s H
def wB (X : J → Cx) (st : List Stmt) : TS := fun D s H => ∃ t : TS, (∀ i, PSs (X i) st t) ∧ t D s H
def wO (X : J → Cx) (f : Value → Value → Sem Value) : R2 := fun x y H Q => ∃ r : R2, (∀ i, OpR (X i) f r) ∧ r x y H Q
def wI (X : J → Cx) (tg it : Expr) : TI := fun s H R => ∃ t : TI, (∀ i, PI (X i) tg it t) ∧ t s H R
def wG (X : J → Cx) (tg : Expr) : TG := fun v s H Q => ∃ t : TG, (∀ i, PG (X i) tg t) ∧ t v s H Q
variable {X : J → Cx}
theorem pe_w (e : Expr) (i : J) : PE (X i) e (wE X e) := ⟨fun pins s σ H Q I h => by obtain ⟨t, ht, q⟩ := h; exact (ht i).run pins s σ H Q I q⟩
theorem pt_w (e : Expr) (i : J) : PT (X i) e (wT X e) := ⟨fun pins s σ H Q I h => by obtain ⟨t, ht, q⟩ := h; exact (ht i).run pins s σ H Q I q⟩
theorem pw_w (e : Expr) (i : J) : PW (X i) e (wW X e) := ⟨fun whole pins s σ H Q I h => by obtain ⟨t, ht, q⟩ := h; exact (ht i).run whole pins s σ H Q I q⟩
theorem pa_w (es : List Expr) (i : J) : PA (X i) es (wA X es) := ⟨fun pos pins s σ H Q I h => by obtain ⟨t, ht, q⟩ := h; exact (ht i).run pos pins s σ H Q I q⟩
theorem ps_w (st : Stmt) (i : J) : PS (X i) st (wS X st) := ⟨fun pins s σ H D I h => by obtain ⟨t, ht, q⟩ := h; exact (ht i).run pins s σ H D I q⟩
theorem pb_w (st : List Stmt) (i : J) : PSs (X i) st (wB X st) := ⟨fun pins s σ H D I h => by obtain ⟨t, ht, q⟩ := h; exact (ht i).run pins s σ H D I q⟩
theorem op_w (f : Value → Value → Sem Value) (i : J) : OpR (X i) f (wO X f) := fun pins s σ H x y v u Q I rx ry h => by obtain ⟨r, hr, q⟩ := h; exact hr i pins s σ H x y v u Q I rx ry q
theorem pi_w (tg it : Expr) (i : J) : PI (X i) tg it (wI X tg it) := ⟨fun pins s σ H R I h => by obtain ⟨t, ht, q⟩ := h; exact (ht i).run pins s σ H R I q⟩
theorem pg_w (tg : Expr) (i : J) : PG (X i) tg (wG X tg) := ⟨fun pins s σ H v u Q I r h => by obtain ⟨t, ht, q⟩ := h; exact (ht i).run pins s σ H v u Q I r q⟩
end wp

/-! ### data in the heap -/
mutual
inductive Fd (S : Addr → Prop) (H : Hp) : V → PyData → Prop
  | non : Fd S H .non .none
  | bl (b : Bool) : Fd S H (.bl b) (.bool b)
  | int (i : Int) : Fd S H (.int i) (.int i)
  | str (x : Str) : Fd S H (.str x) (.str x)
  | lst {a : Addr} {xs : List V} {ds : List PyData} : S a → H a = some (.lst xs) → FdA S H xs ds → Fd S H (.ref a) (.list ds)
  | tup {a : Addr} {xs : List V} {ds : List PyData} : S a → H a = some (.tup xs) → FdA S H xs ds → Fd S H (.ref a) (.tuple ds)
inductive FdA (S : Addr → Prop) (H : Hp) : List V → List PyData → Prop
  | nil : FdA S H [] []
  | cons {v : V} {vs : List V} {d : PyData} {ds : List PyData} : Fd S H v d → FdA S H vs ds → FdA S H (v :: vs) (d :: ds)
end
section
variable {S T : Addr → Prop} {H H' : Hp}
mutual
theorem Fd.mono (hS : ∀ a, S a → T a) (h : Same H H') : ∀ {v : V} {d : PyData}, Fd S H v d → Fd T H' v d
  | _, _, .non => .non
  | _, _, .bl b => .bl b
  | _, _, .int i => .int i
  | _, _, .str x => .str x
  | _, _, .lst s e r => .lst (hS _ s) (h _ _ e) (FdA.mono hS h r)
  | _, _, .tup s e r => .tup (hS _ s) (h _ _ e) (FdA.mono hS h r)
theorem FdA.mono (hS : ∀ a, S a → T a) (h : Same H H') : ∀ {vs : List V} {ds : List PyData}, FdA S H vs ds → FdA T H' vs ds
  | _, _, .nil => .nil
  | _, _, .cons a r => .cons (Fd.mono hS h a) (FdA.mono hS h r)
end
mutual
/-- only the addresses that S lets are looked at -/
theorem Fd.cut (hS : ∀ a o, S a → H a = some o → H' a = some o ∧ T a) : ∀ {v : V} {d : PyData}, Fd S H v d → Fd T H' v d
  | _, _, .non => .non
  | _, _, .bl b => .bl b
  | _, _, .int i => .int i
  | _, _, .str x => .str x
  | _, _, .lst s e r => .lst (hS _ _ s e).2 (hS _ _ s e).1 (FdA.cut hS r)
  | _, _, .tup s e r => .tup (hS _ _ s e).2 (hS _ _ s e).1 (FdA.cut hS r)
theorem FdA.cut (hS : ∀ a o, S a → H a = some o → H' a = some o ∧ T a) : ∀ {vs : List V} {ds : List PyData}, FdA S H vs ds → FdA T H' vs ds
  | _, _, .nil => .nil
  | _, _, .cons a r => .cons (Fd.cut hS a) (FdA.cut hS r)
end
mutual
theorem Fd.dp (K : PySem.W.Frag) : ∀ {v : V} {d : PyData}, Fd S H v d → Dp K H v d
  | _, _, .non => .non
  | _, _, .bl b => .bl b
  | _, _, .int i => .int i
  | _, _, .str x => .str x
  | _, _, .lst _ e r => .lst (SqL.of e) (FdA.dp K r)
  | _, _, .tup _ e r => .tup (SqT.of e) (FdA.dp K r)
theorem FdA.dp (K : PySem.W.Frag) : ∀ {vs : List V} {ds : List PyData}, FdA S H vs ds → DpAll K H vs ds
  | _, _, .nil => .nil
  | _, _, .cons a r => .cons (Fd.dp K a) (FdA.dp K r)
end
theorem FdA.length : ∀ {vs : List V} {ds : List PyData}, FdA S H vs ds → vs.length = ds.length
  | _, _, .nil => rfl
  | _, _, .cons _ r => congrArg (· + 1) (FdA.length r)
theorem FdA.get : ∀ {vs : List V} {ds : List PyData}, FdA S H vs ds → ∀ {i : Nat} {d : PyData}, ds[i]? = some d → ∃ v, vs[i]? = some v ∧ Fd S H v d
  | _, _, .nil, i, d, h => by simp at h
  | _, _, .cons a r, 0, d, h => by simp at h; subst h; exact ⟨_, rfl, a⟩
  | _, _, .cons a r, i + 1, d, h => by
    obtain ⟨v, h1, h2⟩ := FdA.get r (i := i) (d := d) (by simpa using h)
    exact ⟨v, by simpa using h1, h2⟩
theorem FdA.getV : ∀ {vs : List V} {ds : List PyData}, FdA S H vs ds → ∀ {i : Nat} {v : V}, vs[i]? = some v → ∃ d, ds[i]? = some d ∧ Fd S H v d
  | _, _, .nil, i, d, h => by simp at h
  | _, _, .cons a r, 0, d, h => by simp at h; subst h; exact ⟨_, rfl, a⟩
  | _, _, .cons a r, i + 1, d, h => by
    obtain ⟨v, h1, h2⟩ := FdA.getV r (i := i) (v := d) (by simpa using h)
    exact ⟨v, by simpa using h1, h2⟩
theorem FdA.app : ∀ {vs ws : List V} {ds es : List PyData}, FdA S H vs ds → FdA S H ws es → FdA S H (vs ++ ws) (ds ++ es)
  | _, _, _, _, .nil, s => s
  | _, _, _, _, .cons a r, s => .cons a (FdA.app r s)
theorem FdA.take : ∀ (n : Nat) {vs : List V} {ds : List PyData}, FdA S H vs ds → FdA S H (vs.take n) (ds.take n)
  | 0, _, _, _ => .nil
  | _ + 1, _, _, .nil => .nil
  | n + 1, _, _, .cons a r => .cons a (FdA.take n r)
theorem FdA.drop : ∀ (n : Nat) {vs : List V} {ds : List PyData}, FdA S H vs ds → FdA S H (vs.drop n) (ds.drop n)
  | 0, _, _, r => r
  | _ + 1, _, _, .nil => .nil
  | n + 1, _, _, .cons _ r => FdA.drop n r
theorem FdA.rev {vs : List V} {ds : List PyData} (h : FdA S H vs ds) : FdA S H vs.reverse ds.reverse := by
  induction vs generalizing ds with
  | nil => cases h; exact .nil
  | cons v vs ih =>
    cases h with
    | cons a r =>
      rw [List.reverse_cons, List.reverse_cons]
      exact FdA.app (ih r) (.cons a .nil)
/-- ints, texts -/
theorem FdA.ints : ∀ ns : List Int, FdA S H (ns.map V.int) (ns.map PyData.int)
  | [] => .nil
  | _ :: r => .cons (.int _) (FdA.ints r)
theorem FdA.strs : ∀ ns : List Str, FdA S H (ns.map V.str) (ns.map PyData.str)
  | [] => .nil
  | _ :: r => .cons (.str _) (FdA.strs r)
theorem FdA.bls : ∀ ns : List Bool, FdA S H (ns.map V.bl) (ns.map PyData.bool)
  | [] => .nil
  | _ :: r => .cons (.bl _) (FdA.bls r)
theorem FdA.toInts : ∀ {ns : List Int} {vs : List V}, FdA S H vs (ns.map PyData.int) → vs = ns.map V.int
  | [], _, h => by cases h; rfl
  | n :: r, _, h => by
    cases h with
    | cons a b => cases a; rw [FdA.toInts b]; rfl
theorem FdA.toStrs : ∀ {ns : List Str} {vs : List V}, FdA S H vs (ns.map PyData.str) → vs = ns.map V.str
  | [], _, h => by cases h; rfl
  | n :: r, _, h => by
    cases h with
    | cons a b => cases a; rw [FdA.toStrs b]; rfl
theorem FdA.toBls : ∀ {ns : List Bool} {vs : List V}, FdA S H vs (ns.map PyData.bool) → vs = ns.map V.bl
  | [], _, h => by cases h; rfl
  | n :: r, _, h => by
    cases h with
    | cons a b => cases a; rw [FdA.toBls b]; rfl
end

/-! ### the state: lasting facts F, changing objects M, the heap H; S: addresses that are new -/
abbrev Mu := List (Addr × HO)
structure HM (S : Addr → Prop) (F : Hp) (M : Mu) (H : Hp) : Prop where
  fa : Same F H
  mu : ∀ m ∈ M, H m.1 = some m.2 ∧ F m.1 = none
  nd : (M.map (·.1)).Nodup
  up : ∀ a, H a = none → S a
def Grow (H H' : Hp) : Prop := ∀ a, H' a = none → H a = none
theorem Grow.refl (H : Hp) : Grow H H := fun _ h => h
theorem Grow.trans {H H1 H2 : Hp} (a : Grow H H1) (b : Grow H1 H2) : Grow H H2 := fun x h => a x (b x h)
section
variable {S : Addr → Prop} {F F' H H' : Hp} {M : Mu}
theorem HM.weak (h : HM S F' M H) (f : Same F F') : HM S F M H :=
  ⟨f.trans h.fa, fun m hm => ⟨(h.mu m hm).1, f.free (h.mu m hm).2⟩, h.nd, h.up⟩
theorem Same.free' {F F' : Hp} (f : Same F F') {a : Addr} (h : F' a = none) : F a = none := f.free h
/-- a new object, lasting -/
theorem HM.new {p : Addr} {o : HO} (h : HM S F M H) (hp : H p = none) : HM S (upd F p o) M (upd H p o) := by
  refine ⟨fun a u e => ?_, fun m hm => ?_, h.nd, fun a ha => ?_⟩
  · by_cases c : a = p
    · subst c; rw [upd_same] at e ⊢; exact e
    · rw [upd_ne c] at e ⊢; exact h.fa _ _ e
  · have c : m.1 ≠ p := fun e => by have := (h.mu m hm).1; rw [e, hp] at this; cases this
    rw [upd_ne c, upd_ne c]; exact h.mu m hm
  · by_cases c : a = p
    · subst c; rw [upd_same] at ha; cases ha
    · rw [upd_ne c] at ha; exact h.up _ ha
theorem same_new {p : Addr} {o : HO} (hp : F p = none) : Same F (upd F p o) := fun b u q => by rw [upd_ne (ne_of_none q hp)]; exact q
theorem grow_upd {p : Addr} {o : HO} : Grow H (upd H p o) := fun a h => by
  by_cases c : a = p
  · subst c; rw [upd_same] at h; cases h
  · rw [upd_ne c] at h; exact h
/-- a new object, changing -/
theorem HM.newM {p : Addr} {o : HO} (h : HM S F M H) (hp : H p = none) : HM S F (M ++ [(p, o)]) (upd H p o) := by
  have hF : F p = none := h.fa.free hp
  refine ⟨fun a u e => ?_, fun m hm => ?_, ?_, fun a ha => ?_⟩
  · rw [upd_ne (ne_of_none e hF)]; exact h.fa _ _ e
  · rcases List.mem_append.mp hm with hm | hm
    · have c : m.1 ≠ p := fun e => by have := (h.mu m hm).1; rw [e, hp] at this; cases this
      rw [upd_ne c]; exact h.mu m hm
    · have e : m = (p, o) := by simpa using hm
      subst e; exact ⟨upd_same, hF⟩
  · rw [List.map_append, List.nodup_append]
    refine ⟨h.nd, by simp, fun a ha b hb => ?_⟩
    have e : b = p := by simpa using hb
    subst e
    obtain ⟨m, hm, rfl⟩ := List.mem_map.mp ha
    intro c
    have := (h.mu m hm).1; rw [c, hp] at this; cases this
  · by_cases c : a = p
    · subst c; rw [upd_same] at ha; cases ha
    · rw [upd_ne c] at ha; exact h.up _ ha
end
/-- M with the object at p changed -/
def setM (M : Mu) (p : Addr) (o : HO) : Mu := M.map fun m => if m.1 = p then (p, o) else m
theorem setM_keys (M : Mu) (p : Addr) (o : HO) : (setM M p o).map (·.1) = M.map (·.1) := by
  unfold setM
  rw [List.map_map]
  refine List.map_congr_left fun m _ => ?_
  show (if m.1 = p then (p, o) else m).1 = m.1
  by_cases c : m.1 = p
  · rw [if_pos c]; exact c.symm
  · rw [if_neg c]
section
variable {S : Addr → Prop} {F F' H H' : Hp} {M : Mu}
theorem HM.write {p : Addr} {o u : HO} (h : HM S F M H) (hp : (p, o) ∈ M) : HM S F (setM M p u) (upd H p u) := by
  have hF : F p = none := (h.mu _ hp).2
  refine ⟨fun a z e => ?_, fun m hm => ?_, by rw [setM_keys]; exact h.nd, fun a ha => ?_⟩
  · rw [upd_ne (ne_of_none e hF)]; exact h.fa _ _ e
  · obtain ⟨m', hm', e⟩ := List.mem_map.mp hm
    by_cases c : m'.1 = p
    · rw [if_pos c] at e; subst e; exact ⟨upd_same, hF⟩
    · rw [if_neg c] at e; subst e; rw [upd_ne c]; exact h.mu _ hm'
  · by_cases c : a = p
    · subst c; rw [upd_same] at ha; cases ha
    · rw [upd_ne c] at ha; exact h.up _ ha
/-- a changing object becomes a lasting one -/
theorem HM.rest {p : Addr} {o : HO} {M1 M2 : Mu} (h : HM S F (M1 ++ (p, o) :: M2) H) : HM S (upd F p o) (M1 ++ M2) H := by
  have hm : (p, o) ∈ M1 ++ (p, o) :: M2 := List.mem_append_right _ List.mem_cons_self
  have nd : (M1.map (·.1) ++ p :: M2.map (·.1)).Nodup := by simpa using h.nd
  have nd' := List.nodup_append.mp nd
  refine ⟨fun a u e => ?_, fun m hm' => ?_, ?_, h.up⟩
  · by_cases c : a = p
    · subst c; rw [upd_same] at e; rw [← e]; exact (h.mu _ hm).1
    · rw [upd_ne c] at e; exact h.fa _ _ e
  · have c : m.1 ≠ p := by
      rcases List.mem_append.mp hm' with q | q
      · exact nd'.2.2 _ (List.mem_map_of_mem q) _ List.mem_cons_self
      · intro e
        exact (List.nodup_cons.mp nd'.2.1).1 (e ▸ List.mem_map_of_mem q)
    rw [upd_ne c]
    exact h.mu m (by rcases List.mem_append.mp hm' with q | q
                     · exact List.mem_append_left _ q
                     · exact List.mem_append_right _ (List.mem_cons_of_mem _ q))
  · rw [List.map_append]
    refine List.nodup_append.mpr ⟨nd'.1, (List.nodup_cons.mp nd'.2.1).2, fun a ha b hb => nd'.2.2 a ha b (List.mem_cons_of_mem _ hb)⟩
/-- a changing object is forgotten -/
theorem HM.drop {m : Addr × HO} {M1 M2 : Mu} (h : HM S F (M1 ++ m :: M2) H) : HM S F (M1 ++ M2) H := by
  have nd : (M1.map (·.1) ++ m.1 :: M2.map (·.1)).Nodup := by simpa using h.nd
  have nd' := List.nodup_append.mp nd
  refine ⟨h.fa, fun m' hm' => h.mu m' ?_, ?_, h.up⟩
  · rcases List.mem_append.mp hm' with q | q
    · exact List.mem_append_left _ q
    · exact List.mem_append_right _ (List.mem_cons_of_mem _ q)
  · rw [List.map_append]
    exact List.nodup_append.mpr ⟨nd'.1, (List.nodup_cons.mp nd'.2.1).2, fun a ha b hb => nd'.2.2 a ha b (List.mem_cons_of_mem _ hb)⟩
/-- another mark of what is new -/
theorem HM.mark (h : HM S F M H) : HM (fun a => F a = none) F M H := ⟨h.fa, h.mu, h.nd, fun _ ha => h.fa.free ha⟩
theorem HM.markM (h : HM S F M H) : HM (fun a => F a = none ∧ ∀ m ∈ M, m.1 ≠ a) F M H := ⟨h.fa, h.mu, h.nd, fun a ha => ⟨h.fa.free ha, fun m hm e => by
  have := (h.mu m hm).1; rw [e, ha] at this; cases this⟩⟩
end

/-! ### an expression comes to data -/
inductive OpK where
  | bin (o : Operator)
  | cmp (o : CmpOp)
def OpK.fn : OpK → Value → Value → Sem Value
  | .bin o => binaryOp o
  | .cmp o => compareOp o
section ev
variable {J : Type}
def EvD (X : J → Cx) (e : Expr) (σ : L2.St) (S : Addr → Prop) (F : Hp) (M : Mu) (T : Addr → Prop) (d : PyData) (M' : Mu) : Prop :=
  ∀ F1 H, Same F F1 → HM S F1 M H → ∀ Q : VK, (∀ v F' H', HM S F' M' H' → Same F1 F' → Grow H H' → Fd T F' v d → Q v H') → wE X e σ H Q
def EvT (X : J → Cx) (e : Expr) (σ : L2.St) (S : Addr → Prop) (F : Hp) (M : Mu) (b : Bool) (M' : Mu) : Prop :=
  ∀ F1 H, Same F F1 → HM S F1 M H → ∀ Q : Bool → Hp → Prop, (∀ H', HM S F1 M' H' → Grow H H' → Q b H') → wT X e σ H Q
def EvA (X : J → Cx) (es : List Expr) (σ : L2.St) (S : Addr → Prop) (F : Hp) (M : Mu) (T : Addr → Prop) (ds : List PyData) (M' : Mu) : Prop :=
  ∀ F1 H, Same F F1 → HM S F1 M H → ∀ Q : List V → Hp → Prop, (∀ vs F' H', HM S F' M' H' → Same F1 F' → Grow H H' → FdA T F' vs ds → Q vs H') → wA X es σ H Q
/-- an operation on two values -/
def OpD (X : J → Cx) (f : OpK) (S : Addr → Prop) (d1 d2 : PyData) (T : Addr → Prop) (d : PyData) : Prop :=
  ∀ v1 v2 F H (M : Mu), HM S F M H → Fd Any F v1 d1 → Fd Any F v2 d2 → ∀ Q : VK, (∀ v F' H', HM S F' M H' → Same F F' → Grow H H' → Fd T F' v d → Q v H') → wO X f.fn v1 v2 H Q
variable {X : J → Cx} {e : Expr} {es : List Expr} {σ : L2.St} {S T U : Addr → Prop} {F F' : Hp} {M M' M1 M2 : Mu} {d d1 d2 : PyData} {ds : List PyData} {b : Bool}
theorem EvD.mono (f : Same F F') (h : EvD X e σ S F M T d M') : EvD X e σ S F' M T d M' := fun F1 H f1 hm Q q => h F1 H (f.trans f1) hm Q q
theorem EvT.mono (f : Same F F') (h : EvT X e σ S F M b M') : EvT X e σ S F' M b M' := fun F1 H f1 hm Q q => h F1 H (f.trans f1) hm Q q
theorem EvA.mono (f : Same F F') (h : EvA X es σ S F M T ds M') : EvA X es σ S F' M T ds M' := fun F1 H f1 hm Q q => h F1 H (f.trans f1) hm Q q
theorem EvD.to (h : EvD X e σ S F M T d M') (hT : ∀ a, T a → U a) : EvD X e σ S F M U d M' := fun F1 H f1 hm Q q => h F1 H f1 hm Q fun v F' H' a b c r => q v F' H' a b c (r.mono hT (Same.refl _))
theorem EvD.any (h : EvD X e σ S F M T d M') : EvD X e σ S F M Any d M' := h.to fun _ _ => trivial
theorem EvD.is (h : EvD X e σ S F M T d1 M') (q : d1 = d2) : EvD X e σ S F M T d2 M' := q ▸ h
theorem EvT.is {c : Bool} (h : EvT X e σ S F M b M') (q : b = c) : EvT X e σ S F M c M' := q ▸ h
end ev

/-! ### the frame of a def's body, of a comprehension's block -/
structure Ctx where
  P : Program
  w : World
  K : PySem.W.Frag
  mg : Str → Option Value
  base : Heap
structure SX (C : Ctx) (N : List Str) (sc : Scope) (fn : Str → Bool) (k : Nat) {J : Type} (X : J → Cx) : Prop where
  P : ∀ i, (X i).prog = C.P
  w : ∀ i, (X i).w = C.w
  K : ∀ i, (X i).K = C.K
  mg : ∀ i, (X i).mg = C.mg
  base : ∀ i, (X i).base = C.base
  nd : N.Nodup
  Nx : ∀ i, (X i).N = N
  scx : ∀ i, (X i).env.scope = sc
  calm : ∀ i, (X i).calm = true
  room : ∀ i, Room k (X i).A
  fnx : ∀ i x, fn x = true → (X i).fn x = true
  xe : ∀ i, (X i).xe = fun _ _ => False
/-- a global name -/
def Gb (sc : Scope) (x : Str) : Prop := sc.names.lookup x = some .globalImplicit
/-- a name of the def by its place -/
structure Nm (N : List Str) (j : Nat) (x : Str) : Prop where
  at_ : N[j]? = some x
  d1 : (x == ("__debug__" : Str)) = false
  d2 : (x == ("__classdict__" : Str)) = false
def relabS (scope sc : Scope) : Scope :=
  { scope with names := scope.names.map fun (n, k) => if (k == .free && sc.kind == .function && sc.names.lookup n == some .cell) then (n, .cell) else (n, k) }
abbrev BJ (J : Type) := J × Shared × Hp × Addr × List (Str × Addr) × List Addr
def Xb {J : Type} (X : J → Cx) (scope : Scope) : BJ J → Cx := fun p => (X p.1).blk p.2.1 p.2.2.1 scope (compEnvC scope p.2.2.2.2.1 p.2.2.2.1 (X p.1).env) p.2.2.2.2.2
section
variable {C : Ctx} {N : List Str} {sc : Scope} {fn : Str → Bool} {k : Nat} {J : Type} {X : J → Cx}
theorem relab_eq {scope : Scope} {env : Env} (h : env.scope = sc) : relabel scope env = relabS scope sc := by
  subst h; rfl
theorem SX.blk (hx : SX C N sc fn k X) (scope : Scope) : SX C N (relabS scope sc) (fun x => scope.names.lookup x == some .cell) k (Xb X scope) where
  P := fun p => hx.P p.1
  w := fun p => hx.w p.1
  K := fun p => hx.K p.1
  mg := fun p => hx.mg p.1
  base := fun p => hx.base p.1
  Nx := fun p => hx.Nx p.1
  scx := fun p => relab_eq (hx.scx p.1)
  calm := fun p => hx.calm p.1
  room := fun p => hx.room p.1
  nd := hx.nd
  fnx := fun p x h => h
  xe := fun p => rfl
end
end G

namespace G
open PySem PySem.Spec PyProof.Rows L2
section
variable {C : Ctx} {N : List Str} {sc : Scope} {fn : Str → Bool} {k : Nat} {J : Type} {X : J → Cx}
variable {a b c e : Expr} {es : List Expr} {pos pos' pos'' : Pos} {σ : L2.St} {S T U : Addr → Prop} {F F' F1 H H' : Hp} {M M' M1 M2 M3 : Mu} {d d1 d2 d3 : PyData} {ds : List PyData}

/-! ### values -/
theorem ev_int {n : Int} {j : Nat} : EvD X (.Constant (.int n) j pos) σ S F M T (.int n) M := fun F1 H _ h Q q =>
  ⟨_, fun i => pe_int, q _ F1 H h (Same.refl _) (Grow.refl _) (.int n)⟩
theorem ev_str {n : Str} {j : Nat} : EvD X (.Constant (.str n) j pos) σ S F M T (.str n) M := fun F1 H _ h Q q =>
  ⟨_, fun i => pe_str, q _ F1 H h (Same.refl _) (Grow.refl _) (.str n)⟩
theorem ev_bl {n : Bool} {j : Nat} : EvD X (.Constant (.bool n) j pos) σ S F M T (.bool n) M := fun F1 H _ h Q q =>
  ⟨_, fun i => pe_bl, q _ F1 H h (Same.refl _) (Grow.refl _) (.bl n)⟩
theorem ev_non {j : Nat} : EvD X (.Constant .none j pos) σ S F M T .none M := fun F1 H _ h Q q =>
  ⟨_, fun i => pe_non, q _ F1 H h (Same.refl _) (Grow.refl _) .non⟩
theorem ev_name {x : Str} {j : Nat} {v : V} (hx : SX C N sc fn k X) (nm : Nm N j x) (hv : Vis sc x) (hs : σ[j]? = some (some v)) (hd : Fd T F v d) : EvD X (.Name x pos) σ S F M T d M := fun F1 H f h Q q =>
  ⟨_, fun i => pe_var (by rw [hx.Nx i]; exact nm.at_) (by rw [hx.scx i]; exact hv) nm.d1 nm.d2, v, hs, q v F1 H h (Same.refl _) (Grow.refl _) (hd.mono (fun _ h => h) f)⟩
theorem gl_of {x : Str} (hx : SX C N sc fn k X) (hg : Gb sc x) (i : J) : Gl (X i) x := by
  show (X i).env.scope.names.lookup x = _
  rw [hx.scx i]; exact hg
theorem ev_glob {x : Str} {v : V} {u : Value} (hx : SX C N sc fn k X) (hg : Gb sc x) (hm : C.mg x = some u) (r : RelV v u) (hd : (x == ("__debug__" : Str)) = false) (hv : Fd T F v d) : EvD X (.Name x pos) σ S F M T d M := fun F1 H f h Q q =>
  ⟨_, fun i => pe_glob (gl_of hx hg i) (by rw [hx.mg i]; exact hm) r hd, q v F1 H h (Same.refl _) (Grow.refl _) (hv.mono (fun _ h => h) f)⟩

/-! ### operators -/
theorem ev_bin {op : Operator} (ha : EvD X a σ S F M Any d1 M1) (hb : EvD X b σ S F M1 Any d2 M2) (ho : OpD X (.bin op) S d1 d2 T d) : EvD X (.BinOp a op b pos) σ S F M T d M2 := fun F1 H f h Q q =>
  ⟨_, fun i => pe_op (op_w _ i) (pe_w a i) (pe_w b i), ha F1 H f h _ fun v1 F2 H2 h2 f2 g2 r1 => hb F2 H2 (f.trans f2) h2 _ fun v2 F3 H3 h3 f3 g3 r2 =>
    ho v1 v2 F3 H3 _ h3 (r1.mono (fun _ h => h) f3) r2 Q fun v F4 H4 h4 f4 g4 r => q v F4 H4 h4 ((f2.trans f3).trans f4) ((g2.trans g3).trans g4) r⟩
theorem ev_cmp {op : CmpOp} (ha : EvD X a σ S F M Any d1 M1) (hb : EvD X b σ S F M1 Any d2 M2) (ho : OpD X (.cmp op) S d1 d2 T d) (hm : behindInMarks op b = false) : EvD X (.Compare a [op] [b] pos) σ S F M T d M2 := fun F1 H f h Q q =>
  ⟨_, fun i => pe_cmpR (op_w _ i) (pe_w a i) (pe_w b i) hm, ha F1 H f h _ fun v1 F2 H2 h2 f2 g2 r1 => hb F2 H2 (f.trans f2) h2 _ fun v2 F3 H3 h3 f3 g3 r2 =>
    ho v1 v2 F3 H3 _ h3 (r1.mono (fun _ h => h) f3) r2 Q fun v F4 H4 h4 f4 g4 r => q v F4 H4 h4 ((f2.trans f3).trans f4) ((g2.trans g3).trans g4) r⟩
theorem et_cmp {op : CmpOp} {k : Bool} (ha : EvD X a σ S F M Any d1 M1) (hb : EvD X b σ S F M1 Any d2 M2) (ho : OpD X (.cmp op) S d1 d2 Any (.bool k)) (hm : behindInMarks op b = false) : EvT X (.Compare a [op] [b] pos) σ S F M k M2 := fun F1 H f h Q q =>
  ⟨_, fun i => pt_cmpR (op_w _ i) (pe_w a i) (pe_w b i) hm, ha F1 H f h _ fun v1 F2 H2 h2 f2 g2 r1 => hb F2 H2 (f.trans f2) h2 _ fun v2 F3 H3 h3 f3 g3 r2 =>
    ho v1 v2 F3 H3 _ h3 (r1.mono (fun _ h => h) f3) r2 _ fun v F4 H4 h4 f4 g4 r => by
      cases r
      exact ⟨k, rfl, q H4 (h4.weak ((f2.trans f3).trans f4)) ((g2.trans g3).trans g4)⟩⟩
/-- a op b op2 c, both asked -/
theorem ev_chain {op op2 : CmpOp} {k1 k2 : Bool} (ha : EvD X a σ S F M Any d1 M1) (hb : EvD X b σ S F M1 Any d2 M1) (hc : EvD X c σ S F M1 Any d3 M1) (ho : OpD X (.cmp op) S d1 d2 Any (.bool k1)) (ho2 : OpD X (.cmp op2) S d2 d3 Any (.bool k2))
    (hm : lastMarks [op, op2] [b, c] = false) : EvD X (.Compare a [op, op2] [b, c] pos) σ S F M T (.bool (k1 && k2)) M1 := fun F1 H f h Q q =>
  ⟨_, fun i => pe_chain (op_w _ i) (op_w _ i) (pe_w a i) (pe_w b i) (pe_w c i) hm, ha F1 H f h _ fun v1 F2 H2 h2 f2 g2 r1 => hb F2 H2 (f.trans f2) h2 _ fun v2 F3 H3 h3 f3 g3 r2 =>
    ho v1 v2 F3 H3 _ h3 (r1.mono (fun _ h => h) f3) r2 _ fun v F4 H4 h4 f4 g4 r => by
      cases r
      refine ⟨k1, rfl, ?_⟩
      cases k1 with
      | false => exact iteF (q _ F4 H4 h4 ((f2.trans f3).trans f4) ((g2.trans g3).trans g4) (.bl _))
      | true =>
        refine iteT ?_
        exact hc F4 H4 (((f.trans f2).trans f3).trans f4) h4 _ fun v3 F5 H5 h5 f5 g5 r3 => ho2 v2 v3 F5 H5 _ h5 (r2.mono (fun _ h => h) (f4.trans f5)) r3 _ fun v F6 H6 h6 f6 g6 r => by
          cases r
          exact q _ F6 H6 h6 ((((f2.trans f3).trans f4).trans f5).trans f6) ((((g2.trans g3).trans g4).trans g5).trans g6) (.bl _)⟩
theorem et_chain {op op2 : CmpOp} {k1 k2 : Bool} (ha : EvD X a σ S F M Any d1 M1) (hb : EvD X b σ S F M1 Any d2 M1) (hc : EvD X c σ S F M1 Any d3 M1) (ho : OpD X (.cmp op) S d1 d2 Any (.bool k1)) (ho2 : OpD X (.cmp op2) S d2 d3 Any (.bool k2))
    (hm : lastMarks [op, op2] [b, c] = false) : EvT X (.Compare a [op, op2] [b, c] pos) σ S F M (k1 && k2) M1 := fun F1 H f h Q q =>
  ⟨_, fun i => pt_chain (op_w _ i) (op_w _ i) (pe_w a i) (pe_w b i) (pe_w c i) hm, ha F1 H f h _ fun v1 F2 H2 h2 f2 g2 r1 => hb F2 H2 (f.trans f2) h2 _ fun v2 F3 H3 h3 f3 g3 r2 =>
    ho v1 v2 F3 H3 _ h3 (r1.mono (fun _ h => h) f3) r2 _ fun v F4 H4 h4 f4 g4 r => by
      cases r
      refine ⟨k1, rfl, ?_⟩
      cases k1 with
      | false => exact iteF ⟨_, rfl, (q H4 (h4.weak ((f2.trans f3).trans f4)) ((g2.trans g3).trans g4))⟩
      | true =>
        refine iteT ?_
        exact hc F4 H4 (((f.trans f2).trans f3).trans f4) h4 _ fun v3 F5 H5 h5 f5 g5 r3 => ho2 v2 v3 F5 H5 _ h5 (r2.mono (fun _ h => h) (f4.trans f5)) r3 _ fun v F6 H6 h6 f6 g6 r => by
          cases r
          exact ⟨_, rfl, q H6 (h6.weak ((((f2.trans f3).trans f4).trans f5).trans f6)) ((((g2.trans g3).trans g4).trans g5).trans g6)⟩⟩
/-! ### tests, and, or, not -/
theorem et_val {k : Bool} (ha : EvD X e σ S F M Any (.bool k) M1) (he : ∀ i whole, isTrue e (X i).env whole = (do let v ← whole; standAt e.pos; holding [v] (truthy v))) : EvT X e σ S F M k M1 := fun F1 H f h Q q =>
  ⟨_, fun i => pt_val (pe_w e i) (he i), ha F1 H f h _ fun v F2 H2 h2 f2 g2 r => by cases r; exact ⟨k, rfl, q H2 (h2.weak f2) g2⟩⟩
theorem et_not {k : Bool} (ha : EvT X a σ S F M k M1) : EvT X (.UnaryOp .Not a pos) σ S F M (!k) M1 := fun F1 H f h Q q =>
  ⟨_, fun i => pt_not (pt_w a i), ha F1 H f h _ q⟩
theorem ev_not {k : Bool} (ha : EvD X a σ S F M Any (.bool k) M1) : EvD X (.UnaryOp .Not a pos) σ S F M T (.bool (!k)) M1 := fun F1 H f h Q q =>
  ⟨_, fun i => pe_not (pe_w a i), ha F1 H f h _ fun v F2 H2 h2 f2 g2 r => by cases r; exact ⟨k, rfl, q _ F2 H2 h2 f2 g2 (.bl _)⟩⟩
def EvW (X : J → Cx) (e : Expr) (σ : L2.St) (S : Addr → Prop) (F : Hp) (M : Mu) (b : Bool) (M' : Mu) : Prop :=
  ∀ F1 H, Same F F1 → HM S F1 M H → ∀ Q : Bool → Hp → Prop, (∀ H', HM S F1 M' H' → Grow H H' → Q b H') → wW X e σ H Q
theorem et_w {k : Bool} (ha : EvW X e σ S F M k M1) : EvT X e σ S F M k M1 := fun F1 H f h Q q => by
  obtain ⟨t, ht, r⟩ := ha F1 H f h Q q
  exact ⟨t, fun i => (ht i).pt, r⟩
theorem ew_and1 {k : Bool} (ha : EvT X a σ S F M k M1) : EvW X (.BoolOp .And [a] pos) σ S F M k M1 := fun F1 H f h Q q => by
  obtain ⟨t, ht, r⟩ := ha F1 H f h Q q
  exact ⟨t, fun i => pw_and1 (ht i), r⟩
theorem ew_or1 {k : Bool} (ha : EvT X a σ S F M k M1) : EvW X (.BoolOp .Or [a] pos) σ S F M k M1 := fun F1 H f h Q q => by
  obtain ⟨t, ht, r⟩ := ha F1 H f h Q q
  exact ⟨t, fun i => pw_or1 (ht i), r⟩
theorem ew_and {k k2 : Bool} (ha : EvT X a σ S F M k M1) (hb : k = true → EvW X (.BoolOp .And (b :: es) pos) σ S F M1 k2 M1) : EvW X (.BoolOp .And (a :: b :: es) pos) σ S F M (k && k2) M1 := fun F1 H f h Q q =>
  ⟨_, fun i => pw_and (pt_w a i) (pw_w _ i), ha F1 H f h _ fun H2 h2 g2 => by
    cases k with
    | false => exact iteF (q H2 h2 g2)
    | true => exact iteT (hb rfl F1 H2 f h2 _ fun H3 h3 g3 => q H3 h3 (g2.trans g3))⟩
theorem ew_or {k k2 : Bool} (ha : EvT X a σ S F M k M1) (hb : k = false → EvW X (.BoolOp .Or (b :: es) pos) σ S F M1 k2 M1) : EvW X (.BoolOp .Or (a :: b :: es) pos) σ S F M (k || k2) M1 := fun F1 H f h Q q =>
  ⟨_, fun i => pw_or (pt_w a i) (pw_w _ i), ha F1 H f h _ fun H2 h2 g2 => by
    cases k with
    | true => exact iteT (q H2 h2 g2)
    | false => exact iteF (hb rfl F1 H2 f h2 _ fun H3 h3 g3 => q H3 h3 (g2.trans g3))⟩
theorem ev_one {op : BoolOp} (ha : EvD X a σ S F M T d M1) : EvD X (.BoolOp op [a] pos) σ S F M T d M1 := fun F1 H f h Q q => by
  obtain ⟨t, ht, r⟩ := ha F1 H f h Q q
  exact ⟨t, fun i => pe_one (ht i), r⟩
theorem ev_and {k k2 : Bool} (ha : EvD X a σ S F M Any (.bool k) M1) (hb : k = true → EvD X (.BoolOp .And (b :: es) pos) σ S F M1 Any (.bool k2) M1) : EvD X (.BoolOp .And (a :: b :: es) pos) σ S F M T (.bool (k && k2)) M1 := fun F1 H f h Q q =>
  ⟨_, fun i => pe_and (pe_w a i) (pe_w _ i), ha F1 H f h _ fun v F2 H2 h2 f2 g2 r => by
    cases r
    refine ⟨k, rfl, ?_⟩
    cases k with
    | false => exact iteF (q _ F2 H2 h2 f2 g2 (.bl _))
    | true => exact iteT (hb rfl F2 H2 (f.trans f2) h2 _ fun v F3 H3 h3 f3 g3 r => by cases r; exact q _ F3 H3 h3 (f2.trans f3) (g2.trans g3) (.bl _))⟩
theorem ev_or {k k2 : Bool} (ha : EvD X a σ S F M Any (.bool k) M1) (hb : k = false → EvD X (.BoolOp .Or (b :: es) pos) σ S F M1 Any (.bool k2) M1) : EvD X (.BoolOp .Or (a :: b :: es) pos) σ S F M T (.bool (k || k2)) M1 := fun F1 H f h Q q =>
  ⟨_, fun i => pe_or (pe_w a i) (pe_w _ i), ha F1 H f h _ fun v F2 H2 h2 f2 g2 r => by
    cases r
    refine ⟨k, rfl, ?_⟩
    cases k with
    | true => exact iteT (q _ F2 H2 h2 f2 g2 (.bl _))
    | false => exact iteF (hb rfl F2 H2 (f.trans f2) h2 _ fun v F3 H3 h3 f3 g3 r => by cases r; exact q _ F3 H3 h3 (f2.trans f3) (g2.trans g3) (.bl _))⟩
theorem ev_if {k : Bool} (hc : EvT X c σ S F M k M1) (ha : k = true → EvD X a σ S F M1 T d M2) (hb : k = false → EvD X b σ S F M1 T d M2) : EvD X (.IfExp c a b pos) σ S F M T d M2 := fun F1 H f h Q q =>
  ⟨_, fun i => pe_ifExp (pt_w c i) (pe_w a i) (pe_w b i), hc F1 H f h _ fun H2 h2 g2 => by
    cases k with
    | true => exact iteT (ha rfl F1 H2 f h2 _ fun v F3 H3 h3 f3 g3 r => q v F3 H3 h3 f3 (g2.trans g3) r)
    | false => exact iteF (hb rfl F1 H2 f h2 _ fun v F3 H3 h3 f3 g3 r => q v F3 H3 h3 f3 (g2.trans g3) r)⟩
/-! ### argument lists, displays -/
theorem ea_nil : EvA X [] σ S F M T [] M := fun F1 H f h Q q => ⟨_, fun i => pa_nil, q _ F1 H h (Same.refl _) (Grow.refl _) .nil⟩
theorem ea_cons (ha : EvD X e σ S F M T d M1) (hb : EvA X es σ S F M1 T ds M2) (hs : ∀ i, starEach (e :: es) (X i).env = (false, eval e (X i).env) :: starEach es (X i).env := by intro _; rfl) : EvA X (e :: es) σ S F M T (d :: ds) M2 := fun F1 H f h Q q =>
  ⟨_, fun i => pa_cons (pe_w e i) (pa_w es i) (hs i), ha F1 H f h _ fun v F2 H2 h2 f2 g2 r => hb F2 H2 (f.trans f2) h2 _ fun vs F3 H3 h3 f3 g3 rs => q _ F3 H3 h3 (f2.trans f3) (g2.trans g3) (.cons (r.mono (fun _ h => h) f3) rs)⟩
theorem ev_list (ha : EvA X es σ S F M T ds M1) (hz : ds.length ≤ sizeLine) (hT : ∀ a, S a → T a) : EvD X (.List es pos) σ S F M T (.list ds) M1 := fun F1 H f h Q q =>
  ⟨_, fun i => pe_lst (pa_w es i), ha F1 H f h _ fun vs F2 H2 h2 f2 g2 r => ⟨by rw [r.length]; exact hz, fun p hp =>
    q _ (upd F2 p (.lst vs)) _ (h2.new hp) (f2.trans (same_new (h2.fa.free hp))) (g2.trans grow_upd) (.lst (hT _ (h2.up _ hp)) upd_same (r.mono (fun _ h => h) (same_new (h2.fa.free hp))))⟩⟩
theorem ev_tup {j : Nat} (ha : EvA X es σ S F M T ds M1) (hz : ds.length ≤ sizeLine) (hT : ∀ a, S a → T a) : EvD X (.Tuple es j pos) σ S F M T (.tuple ds) M1 := fun F1 H f h Q q =>
  ⟨_, fun i => pe_tup (pa_w es i), ha F1 H f h _ fun vs F2 H2 h2 f2 g2 r => ⟨by rw [r.length]; exact hz, fun p hp =>
    q _ (upd F2 p (.tup vs)) _ (h2.new hp) (f2.trans (same_new (h2.fa.free hp))) (g2.trans grow_upd) (.tup (hT _ (h2.up _ hp)) upd_same (r.mono (fun _ h => h) (same_new (h2.fa.free hp))))⟩⟩
end
end G

namespace G
open PySem PySem.Spec PyProof.Rows L2
/-! ### texts by their signs -/
abbrev tx (w : List Nat) : Str := ⟨w.toArray⟩
theorem tx_tl (x : Str) : tx x.cps.toList = x := by cases x; rfl
theorem tx_app (a b : List Nat) : tx a ++ tx b = tx (a ++ b) := TL.ext_tl (by rw [TL.tl_append])
theorem tx_len (a : List Nat) : (tx a).length = a.length := by
  show a.toArray.size = a.length
  simp
theorem tx_inj {a b : List Nat} (h : tx a = tx b) : a = b := by
  have := congrArg (fun s : Str => s.cps.toList) h
  simpa using this
theorem tx_eq (a b : List Nat) : (tx a == tx b) = (a == b) := by
  by_cases h : a = b
  · subst h; simp
  · have : ¬ tx a = tx b := fun q => h (tx_inj q)
    rw [beq_eq_false_iff_ne.mpr this, beq_eq_false_iff_ne.mpr h]
def cutL {α : Type} (l : List α) (lo hi : Option Int) : List α := (l.drop (HT.sIx l.length 0 lo)).take (HT.sIx l.length l.length hi - HT.sIx l.length 0 lo)
theorem cutV_cutL (xs : List V) (lo hi : Option Int) : cutV xs lo hi = cutL xs lo hi := rfl
theorem cutS_tx (w : List Nat) (lo hi : Option Int) : cutS (tx w) lo hi = tx (cutL w lo hi) := by
  unfold cutS cutL
  rw [tx_len]
theorem cutL_from {α : Type} (l : List α) (k : Nat) : cutL l (some (k : Int)) none = l.drop k := by
  unfold cutL
  rw [HT.sIx_nat, HT.sIx_none]
  by_cases h : k ≤ l.length
  · rw [Nat.min_eq_left h, List.take_of_length_le (by rw [List.length_drop]; exact Nat.le_refl _)]
  · rw [Nat.min_eq_right (by omega), List.drop_eq_nil_of_le (Nat.le_refl _), List.drop_eq_nil_of_le (by omega), List.take_nil]
theorem cutL_to {α : Type} (l : List α) (k : Nat) : cutL l none (some (k : Int)) = l.take k := by
  unfold cutL
  rw [HT.sIx_nat, HT.sIx_none, List.drop_zero, Nat.sub_zero]
  by_cases h : k ≤ l.length
  · rw [Nat.min_eq_left h]
  · rw [Nat.min_eq_right (by omega), List.take_length, List.take_of_length_le (by omega)]
theorem cutL_two {α : Type} (l : List α) (i k : Nat) : cutL l (some (i : Int)) (some (k : Int)) = (l.drop i).take (k - i) := by
  unfold cutL
  rw [HT.sIx_nat, HT.sIx_nat]
  by_cases h : i ≤ l.length
  · rw [Nat.min_eq_left h]
    by_cases h2 : k ≤ l.length
    · rw [Nat.min_eq_left h2]
    · rw [Nat.min_eq_right (by omega), List.take_of_length_le (by rw [List.length_drop]; omega), List.take_of_length_le (by rw [List.length_drop]; omega)]
  · rw [Nat.min_eq_right (by omega : l.length ≤ i), List.drop_eq_nil_of_le (Nat.le_refl _), List.drop_eq_nil_of_le (by omega), List.take_nil, List.take_nil]
theorem cutL_le {α : Type} (l : List α) (lo hi : Option Int) : (cutL l lo hi).length ≤ l.length := by
  unfold cutL
  rw [List.length_take, List.length_drop]
  omega
theorem sz {n : Nat} (h : n ≤ 16777216) : n ≤ sizeLine := by rw [sizeLine_eq]; exact h

section
variable {S T : Addr → Prop} {H H' F : Hp}
theorem FdA.cut' {vs : List V} {ds : List PyData} (lo hi : Option Int) (h : FdA S H vs ds) : FdA S H (cutL vs lo hi) (cutL ds lo hi) := by
  unfold cutL
  rw [h.length]
  exact FdA.take _ (FdA.drop _ h)
def flatD : PyData → Bool
  | .none => true
  | .bool _ => true
  | .int _ => true
  | .str _ => true
  | _ => false
theorem Fd.flat {v : V} {d : PyData} (h : Fd S H v d) (f : flatD d = true) : Fd T H' v d := by
  cases h with
  | non => exact .non
  | bl b => exact .bl b
  | int i => exact .int i
  | str x => exact .str x
  | lst => exact nomatch f
  | tup => exact nomatch f
theorem Fd.flatV {v : V} {d : PyData} (h : Fd S H v d) (f : flatD d = true) : L2.flatV v = true := by
  cases h with
  | non => rfl
  | bl b => rfl
  | int i => rfl
  | str x => rfl
  | lst => exact nomatch f
  | tup => exact nomatch f
theorem FdA.flat : ∀ {vs : List V} {ds : List PyData}, FdA S H vs ds → ds.all flatD = true → FdA T H' vs ds
  | _, _, .nil, _ => .nil
  | _, _, .cons a r, f => by
    rw [List.all_cons, Bool.and_eq_true] at f
    exact .cons (a.flat f.1) (FdA.flat r f.2)
theorem FdA.flatV : ∀ {vs : List V} {ds : List PyData}, FdA S H vs ds → ds.all flatD = true → vs.all L2.flatV = true
  | _, _, .nil, _ => rfl
  | _, _, .cons a r, f => by
    rw [List.all_cons, Bool.and_eq_true] at f
    rw [List.all_cons, a.flatV f.1, FdA.flatV r f.2]; rfl
def inD (d : PyData) (ds : List PyData) : Bool := ds.any fun e => PyData.eqv e d
theorem eqV_eqv {v u : V} {d e : PyData} (h : Fd S H v d) (h2 : Fd T H' u e) (f : flatD d = true) (f2 : flatD e = true) : eqV v u = PyData.eqv d e := by
  cases h <;> cases h2 <;> first | rfl | exact nomatch f | exact nomatch f2
theorem inV_inD {v : V} {d : PyData} (h : Fd S H v d) (f : flatD d = true) : ∀ {vs : List V} {ds : List PyData}, FdA T H' vs ds → ds.all flatD = true → inV v vs = inD d ds
  | _, _, .nil, _ => rfl
  | _, _, .cons a r, f2 => by
    rw [List.all_cons, Bool.and_eq_true] at f2
    have ih := inV_inD h f r f2.2
    unfold inV inD at ih ⊢
    rw [List.any_cons, List.any_cons, ih, eqV_eqv a h f2.1 f]
end

section
variable {C : Ctx} {N : List Str} {sc : Scope} {fn : Str → Bool} {k : Nat} {J : Type} {X : J → Cx}
variable {a b c e : Expr} {es : List Expr} {pos pos' pos'' : Pos} {σ : L2.St} {S T U : Addr → Prop} {F F' F1 H H' : Hp} {M M' M1 M2 M3 : Mu} {d d1 d2 d3 : PyData} {ds es1 es2 : List PyData}
/-! ### operators by data -/
theorem od_int {f : OpK} {g : Int → Int → V} {i j : Int} (ho : ∀ n, OpR (X n) f.fn (rI0 g)) (hd : Fd T H (g i j) d) (ff : flatD d = true) : OpD X f S (.int i) (.int j) T d := fun v1 v2 F H M h r1 r2 Q q => by
  cases r1; cases r2
  exact ⟨_, ho, _, _, rfl, rfl, q _ F H h (Same.refl _) (Grow.refl _) (hd.flat ff)⟩
theorem od_intC {f : OpK} {P : Int → Int → Prop} {g : Int → Int → V} {i j : Int} (ho : ∀ n, OpR (X n) f.fn (rI P g)) (hp : P i j) (hd : Fd T H (g i j) d) (ff : flatD d = true) : OpD X f S (.int i) (.int j) T d := fun v1 v2 F H M h r1 r2 Q q => by
  cases r1; cases r2
  exact ⟨_, ho, _, _, rfl, rfl, hp, q _ F H h (Same.refl _) (Grow.refl _) (hd.flat ff)⟩
theorem od_add {i j : Int} : OpD X (.bin .Add) S (.int i) (.int j) T (.int (i + j)) := od_int (H := fun _ => none) (fun _ => op_add) (.int _) rfl
theorem od_sub {i j : Int} : OpD X (.bin .Sub) S (.int i) (.int j) T (.int (i - j)) := od_int (H := fun _ => none) (fun _ => op_sub) (.int _) rfl
theorem od_mul {i j : Int} (h : CMul i j) : OpD X (.bin .Mult) S (.int i) (.int j) T (.int (i * j)) := od_intC (H := fun _ => none) (fun _ => op_mul) h (.int _) rfl
theorem od_fdiv {i j : Int} (h : CDiv i j) : OpD X (.bin .FloorDiv) S (.int i) (.int j) T (.int (i / j)) := od_intC (H := fun _ => none) (fun _ => op_fdiv) h (.int _) rfl
theorem od_mod {i j : Int} (h : 0 < j) : OpD X (.bin .Mod) S (.int i) (.int j) T (.int (i % j)) := od_intC (H := fun _ => none) (fun _ => op_mod) h (.int _) rfl
theorem od_lt {i j : Int} : OpD X (.cmp .Lt) S (.int i) (.int j) T (.bool (decide (i < j))) := od_int (H := fun _ => none) (fun _ => op_lt) (.bl _) rfl
theorem od_le {i j : Int} : OpD X (.cmp .LtE) S (.int i) (.int j) T (.bool (decide (i ≤ j))) := od_int (H := fun _ => none) (fun _ => op_le) (.bl _) rfl
theorem od_gt {i j : Int} : OpD X (.cmp .Gt) S (.int i) (.int j) T (.bool (decide (j < i))) := od_int (H := fun _ => none) (fun _ => op_gt) (.bl _) rfl
theorem od_ge {i j : Int} : OpD X (.cmp .GtE) S (.int i) (.int j) T (.bool (decide (j ≤ i))) := od_int (H := fun _ => none) (fun _ => op_ge) (.bl _) rfl
theorem od_adds {u w : List Nat} (hz : u.length + w.length ≤ sizeLine) : OpD X (.bin .Add) S (.str (tx u)) (.str (tx w)) T (.str (tx (u ++ w))) := fun v1 v2 F H M h r1 r2 Q q => by
  cases r1; cases r2
  exact ⟨_, fun n => op_add_str, _, _, rfl, rfl, by rw [tx_len, tx_len]; exact hz, q _ F H h (Same.refl _) (Grow.refl _) (by rw [tx_app]; exact .str _)⟩
theorem od_cat (hz : es1.length + es2.length ≤ sizeLine) : OpD X (.bin .Add) S (.list es1) (.list es2) Any (.list (es1 ++ es2)) := fun v1 v2 F H M h r1 r2 Q q => by
  cases r1 with
  | lst _ e1 q1 =>
    cases r2 with
    | lst _ e2 q2 =>
      refine ⟨_, fun n => op_cat, _, _, _, _, rfl, rfl, h.fa _ _ e1, h.fa _ _ e2, by rw [q1.length, q2.length]; exact hz, fun p hp => ?_⟩
      exact q _ (upd F p _) _ (h.new hp) (same_new (h.fa.free hp)) grow_upd (.lst trivial upd_same ((q1.app q2).mono (fun _ h => h) (same_new (h.fa.free hp))))
theorem od_catF (hz : es1.length + es2.length ≤ sizeLine) (hf : (es1 ++ es2).all flatD = true) (hT : ∀ a, S a → T a) : OpD X (.bin .Add) S (.list es1) (.list es2) T (.list (es1 ++ es2)) := fun v1 v2 F H M h r1 r2 Q q => by
  cases r1 with
  | lst _ e1 q1 =>
    cases r2 with
    | lst _ e2 q2 =>
      refine ⟨_, fun n => op_cat, _, _, _, _, rfl, rfl, h.fa _ _ e1, h.fa _ _ e2, by rw [q1.length, q2.length]; exact hz, fun p hp => ?_⟩
      exact q _ (upd F p _) _ (h.new hp) (same_new (h.fa.free hp)) grow_upd (.lst (hT _ (h.up _ hp)) upd_same ((q1.app q2).flat hf))
theorem od_catT (hx : SX C N sc fn k X) (hz : es1.length + es2.length ≤ sizeLine) : OpD X (.bin .Add) S (.tuple es1) (.tuple es2) Any (.tuple (es1 ++ es2)) := fun v1 v2 F H M h r1 r2 Q q => by
  cases r1 with
  | @tup a1 xs _ _ e1 q1 =>
    cases r2 with
    | @tup a2 ys _ _ e2 q2 =>
      refine ⟨rCatA C.K, fun n => by rw [← hx.K n]; exact op_catA, _, _, _, _, rfl, rfl, SqT.of (h.fa _ _ e1), SqT.of (h.fa _ _ e2), by rw [q1.length, q2.length]; exact hz, ?_, ?_, ?_⟩
      · intro z
        subst z
        cases q1
        exact q _ F _ h (Same.refl _) (Grow.refl _) (.tup trivial e2 q2)
      · intro _ z
        subst z
        cases q2
        rw [List.append_nil] at q
        exact q _ F _ h (Same.refl _) (Grow.refl _) (.tup trivial e1 q1)
      · intro _ _ p hp
        exact q _ (upd F p _) _ (h.new hp) (same_new (h.fa.free hp)) grow_upd (.tup trivial upd_same ((q1.app q2).mono (fun _ h => h) (same_new (h.fa.free hp))))
theorem od_rep {n : Int} (h1 : -(2 ^ 63) ≤ n) (h2 : n < 2 ^ 63) (hz : es1.length * n.toNat ≤ sizeLine) (hf : es1.all flatD = true) (hT : ∀ a, S a → T a) : OpD X (.bin .Mult) S (.list es1) (.int n) T (.list (List.replicate n.toNat es1).flatten) := fun v1 v2 F H M h r1 r2 Q q => by
  cases r2
  cases r1 with
  | lst _ e1 q1 =>
    refine ⟨_, fun i => op_rep, _, _, _, rfl, rfl, h.fa _ _ e1, h1, h2, by rw [q1.length]; exact hz, fun p hp => ?_⟩
    refine q _ (upd F p _) _ (h.new hp) (same_new (h.fa.free hp)) grow_upd (.lst (hT _ (h.up _ hp)) upd_same ?_)
    have : ∀ m : Nat, FdA Any F (List.replicate m _).flatten (List.replicate m es1).flatten := fun m => by
      induction m with
      | zero => exact .nil
      | succ m ih => rw [List.replicate_succ, List.replicate_succ, List.flatten_cons, List.flatten_cons]; exact q1.app ih
    refine (this _).flat ?_
    rw [List.all_eq_true] at hf ⊢
    intro x hx
    obtain ⟨l, hl, hxl⟩ := List.mem_flatten.mp hx
    rw [(List.mem_replicate.mp hl).2] at hxl
    exact hf x hxl
theorem od_eq (hx : SX C N sc fn k X) (s1 : SeqAt.shaped d1 = true) (s2 : SeqAt.shaped d2 = true) : OpD X (.cmp .Eq) S d1 d2 T (.bool (PyData.eqv d1 d2)) := fun v1 v2 F H M h r1 r2 Q q =>
  ⟨rEqD C.K, fun n => by rw [← hx.K n]; exact op_eqD (hx.room n).units, d1, d2, (r1.mono (fun _ h => h) h.fa).dp _, (r2.mono (fun _ h => h) h.fa).dp _, s1, s2, q _ F H h (Same.refl _) (Grow.refl _) (.bl _)⟩
theorem od_ne (hx : SX C N sc fn k X) (s1 : SeqAt.shaped d1 = true) (s2 : SeqAt.shaped d2 = true) : OpD X (.cmp .NotEq) S d1 d2 T (.bool (!PyData.eqv d1 d2)) := fun v1 v2 F H M h r1 r2 Q q =>
  ⟨rNeD C.K, fun n => by rw [← hx.K n]; exact op_neD (hx.room n).units, d1, d2, (r1.mono (fun _ h => h) h.fa).dp _, (r2.mono (fun _ h => h) h.fa).dp _, s1, s2, q _ F H h (Same.refl _) (Grow.refl _) (.bl _)⟩
theorem od_is {c : Bool} (hc : (match d1 with | .none => true | _ => false) = c) : OpD X (.cmp .Is) S d1 .none T (.bool c) := fun v1 v2 F H M h r1 r2 Q q => by
  cases r2
  refine ⟨_, fun n => op_isN, rfl, ?_⟩
  have : decide (v1 = V.non) = c := by subst hc; cases r1 <;> rfl
  rw [this]
  exact q _ F H h (Same.refl _) (Grow.refl _) (.bl _)
theorem od_isnot {c : Bool} (hc : (match d1 with | .none => true | _ => false) = c) : OpD X (.cmp .IsNot) S d1 .none T (.bool (!c)) := fun v1 v2 F H M h r1 r2 Q q => by
  cases r2
  refine ⟨_, fun n => op_notN, rfl, ?_⟩
  have : decide (v1 = V.non) = c := by subst hc; cases r1 <;> rfl
  rw [this]
  exact q _ F H h (Same.refl _) (Grow.refl _) (.bl _)
theorem od_inL (hx : SX C N sc fn k X) (f1 : flatD d1 = true) (f2 : ds.all flatD = true) : OpD X (.cmp .In) S d1 (.list ds) T (.bool (inD d1 ds)) := fun v1 v2 F H M h r1 r2 Q q => by
  cases r2 with
  | lst _ e2 q2 =>
    refine ⟨rIn C.K false, fun n => by rw [← hx.K n]; exact op_in_seq, _, _, rfl, .inl (SqL.of (h.fa _ _ e2)), r1.flatV f1, q2.flatV f2, ?_⟩
    rw [inV_inD r1 f1 q2 f2]
    exact q _ F H h (Same.refl _) (Grow.refl _) (.bl _)
theorem od_notinL (hx : SX C N sc fn k X) (f1 : flatD d1 = true) (f2 : ds.all flatD = true) : OpD X (.cmp .NotIn) S d1 (.list ds) T (.bool (!inD d1 ds)) := fun v1 v2 F H M h r1 r2 Q q => by
  cases r2 with
  | lst _ e2 q2 =>
    refine ⟨rIn C.K true, fun n => by rw [← hx.K n]; exact op_notIn_seq, _, _, rfl, .inl (SqL.of (h.fa _ _ e2)), r1.flatV f1, q2.flatV f2, ?_⟩
    rw [inV_inD r1 f1 q2 f2]
    exact q _ F H h (Same.refl _) (Grow.refl _) (.bl _)
theorem od_inT (hx : SX C N sc fn k X) (f1 : flatD d1 = true) (f2 : ds.all flatD = true) : OpD X (.cmp .In) S d1 (.tuple ds) T (.bool (inD d1 ds)) := fun v1 v2 F H M h r1 r2 Q q => by
  cases r2 with
  | tup _ e2 q2 =>
    refine ⟨rIn C.K false, fun n => by rw [← hx.K n]; exact op_in_seq, _, _, rfl, .inr (SqT.of (h.fa _ _ e2)), r1.flatV f1, q2.flatV f2, ?_⟩
    rw [inV_inD r1 f1 q2 f2]
    exact q _ F H h (Same.refl _) (Grow.refl _) (.bl _)
theorem od_notinT (hx : SX C N sc fn k X) (f1 : flatD d1 = true) (f2 : ds.all flatD = true) : OpD X (.cmp .NotIn) S d1 (.tuple ds) T (.bool (!inD d1 ds)) := fun v1 v2 F H M h r1 r2 Q q => by
  cases r2 with
  | tup _ e2 q2 =>
    refine ⟨rIn C.K true, fun n => by rw [← hx.K n]; exact op_notIn_seq, _, _, rfl, .inr (SqT.of (h.fa _ _ e2)), r1.flatV f1, q2.flatV f2, ?_⟩
    rw [inV_inD r1 f1 q2 f2]
    exact q _ F H h (Same.refl _) (Grow.refl _) (.bl _)
/-- a text in a text: it stands there at some place -/
def inS (u w : List Nat) : Bool := !(Builtin.Str.occurrences (tx w) (tx u) 0 (tx w).length 1).isEmpty
theorem od_inS {u w : List Nat} : OpD X (.cmp .In) S (.str (tx u)) (.str (tx w)) T (.bool (inS u w)) := fun v1 v2 F H M h r1 r2 Q q => by
  cases r1; cases r2
  exact ⟨_, fun n => op_in_str, _, _, rfl, rfl, q _ F H h (Same.refl _) (Grow.refl _) (.bl _)⟩
theorem od_notinS {u w : List Nat} : OpD X (.cmp .NotIn) S (.str (tx u)) (.str (tx w)) T (.bool (!inS u w)) := fun v1 v2 F H M h r1 r2 Q q => by
  cases r1; cases r2
  exact ⟨_, fun n => op_notIn_str, _, _, rfl, rfl, q _ F H h (Same.refl _) (Grow.refl _) (.bl _)⟩
theorem od_ltS {u w : List Nat} : OpD X (.cmp .Lt) S (.str (tx u)) (.str (tx w)) T (.bool (decide (u < w))) := fun v1 v2 F H M h r1 r2 Q q => by
  cases r1; cases r2
  exact ⟨_, fun n => op_lt_str, _, _, rfl, rfl, q _ F H h (Same.refl _) (Grow.refl _) (.bl _)⟩
theorem od_gtS {u w : List Nat} : OpD X (.cmp .Gt) S (.str (tx u)) (.str (tx w)) T (.bool (decide (w < u))) := fun v1 v2 F H M h r1 r2 Q q => by
  cases r1; cases r2
  exact ⟨_, fun n => op_gt_str, _, _, rfl, rfl, q _ F H h (Same.refl _) (Grow.refl _) (.bl _)⟩

/-! ### subscripts, slices -/
theorem ev_ixL {i : Int} (hx : SX C N sc fn k X) (ha : EvD X a σ S F M T (.list ds) M1) (hb : EvD X b σ S F M1 Any (.int i) M2) (hd : atI ds i = some d) (hs : PlainIx b) : EvD X (.Subscript a b pos) σ S F M T d M2 := fun F1 H f h Q q =>
  ⟨_, fun n => pe_ix (r := rIxL C.K) (by rw [← hx.K n]; exact ix_list) (pe_w a n) (pe_w b n) hs, ha F1 H f h _ fun v1 F2 H2 h2 f2 g2 r1 => hb F2 H2 (f.trans f2) h2 _ fun v2 F3 H3 h3 f3 g3 r2 => by
    cases r2
    cases r1 with
    | @lst p xs _ _ e1 q1 =>
      obtain ⟨j, hj, hdj, hlt, _, _⟩ := atI_get hd
      obtain ⟨v, hv, r⟩ := q1.get hdj
      have ha' : atI xs i = some v := by
        unfold atI at hd ⊢
        rw [q1.length]
        cases hh : ixN ds.length i with
        | none => rw [hh] at hd; cases hd
        | some m =>
          have e := (ixN_seq hh).1
          rw [hj] at e
          cases e
          exact hv
      exact ⟨p, xs, i, v, rfl, rfl, SqL.of (h3.fa _ _ (f3 _ _ e1)), ha', q v F3 H3 h3 (f2.trans f3) (g2.trans g3) (r.mono (fun _ h => h) f3)⟩⟩
theorem ev_ixT {i : Int} (hx : SX C N sc fn k X) (ha : EvD X a σ S F M T (.tuple ds) M1) (hb : EvD X b σ S F M1 Any (.int i) M2) (hd : atI ds i = some d) (hs : PlainIx b) : EvD X (.Subscript a b pos) σ S F M T d M2 := fun F1 H f h Q q =>
  ⟨_, fun n => pe_ix (r := rIxT C.K) (by rw [← hx.K n]; exact ix_tup) (pe_w a n) (pe_w b n) hs, ha F1 H f h _ fun v1 F2 H2 h2 f2 g2 r1 => hb F2 H2 (f.trans f2) h2 _ fun v2 F3 H3 h3 f3 g3 r2 => by
    cases r2
    cases r1 with
    | @tup p xs _ _ e1 q1 =>
      obtain ⟨j, hj, hdj, hlt, _, _⟩ := atI_get hd
      obtain ⟨v, hv, r⟩ := q1.get hdj
      have ha' : atI xs i = some v := by
        unfold atI at hd ⊢
        rw [q1.length]
        cases hh : ixN ds.length i with
        | none => rw [hh] at hd; cases hd
        | some m =>
          have e := (ixN_seq hh).1
          rw [hj] at e
          cases e
          exact hv
      exact ⟨p, xs, i, v, rfl, rfl, SqT.of (h3.fa _ _ (f3 _ _ e1)), ha', q v F3 H3 h3 (f2.trans f3) (g2.trans g3) (r.mono (fun _ h => h) f3)⟩⟩
theorem ev_ixS {i : Int} {w : List Nat} {s : Nat} (ha : EvD X a σ S F M Any (.str (tx w)) M1) (hb : EvD X b σ S F M1 Any (.int i) M2) (hz : w.length ≤ sizeLine) (hd : atI w i = some s) (hs : PlainIx b) : EvD X (.Subscript a b pos) σ S F M T (.str (tx [s])) M2 := fun F1 H f h Q q =>
  ⟨_, fun n => pe_ix ix_str (pe_w a n) (pe_w b n) hs, ha F1 H f h _ fun v1 F2 H2 h2 f2 g2 r1 => hb F2 H2 (f.trans f2) h2 _ fun v2 F3 H3 h3 f3 g3 r2 => by
    cases r2
    cases r1
    exact ⟨_, i, s, rfl, rfl, by rw [tx_len]; exact hz, hd, q _ F3 H3 h3 (f2.trans f3) (g2.trans g3) (.str _)⟩⟩
/-- a slice's part -/
def EvO (X : J → Cx) (e : Option Expr) (σ : L2.St) (S : Addr → Prop) (F : Hp) (M : Mu) (o : Option Int) (M' : Mu) : Prop :=
  match e with
  | none => o = none ∧ M' = M
  | some e => ∃ i : Int, o = some i ∧ EvD X e σ S F M Any (.int i) M'
theorem eo_none : EvO X none σ S F M none M := ⟨rfl, rfl⟩
theorem eo_some {i : Int} (h : EvD X e σ S F M Any (.int i) M1) : EvO X (some e) σ S F M (some i) M1 := ⟨i, rfl, h⟩
def wPart (X : J → Cx) (e : Option Expr) : TO := match e with
  | none => tNoPart
  | some e => tPart (wE X e)
theorem po_w (e : Option Expr) (i : J) : PO (X i) e (wPart X e) := by
  cases e with
  | none => exact po_none
  | some e => exact po_some (pe_w e i)
theorem EvO.run {e : Option Expr} {o : Option Int} (h : EvO X e σ S F M o M') (f : Same F F1) (hm : HM S F1 M H) {Q : Option Int → Hp → Prop} (q : ∀ H', HM S F1 M' H' → Grow H H' → Q o H') : wPart X e σ H Q := by
  cases e with
  | none => obtain ⟨rfl, rfl⟩ := h; exact q H hm (Grow.refl _)
  | some e =>
    obtain ⟨i, rfl, h⟩ := h
    exact h F1 H f hm _ fun v F2 H2 h2 f2 g2 r => by cases r; exact ⟨i, rfl, q H2 (h2.weak f2) g2⟩
theorem ev_slS {lo hi : Option Expr} {l u : Option Int} {w : List Nat} (ha : EvD X a σ S F M Any (.str (tx w)) M1) (hl : EvO X lo σ S F M1 l M2) (hu : EvO X hi σ S F M2 u M3) (hz : w.length ≤ sizeLine) :
    EvD X (.Subscript a (.Slice lo hi none pos') pos) σ S F M T (.str (tx (cutL w l u))) M3 := fun F1 H f h Q q =>
  ⟨_, fun n => pe_slice sl_str (pe_w a n) (po_w lo n) (po_w hi n), ha F1 H f h _ fun v1 F2 H2 h2 f2 g2 r1 => hl.run (f.trans f2) h2 fun H3 h3 g3 => hu.run (f.trans f2) h3 fun H4 h4 g4 => by
    cases r1
    exact ⟨_, rfl, by rw [tx_len]; exact hz, q _ F2 H4 h4 f2 ((g2.trans g3).trans g4) (by rw [cutS_tx]; exact .str _)⟩⟩
theorem ev_slL {lo hi : Option Expr} {l u : Option Int} (hx : SX C N sc fn k X) (ha : EvD X a σ S F M Any (.list ds) M1) (hl : EvO X lo σ S F M1 l M2) (hu : EvO X hi σ S F M2 u M3) :
    EvD X (.Subscript a (.Slice lo hi none pos') pos) σ S F M Any (.list (cutL ds l u)) M3 := fun F1 H f h Q q =>
  ⟨_, fun n => pe_slice (r := rSlL C.K) (by rw [← hx.K n]; exact sl_list) (pe_w a n) (po_w lo n) (po_w hi n), ha F1 H f h _ fun v1 F2 H2 h2 f2 g2 r1 => hl.run (f.trans f2) h2 fun H3 h3 g3 => hu.run (f.trans f2) h3 fun H4 h4 g4 => by
    cases r1 with
    | @lst p xs _ _ e1 q1 =>
      exact ⟨p, xs, rfl, SqL.of (h4.fa _ _ e1), fun z hz => q _ (upd F2 z _) _ (h4.new hz) (f2.trans (same_new (h4.fa.free hz))) (((g2.trans g3).trans g4).trans grow_upd) (.lst trivial upd_same ((q1.cut' l u).mono (fun _ h => h) (same_new (h4.fa.free hz))))⟩⟩
theorem ev_slLF {lo hi : Option Expr} {l u : Option Int} (hx : SX C N sc fn k X) (ha : EvD X a σ S F M Any (.list ds) M1) (hl : EvO X lo σ S F M1 l M2) (hu : EvO X hi σ S F M2 u M3) (hf : (cutL ds l u).all flatD = true) (hT : ∀ a, S a → T a) :
    EvD X (.Subscript a (.Slice lo hi none pos') pos) σ S F M T (.list (cutL ds l u)) M3 := fun F1 H f h Q q =>
  ⟨_, fun n => pe_slice (r := rSlL C.K) (by rw [← hx.K n]; exact sl_list) (pe_w a n) (po_w lo n) (po_w hi n), ha F1 H f h _ fun v1 F2 H2 h2 f2 g2 r1 => hl.run (f.trans f2) h2 fun H3 h3 g3 => hu.run (f.trans f2) h3 fun H4 h4 g4 => by
    cases r1 with
    | @lst p xs _ _ e1 q1 =>
      exact ⟨p, xs, rfl, SqL.of (h4.fa _ _ e1), fun z hz => q _ (upd F2 z _) _ (h4.new hz) (f2.trans (same_new (h4.fa.free hz))) (((g2.trans g3).trans g4).trans grow_upd) (.lst (hT _ (h4.up _ hz)) upd_same ((q1.cut' l u).flat hf))⟩⟩
theorem ev_slT {lo hi : Option Expr} {l u : Option Int} (hx : SX C N sc fn k X) (ha : EvD X a σ S F M Any (.tuple ds) M1) (hl : EvO X lo σ S F M1 l M2) (hu : EvO X hi σ S F M2 u M3) :
    EvD X (.Subscript a (.Slice lo hi none pos') pos) σ S F M Any (.tuple (cutL ds l u)) M3 := fun F1 H f h Q q =>
  ⟨_, fun n => pe_slice (r := rSlA C.K) (by rw [← hx.K n]; exact sl_tupA) (pe_w a n) (po_w lo n) (po_w hi n), ha F1 H f h _ fun v1 F2 H2 h2 f2 g2 r1 => hl.run (f.trans f2) h2 fun H3 h3 g3 => hu.run (f.trans f2) h3 fun H4 h4 g4 => by
    cases r1 with
    | @tup p xs _ _ e1 q1 =>
      refine ⟨p, xs, rfl, SqT.of (h4.fa _ _ e1), fun hw => ?_, fun _ z hz => q _ (upd F2 z _) _ (h4.new hz) (f2.trans (same_new (h4.fa.free hz))) (((g2.trans g3).trans g4).trans grow_upd) (.tup trivial upd_same ((q1.cut' l u).mono (fun _ h => h) (same_new (h4.fa.free hz))))⟩
      have e : cutL ds l u = ds := by
        unfold cutL
        rw [← q1.length, hw.1, hw.2, List.drop_zero, Nat.sub_zero, q1.length, List.take_length]
      rw [e] at q
      exact q _ F2 H4 h4 f2 ((g2.trans g3).trans g4) (.tup trivial e1 q1)⟩
end
end G

namespace G
open PySem PySem.Spec PyProof.Rows L2
/-! ### calls of own defs -/
structure Ok (C : Ctx) (k : Nat) (x : Str) (ps : List Str) (sp : Sp) : Prop where
  ex : ∃ (f : Addr) (fd : FuncData), C.mg x = some (.ref f) ∧ PySem.W.keepIn C.K (.ref f) = true ∧ Binds C.K fd ps [] ∧ FnOk C.P C.w C.K C.mg C.base CX0 k f fd ps sp
/-- what a promise is for data -/
def SpD (sp : Sp) (S : Addr → Prop) (M : Mu) (ds : List PyData) (T : Addr → Prop) (d : PyData) (M' : Mu) : Prop :=
  ∀ F H vs, HM S F M H → FdA Any F vs ds → ∀ Q : VK, (∀ v F' H', HM S F' M' H' → Same F F' → Grow H H' → Fd T F' v d → Q v H') → sp vs H Q E0
/-- a promise of data of data; what comes is new through and through -/
def spP (A : List PyData → PyData → Prop) : Sp := fun vs H Q _ => ∃ ds d, FdA Any H vs ds ∧ A ds d ∧ ∀ v H', Same H H' → Fd (fun a => H a = none) H' v d → Q v H'
theorem SpD.pure {A : List PyData → PyData → Prop} {S T : Addr → Prop} {M : Mu} {ds : List PyData} {d : PyData} (h : A ds d) (hT : ∀ a, S a → T a) : SpD (spP A) S M ds T d M := fun F H vs hm r Q q => by
  refine ⟨ds, d, r.mono (fun _ h => h) hm.fa, h, fun v H' s r' => ?_⟩
  classical
  refine q v (fun a => if H a = none then H' a else F a) H' ⟨fun a o e => ?_, fun m hm' => ?_, hm.nd, fun a ha => hm.up _ (s.free ha)⟩ (fun a o e => ?_) (fun a ha => s.free ha) (r'.cut fun a o hS e => ⟨?_, hT _ (hm.up _ hS)⟩)
  · by_cases c : H a = none
    · rw [if_pos c] at e; exact e
    · rw [if_neg c] at e; exact s _ _ (hm.fa _ _ e)
  · have e := (hm.mu m hm').1
    refine ⟨s _ _ e, ?_⟩
    show (if H m.1 = none then H' m.1 else F m.1) = none
    rw [if_neg (by rw [e]; exact fun z => nomatch z)]
    exact (hm.mu m hm').2
  · show (if H a = none then H' a else F a) = some o
    rw [if_neg (by rw [hm.fa _ _ e]; exact fun z => nomatch z)]
    exact e
  · show (if H a = none then H' a else F a) = some o
    rw [if_pos hS]
    exact e
section
variable {C : Ctx} {N : List Str} {sc : Scope} {fn : Str → Bool} {k : Nat} {J : Type} {X : J → Cx}
variable {a b c e : Expr} {es : List Expr} {pos pos' pos'' p p2 : Pos} {σ : L2.St} {S T U : Addr → Prop} {F F' F1 H H' : Hp} {M M' M1 M2 M3 : Mu} {d d1 d2 d3 : PyData} {ds es1 es2 : List PyData}
theorem ev_call {x : Str} {ps : List Str} {sp : Sp} {kk : Nat} (hx : SX C N sc fn k X) (ok : Ok C kk x ps sp) (hk : kk ≤ k) (hg : Gb sc x) (ha : EvA X (e :: es) σ S F M Any ds M1) (hs : SpD sp S M1 ds T d M2)
    (hdb : (x == ("__debug__" : Str)) = false) (he : ∀ i, starEach (e :: es) (X i).env = (false, eval e (X i).env) :: starEach es (X i).env := by intro _; rfl) (hpl : ∀ i, (backTo pos (starEach es (X i).env)).any (·.1) = false := by intro _; rfl) :
    EvD X (.Call (.Name x p) (e :: es) [] pos) σ S F M T d M2 := fun F1 H f h Q q => by
  obtain ⟨g, fd, hm, hkp, hb, G⟩ := ok.ex
  refine ⟨_, fun i => pe_call (E := E0) (dvs := []) (ds := []) (f := g) (fd := fd) (ps := ps) (sp := sp) (k := kk) (CX := CX0) ?_ ((hx.room i).mono hk) (gl_of hx hg i) ?_ ?_ ?_ .nil pass0 (pa_w (e :: es) i) hdb (he i) (hpl i), ha F1 H f h _ fun vs F2 H2 h2 f2 g2 r => ?_⟩
  · rw [hx.P i, hx.w i, hx.K i, hx.mg i, hx.base i]; exact G
  · rw [hx.mg i]; exact hm
  · rw [hx.K i]; exact hkp
  · rw [hx.K i]; exact hb
  · show sp (vs ++ []) H2 Q E0
    rw [List.append_nil]
    exact hs F2 H2 vs h2 r Q fun v F3 H3 h3 f3 g3 r3 => q v F3 H3 h3 (f2.trans f3) (g2.trans g3) r3
/-! ### built-in functions and types -/
/-- a call of a built-in by values -/
def CbD (X : J → Cx) (f : Value) (S : Addr → Prop) (M : Mu) (ds : List PyData) (T : Addr → Prop) (d : PyData) : Prop :=
  ∃ r, (∀ i, CallR (X i) f r) ∧ ∀ F H vs, HM S F M H → FdA Any F vs ds → ∀ Q : VK, (∀ v F' H', HM S F' M H' → Same F F' → Grow H H' → Fd T F' v d → Q v H') → r vs H Q
theorem ev_cb {id : String} (hx : SX C N sc fn k X) (hm : C.mg (Str.ofString id) = none) (hg : Gb sc (Str.ofString id)) (hv : bootBuiltins (Str.ofString id) = some (.builtin id)) (ha : EvA X (e :: es) σ S F M Any ds M1) (hc : CbD X (.builtin id) S M1 ds T d)
    (hn : Str.ofString id ≠ "__name__") (hdb : (Str.ofString id == ("__debug__" : Str)) = false) (he : ∀ i, starEach (e :: es) (X i).env = (false, eval e (X i).env) :: starEach es (X i).env := by intro _; rfl) (hpl : ∀ i, (backTo pos (starEach es (X i).env)).any (·.1) = false := by intro _; rfl) :
    EvD X (.Call (.Name (Str.ofString id) p) (e :: es) [] pos) σ S F M T d M1 := fun F1 H f h Q q => by
  obtain ⟨r, hr, hq⟩ := hc
  exact ⟨_, fun i => pe_callB (hr i) (gl_of hx hg i) (by rw [hx.mg i]; exact hm) hv (pa_w (e :: es) i) hn hdb (he i) (hpl i), ha F1 H f h _ fun vs F2 H2 h2 f2 g2 rs =>
    hq F2 H2 vs h2 rs Q fun v F3 H3 h3 f3 g3 r3 => q v F3 H3 h3 (f2.trans f3) (g2.trans g3) r3⟩
theorem ev_ct {id : String} (hx : SX C N sc fn k X) (hm : C.mg (Str.ofString id) = none) (hg : Gb sc (Str.ofString id)) (hv : bootBuiltins (Str.ofString id) = some (.type id)) (ha : EvA X (e :: es) σ S F M Any ds M1) (hc : CbD X (.type id) S M1 ds T d)
    (hn : Str.ofString id ≠ "__name__") (hdb : (Str.ofString id == ("__debug__" : Str)) = false) (he : ∀ i, starEach (e :: es) (X i).env = (false, eval e (X i).env) :: starEach es (X i).env := by intro _; rfl) (hpl : ∀ i, (backTo pos (starEach es (X i).env)).any (·.1) = false := by intro _; rfl) :
    EvD X (.Call (.Name (Str.ofString id) p) (e :: es) [] pos) σ S F M T d M1 := fun F1 H f h Q q => by
  obtain ⟨r, hr, hq⟩ := hc
  exact ⟨_, fun i => pe_callTy (hr i) (gl_of hx hg i) (by rw [hx.mg i]; exact hm) hv (pa_w (e :: es) i) hn hdb (he i) (hpl i), ha F1 H f h _ fun vs F2 H2 h2 f2 g2 rs =>
    hq F2 H2 vs h2 rs Q fun v F3 H3 h3 f3 g3 r3 => q v F3 H3 h3 (f2.trans f3) (g2.trans g3) r3⟩
theorem FdA.one {S : Addr → Prop} {H : Hp} {vs : List V} {d : PyData} (h : FdA S H vs [d]) : ∃ v, vs = [v] ∧ Fd S H v d := by
  cases h with
  | cons a r => cases r; exact ⟨_, rfl, a⟩
theorem FdA.two {S : Addr → Prop} {H : Hp} {vs : List V} {d e : PyData} (h : FdA S H vs [d, e]) : ∃ v u, vs = [v, u] ∧ Fd S H v d ∧ Fd S H u e := by
  cases h with
  | cons a r =>
    obtain ⟨u, rfl, b⟩ := FdA.one r
    exact ⟨_, _, rfl, a, b⟩
theorem cb_lenS {w : List Nat} (hz : w.length ≤ sizeLine) : CbD X (.builtin "len") S M [.str (tx w)] T (.int w.length) := ⟨_, fun i => call_len_str, fun F H vs h r Q q => by
  obtain ⟨v, rfl, a⟩ := r.one
  cases a
  refine ⟨_, rfl, by rw [tx_len]; exact hz, ?_⟩
  rw [tx_len]
  exact q _ F H h (Same.refl _) (Grow.refl _) (.int _)⟩
def rLenSeq (K : PySem.W.Frag) : List V → Hp → VK → Prop := fun xs H Q => ∃ p ys, xs = [.ref p] ∧ (SqL K H p ys ∨ SqT K H p ys) ∧ Q (.int ys.length) H
theorem cb_lenL (hx : SX C N sc fn k X) : CbD X (.builtin "len") S M [.list ds] T (.int ds.length) := ⟨rLenSeq C.K, fun i => by rw [← hx.K i]; exact call_len_seq, fun F H vs h r Q q => by
  obtain ⟨v, rfl, a⟩ := r.one
  cases a with
  | lst _ e1 q1 => exact ⟨_, _, rfl, .inl (SqL.of (h.fa _ _ e1)), by rw [q1.length]; exact q _ F H h (Same.refl _) (Grow.refl _) (.int _)⟩⟩
theorem cb_lenT (hx : SX C N sc fn k X) : CbD X (.builtin "len") S M [.tuple ds] T (.int ds.length) := ⟨rLenSeq C.K, fun i => by rw [← hx.K i]; exact call_len_seq, fun F H vs h r Q q => by
  obtain ⟨v, rfl, a⟩ := r.one
  cases a with
  | tup _ e1 q1 => exact ⟨_, _, rfl, .inr (SqT.of (h.fa _ _ e1)), by rw [q1.length]; exact q _ F H h (Same.refl _) (Grow.refl _) (.int _)⟩⟩
theorem cb_min2 {i j : Int} (hx : SX C N sc fn k X) : CbD X (.builtin "min") S M [.int i, .int j] T (.int (min i j)) := ⟨_, fun n => call_min2 (hx.calm n), fun F H vs h r Q q => by
  obtain ⟨v, u, rfl, a, b⟩ := r.two
  cases a; cases b
  refine ⟨_, _, rfl, ?_⟩
  have : (if j < i then j else i) = min i j := by split <;> omega
  rw [this]
  exact q _ F H h (Same.refl _) (Grow.refl _) (.int _)⟩
theorem cb_max2 {i j : Int} (hx : SX C N sc fn k X) : CbD X (.builtin "max") S M [.int i, .int j] T (.int (max i j)) := ⟨_, fun n => call_max2 (hx.calm n), fun F H vs h r Q q => by
  obtain ⟨v, u, rfl, a, b⟩ := r.two
  cases a; cases b
  refine ⟨_, _, rfl, ?_⟩
  have : (if j > i then j else i) = max i j := by split <;> omega
  rw [this]
  exact q _ F H h (Same.refl _) (Grow.refl _) (.int _)⟩
theorem cb_max {ns : List Int} {m : Int} (hx : SX C N sc fn k X) (hm : m ∈ ns) (hle : ∀ y ∈ ns, y ≤ m) : CbD X (.builtin "max") S M [.list (ns.map .int)] T (.int m) := ⟨rMax C.K, fun i => by rw [← hx.K i]; exact cr_max (hx.calm i), fun F H vs h r Q q => by
  obtain ⟨v, rfl, a⟩ := r.one
  cases a with
  | lst _ e1 q1 =>
    rw [q1.toInts] at e1
    refine ⟨_, ns, rfl, SqL.of (h.fa _ _ e1), List.length_pos_of_mem hm, fun m' h1 h2 => ?_⟩
    have : m' = m := Int.le_antisymm (hle _ h1) (h2 _ hm)
    subst this
    exact q _ F H h (Same.refl _) (Grow.refl _) (.int _)⟩
theorem cb_min {ns : List Int} {m : Int} (hx : SX C N sc fn k X) (hm : m ∈ ns) (hle : ∀ y ∈ ns, m ≤ y) : CbD X (.builtin "min") S M [.list (ns.map .int)] T (.int m) := ⟨rMin C.K, fun i => by rw [← hx.K i]; exact cr_min (hx.calm i), fun F H vs h r Q q => by
  obtain ⟨v, rfl, a⟩ := r.one
  cases a with
  | lst _ e1 q1 =>
    rw [q1.toInts] at e1
    refine ⟨_, ns, rfl, SqL.of (h.fa _ _ e1), List.length_pos_of_mem hm, fun m' h1 h2 => ?_⟩
    have : m' = m := Int.le_antisymm (h2 _ hm) (hle _ h1)
    subst this
    exact q _ F H h (Same.refl _) (Grow.refl _) (.int _)⟩
theorem cb_sum {ns : List Int} (hx : SX C N sc fn k X) : CbD X (.builtin "sum") S M [.list (ns.map .int)] T (.int ns.sum) := ⟨rSum C.K, fun i => by rw [← hx.K i]; exact cr_sum (hx.calm i), fun F H vs h r Q q => by
  obtain ⟨v, rfl, a⟩ := r.one
  cases a with
  | lst _ e1 q1 =>
    rw [q1.toInts] at e1
    exact ⟨_, ns, rfl, SqL.of (h.fa _ _ e1), q _ F H h (Same.refl _) (Grow.refl _) (.int _)⟩⟩
theorem cb_all {bs : List Bool} (hx : SX C N sc fn k X) : CbD X (.builtin "all") S M [.list (bs.map .bool)] T (.bool (bs.all id)) := ⟨rAll C.K, fun i => by rw [← hx.K i]; exact cr_all (hx.calm i), fun F H vs h r Q q => by
  obtain ⟨v, rfl, a⟩ := r.one
  cases a with
  | lst _ e1 q1 =>
    rw [q1.toBls] at e1
    exact ⟨_, bs, rfl, SqL.of (h.fa _ _ e1), q _ F H h (Same.refl _) (Grow.refl _) (.bl _)⟩⟩
theorem cb_int {n : Int} : CbD X (.type "int") S M [.int n] T (.int n) := ⟨_, fun i => call_int1, fun F H vs h r Q q => by
  obtain ⟨v, rfl, a⟩ := r.one
  cases a
  exact .inl ⟨_, rfl, q _ F H h (Same.refl _) (Grow.refl _) (.int _)⟩⟩
theorem cb_intB {b : Bool} : CbD X (.type "int") S M [.bool b] T (.int (if b then 1 else 0)) := ⟨_, fun i => call_int1, fun F H vs h r Q q => by
  obtain ⟨v, rfl, a⟩ := r.one
  cases a
  exact .inr ⟨_, rfl, q _ F H h (Same.refl _) (Grow.refl _) (.int _)⟩⟩
def rListSeq (K : PySem.W.Frag) : List V → Hp → VK → Prop := fun xs H Q => ∃ p ys, xs = [.ref p] ∧ (SqL K H p ys ∨ SqT K H p ys) ∧ ∀ l, H l = none → Q (.ref l) (upd H l (.lst ys))
theorem cb_list (hx : SX C N sc fn k X) : CbD X (.type "list") S M [.list ds] Any (.list ds) := ⟨rListSeq C.K, fun i => by rw [← hx.K i]; exact call_list_of, fun F H vs h r Q q => by
  obtain ⟨v, rfl, a⟩ := r.one
  cases a with
  | lst _ e1 q1 => exact ⟨_, _, rfl, .inl (SqL.of (h.fa _ _ e1)), fun l hl => q _ (upd F l _) _ (h.new hl) (same_new (h.fa.free hl)) grow_upd (.lst trivial upd_same (q1.mono (fun _ h => h) (same_new (h.fa.free hl))))⟩⟩
theorem cb_listF (hx : SX C N sc fn k X) (hf : ds.all flatD = true) (hT : ∀ a, S a → T a) : CbD X (.type "list") S M [.list ds] T (.list ds) := ⟨rListSeq C.K, fun i => by rw [← hx.K i]; exact call_list_of, fun F H vs h r Q q => by
  obtain ⟨v, rfl, a⟩ := r.one
  cases a with
  | lst _ e1 q1 => exact ⟨_, _, rfl, .inl (SqL.of (h.fa _ _ e1)), fun l hl => q _ (upd F l _) _ (h.new hl) (same_new (h.fa.free hl)) grow_upd (.lst (hT _ (h.up _ hl)) upd_same (q1.flat hf))⟩⟩
theorem cb_listT (hx : SX C N sc fn k X) (hf : ds.all flatD = true) (hT : ∀ a, S a → T a) : CbD X (.type "list") S M [.tuple ds] T (.list ds) := ⟨rListSeq C.K, fun i => by rw [← hx.K i]; exact call_list_of, fun F H vs h r Q q => by
  obtain ⟨v, rfl, a⟩ := r.one
  cases a with
  | tup _ e1 q1 => exact ⟨_, _, rfl, .inr (SqT.of (h.fa _ _ e1)), fun l hl => q _ (upd F l _) _ (h.new hl) (same_new (h.fa.free hl)) grow_upd (.lst (hT _ (h.up _ hl)) upd_same (q1.flat hf))⟩⟩
def rTupSeq (K : PySem.W.Frag) : List V → Hp → VK → Prop := fun xs H Q => ∃ p ys, xs = [.ref p] ∧ ((SqL K H p ys ∧ ∀ l, H l = none → Q (.ref l) (upd H l (.tup ys))) ∨ (SqT K H p ys ∧ Q (.ref p) H))
theorem cb_tupleF (hx : SX C N sc fn k X) (hf : ds.all flatD = true) (hT : ∀ a, S a → T a) : CbD X (.type "tuple") S M [.list ds] T (.tuple ds) := ⟨rTupSeq C.K, fun i => by rw [← hx.K i]; exact call_tuple_of, fun F H vs h r Q q => by
  obtain ⟨v, rfl, a⟩ := r.one
  cases a with
  | lst _ e1 q1 => exact ⟨_, _, rfl, .inl ⟨SqL.of (h.fa _ _ e1), fun l hl => q _ (upd F l _) _ (h.new hl) (same_new (h.fa.free hl)) grow_upd (.tup (hT _ (h.up _ hl)) upd_same (q1.flat hf))⟩⟩⟩
theorem cb_sorted {ns ms : List Int} (hx : SX C N sc fn k X) (hp : ms.Perm ns) (hs : ms.Pairwise (· ≤ ·)) (hT : ∀ a, S a → T a) : CbD X (.builtin "sorted") S M [.list (ns.map .int)] T (.list (ms.map .int)) := ⟨rSortedI C.K, fun i => by rw [← hx.K i]; exact cr_sortedI, fun F H vs h r Q q => by
  obtain ⟨v, rfl, a⟩ := r.one
  cases a with
  | lst _ e1 q1 =>
    rw [q1.toInts] at e1
    refine ⟨_, ns, rfl, SqL.of (h.fa _ _ e1), fun ns' l p' s' hl => ?_⟩
    have : ns' = ms := List.Perm.eq_of_pairwise (fun a b _ _ x y => Int.le_antisymm x y) s' hs (p'.trans hp.symm)
    subst this
    exact q _ (upd F l _) _ (h.new hl) (same_new (h.fa.free hl)) grow_upd (.lst (hT _ (h.up _ hl)) upd_same (FdA.ints _))⟩

/-! ### methods of texts -/
/-- a method of a text, one argument -/
theorem ev_m1 {m : Str} {id : String} {r : V → List V → Hp → VK → Prop} {apos : Pos} {x y : PyData} (slot : Slot "str" m id) (ty : typeOf (.builtin id) = pure (.type "method_descriptor")) (rule : ∀ i, MtR (X i) id r) (ha : EvD X a σ S F M Any x M1) (hb : EvD X b σ S F M1 Any y M2)
    (hxs : ∃ w, x = .str w) (hq : ∀ v u F1 H, HM S F1 M2 H → Fd Any F1 v x → Fd Any F1 u y → ∀ Q : VK, (∀ v' F' H', HM S F' M2 H' → Same F1 F' → Grow H H' → Fd T F' v' d → Q v' H') → r v [u] H Q)
    (hs : ∀ i, starEach [b] (X i).env = [(false, eval b (X i).env)] := by intro _; rfl) (hbase : ∀ i, attributeBase a m (X i).env (eval a (X i).env) = eval a (X i).env := by intro _; rfl) (hline : (apos.endLine == pos.line) = true := by rfl) :
    EvD X (.Call (.Attribute a m apos) [b] [] pos) σ S F M T d M2 := fun F1 H f h Q q => by
  refine ⟨_, fun i => pe_m1 slot ty (rule i) (pe_w a i) (pe_w b i) (hs i) (hbase i) hline, ha F1 H f h _ fun v1 F2 H2 h2 f2 g2 r1 => ?_⟩
  obtain ⟨w, rfl⟩ := hxs
  cases r1
  exact ⟨⟨w, rfl⟩, hb F2 H2 (f.trans f2) h2 _ fun v2 F3 H3 h3 f3 g3 r2 => hq _ _ F3 H3 h3 (.str _) r2 Q fun v F4 H4 h4 f4 g4 r => q v F4 H4 h4 ((f2.trans f3).trans f4) ((g2.trans g3).trans g4) r⟩
theorem ev_endswith {apos : Pos} {u w : List Nat} (ha : EvD X a σ S F M Any (.str (tx u)) M1) (hb : EvD X b σ S F M1 Any (.str (tx w)) M2)
    (hs : ∀ i, starEach [b] (X i).env = [(false, eval b (X i).env)] := by intro _; rfl) (hbase : ∀ i, attributeBase a "endswith" (X i).env (eval a (X i).env) = eval a (X i).env := by intro _; rfl) (hline : (apos.endLine == pos.line) = true := by rfl) :
    EvD X (.Call (.Attribute a "endswith" apos) [b] [] pos) σ S F M T (.bool (Txt.endswith (tx u) (tx w))) M2 :=
  ev_m1 PySem.F.slot_str_endswith PySem.F.type_str_endswith (fun _ => mt_endswith) ha hb ⟨_, rfl⟩ (fun v u F1 H h r1 r2 Q q => by cases r1; cases r2; exact ⟨_, _, rfl, rfl, q _ F1 H h (Same.refl _) (Grow.refl _) (.bl _)⟩) hs hbase hline
theorem ev_find {apos : Pos} {u w : List Nat} (ha : EvD X a σ S F M Any (.str (tx u)) M1) (hb : EvD X b σ S F M1 Any (.str (tx w)) M2)
    (hs : ∀ i, starEach [b] (X i).env = [(false, eval b (X i).env)] := by intro _; rfl) (hbase : ∀ i, attributeBase a "find" (X i).env (eval a (X i).env) = eval a (X i).env := by intro _; rfl) (hline : (apos.endLine == pos.line) = true := by rfl) :
    EvD X (.Call (.Attribute a "find" apos) [b] [] pos) σ S F M T (.int (Txt.find (tx u) (tx w))) M2 :=
  ev_m1 PySem.F.slot_str_find PySem.F.type_str_find (fun _ => mt_find) ha hb ⟨_, rfl⟩ (fun v u F1 H h r1 r2 Q q => by cases r1; cases r2; exact ⟨_, _, rfl, rfl, q _ F1 H h (Same.refl _) (Grow.refl _) (.int _)⟩) hs hbase hline
def rJoin (K : PySem.W.Frag) : V → List V → Hp → VK → Prop := fun x xs H Q => ∃ a p, ∃ ys : List Str, x = .str a ∧ xs = [.ref p] ∧ (SqL K H p (ys.map V.str) ∨ SqT K H p (ys.map V.str)) ∧
    (ys.map (·.length)).sum + ys.length * a.length ≤ 16777216 ∧ Q (.str (Txt.join a ys)) H
/-- ''.join(texts) -/
theorem join_empty : ∀ ws : List (List Nat), Str.join (tx []) (ws.map tx) = tx ws.flatten
  | [] => rfl
  | [x] => by show tx x = _; simp
  | x :: y :: r => by
    have ih := join_empty (y :: r)
    show tx x ++ tx [] ++ Str.join (tx []) ((y :: r).map tx) = _
    rw [ih, tx_app, tx_app, List.append_nil]
    rfl
theorem ev_join0 {apos : Pos} {ws : List (List Nat)} (hx : SX C N sc fn k X) (ha : EvD X a σ S F M Any (.str (tx [])) M1) (hb : EvD X b σ S F M1 Any (.list (ws.map fun w => .str (tx w))) M2) (hz : (ws.map (·.length)).sum ≤ 16777216)
    (hs : ∀ i, starEach [b] (X i).env = [(false, eval b (X i).env)] := by intro _; rfl) (hbase : ∀ i, attributeBase a "join" (X i).env (eval a (X i).env) = eval a (X i).env := by intro _; rfl) (hline : (apos.endLine == pos.line) = true := by rfl) :
    EvD X (.Call (.Attribute a "join" apos) [b] [] pos) σ S F M T (.str (tx ws.flatten)) M2 :=
  ev_m1 PySem.F.slot_str_join PySem.F.type_str_join (r := rJoin C.K) (fun i => by rw [← hx.K i]; exact mt_join) ha hb ⟨_, rfl⟩ (fun v u F1 H h r1 r2 Q q => by
    cases r1
    cases r2 with
    | lst _ e1 q1 =>
      have q2 := FdA.toStrs (ns := ws.map tx) (by rw [List.map_map]; exact q1)
      rw [q2] at e1
      refine ⟨_, _, ws.map tx, rfl, rfl, .inl (SqL.of (h.fa _ _ e1)), ?_, ?_⟩
      · have z : (tx []).length = 0 := rfl
        rw [z, Nat.mul_zero, Nat.add_zero, List.map_map]
        have : ((fun x => x.length) ∘ tx) = fun w : List Nat => w.length := by funext w; exact tx_len w
        rw [this]
        exact hz
      · rw [TL.join_eq, join_empty]
        exact q _ F1 H h (Same.refl _) (Grow.refl _) (.str _)) hs hbase hline
end
end G

namespace G
open PySem PySem.Spec PyProof.Rows L2
/-! ### what is walked -/
def Src (S : Addr → Prop) (F : Hp) (J : It) (src : List PyData) : Prop := ∀ F1 H (M : Mu) i, Same F F1 → HM S F1 M H → (i < src.length → J.go i H) ∧ (src.length ≤ i → J.stop i H) ∧
  ∀ x H', i < src.length → J.yld i H x H' → ∃ d F2, src[i]? = some d ∧ HM S F2 M H' ∧ Same F1 F2 ∧ Grow H H' ∧ Fd Any F2 x d
def ItD {J : Type} (X : J → Cx) (tg it : Expr) (σ : L2.St) (S : Addr → Prop) (F : Hp) (M : Mu) (src : List PyData) (M' : Mu) : Prop :=
  ∀ F1 H, Same F F1 → HM S F1 M H → ∀ R : It → Hp → Prop, (∀ Jt F' H', HM S F' M' H' → Same F1 F' → Grow H H' → Src S F' Jt src → R Jt H') → wI X tg it σ H R
def setAll (σ : L2.St) : List Nat → List V → L2.St
  | i :: is, v :: vs => setAll (σ.set i (some v)) is vs
  | _, _ => σ
def TgD {J : Type} (X : J → Cx) (tg : Expr) (is : List Nat) (un : PyData → Option (List PyData)) : Prop :=
  ∀ (T : Addr → Prop) F H v d es σ, ∀ Q : L2.St → Hp → Prop, Same F H → Fd T F v d → un d = some es → es.length = is.length → (∀ vs, FdA T F vs es → Q (setAll σ is vs) H) → wG X tg v σ H Q
def un1 (d : PyData) : Option (List PyData) := some [d]
def unT (d : PyData) : Option (List PyData) := match d with
  | .tuple ds => some ds
  | _ => none
theorem SqL_inj {K : PySem.W.Frag} {H : Hp} {a : Addr} {xs : List V} (h : H a = some (.lst xs)) (h2 : SqL K H a xs) : True := trivial
section
variable {C : Ctx} {N : List Str} {sc : Scope} {fn : Str → Bool} {k : Nat} {J : Type} {X : J → Cx}
variable {a b c e tg it : Expr} {es : List Expr} {pos pos' pos'' p p2 : Pos} {σ : L2.St} {S T U : Addr → Prop} {F F' F1 H H' : Hp} {M M' M1 M2 M3 : Mu} {d d1 d2 d3 : PyData} {ds es1 es2 src : List PyData}
theorem tg_name {x : Str} {j : Nat} (hx : SX C N sc fn k X) (nm : Nm N j x) (hl : Loc sc x) (hf : fn x = true ∨ sc.names.lookup x = some .local) : TgD X (.Name x pos) [j] un1 := fun T F H v d es σ Q f r hu hl' q => by
  cases hu
  refine ⟨_, fun i => pg_name (i := j) (by rw [hx.Nx i]; exact hx.nd) (by rw [hx.Nx i]; exact nm.at_) (by rw [hx.scx i]; exact hl) (hf.elim (fun h => .inl (hx.fnx i _ h)) (fun h => .inr (by rw [hx.scx i]; exact h))), ?_⟩
  exact q [v] (.cons r .nil)
/-- names one by one -/
def TgsD (X : J → Cx) (es : List Expr) (is : List Nat) : Prop := ∀ i, PGs (X i) es (fun vs σ H Q => vs.length = is.length ∧ Q (setAll σ is vs) H)
theorem tgs_nil : TgsD X [] [] := fun i => ⟨fun pins s σ H vs us Q I r h => by
  obtain ⟨h1, h2⟩ := h
  exact pgs_nil.run pins s σ H vs us Q I r ⟨List.eq_nil_of_length_eq_zero h1, by cases vs with | nil => exact h2 | cons => simp at h1⟩⟩
theorem tgs_cons {x : Str} {j : Nat} {is : List Nat} (hx : SX C N sc fn k X) (nm : Nm N j x) (hl : Loc sc x) (hf : fn x = true ∨ sc.names.lookup x = some .local) (h : TgsD X es is)
    (hs : ∀ i, (assignEach (.Name x pos :: es) (X i).env).map (·.2) = assign (.Name x pos) (X i).env :: (assignEach es (X i).env).map (·.2) := by intro _; rfl) : TgsD X (.Name x pos :: es) (j :: is) := fun i => by
  have h1 : PG (X i) (.Name x pos) (gName j) := pg_name (by rw [hx.Nx i]; exact hx.nd) (by rw [hx.Nx i]; exact nm.at_) (by rw [hx.scx i]; exact hl) (hf.elim (fun h => .inl (hx.fnx i _ h)) (fun h => .inr (by rw [hx.scx i]; exact h)))
  refine ⟨fun pins s σ H vs us Q I r hq => (pgs_cons h1 (h i) (hs i)).run pins s σ H vs us Q I r ?_⟩
  obtain ⟨hlen, hq⟩ := hq
  cases vs with
  | nil => simp at hlen
  | cons v vs => exact ⟨v, vs, rfl, by simpa using hlen, hq⟩
theorem tg_tup {is : List Nat} {kk : Nat} (hx : SX C N sc fn k X) (h : TgsD X es is) (hn : ∀ i, (assignEach es (X i).env).length = is.length := by intro _; rfl) (hst : ∀ i, (assignEach es (X i).env).findIdx? (·.1) = none := by intro _; rfl) :
    TgD X (.Tuple es kk pos) is unT := fun T F H v d es' σ Q f r hu hl q => by
  cases r with
  | tup _ e1 q1 =>
    cases hu
    refine ⟨gTup C.K is.length _, fun i => by rw [← hx.K i]; exact pg_tup (hx.calm i) (h i) (hn i) (hst i), ?_⟩
    exact ⟨_, _, rfl, SqT.of (f _ _ e1), by rw [q1.length]; exact hl, by rw [q1.length]; exact hl, q _ q1⟩
  | non => exact nomatch hu
  | bl => exact nomatch hu
  | int => exact nomatch hu
  | str => exact nomatch hu
  | lst => exact nomatch hu
/-- x, y = a list of two -/
theorem tg_unl {is : List Nat} {kk : Nat} (hx : SX C N sc fn k X) (h : TgsD X es is) (hn : ∀ i, (assignEach es (X i).env).length = is.length := by intro _; rfl) (hst : ∀ i, (assignEach es (X i).env).findIdx? (·.1) = none := by intro _; rfl) :
    TgD X (.Tuple es kk pos) is (fun d => match d with | .list ds => some ds | _ => none) := fun T F H v d es' σ Q f r hu hl q => by
  cases r with
  | lst _ e1 q1 =>
    cases hu
    refine ⟨gUnl C.K is.length _, fun i => by rw [← hx.K i]; exact pg_unl (hx.calm i) (h i) (hn i) (hst i), ?_⟩
    exact ⟨_, _, rfl, SqL.of (f _ _ e1), by rw [q1.length]; exact hl, by rw [q1.length]; exact hl, q _ q1⟩
  | non => exact nomatch hu
  | bl => exact nomatch hu
  | int => exact nomatch hu
  | str => exact nomatch hu
  | tup => exact nomatch hu
/-! sources -/
theorem SqL.eqH {K : PySem.W.Frag} {H : Hp} {a : Addr} {xs : List V} (h : SqL K H a xs) : True := trivial
theorem src_list {K : PySem.W.Frag} {x : Addr} {xs : List V} (h : F x = some (.lst xs)) (r : FdA Any F xs ds) : Src S F (Itl K x) ds := fun F1 H M i f hm => by
  have hH : H x = some (.lst xs) := hm.fa _ _ (f _ _ h)
  refine ⟨fun hi => ?_, fun hi => ⟨xs, SqL.of hH, by rw [r.length]; exact hi⟩, fun v H' hlt hy => ?_⟩
  · have : i < xs.length := by rw [r.length]; exact hi
    exact ⟨xs, _, SqL.of hH, List.getElem?_eq_getElem this⟩
  · obtain ⟨rfl, hy⟩ := hy
    obtain ⟨d, hd, rd⟩ := r.getV (hy xs (SqL.of hH))
    exact ⟨d, F1, hd, hm, Same.refl _, Grow.refl _, rd.mono (fun _ h => h) f⟩
theorem it_list (hx : SX C N sc fn k X) (he : EvD X it σ S F M Any (.list ds) M1) : ItD X tg it σ S F M ds M1 := fun F1 H f h R q =>
  ⟨iList C.K (wE X it), fun i => by rw [← hx.K i]; exact pi_list (pe_w it i), he F1 H f h _ fun v F2 H2 h2 f2 g2 r => by
    cases r with
    | lst _ e1 q1 => exact ⟨_, rfl, ⟨_, SqL.of (h2.fa _ _ e1)⟩, q _ F2 H2 h2 f2 g2 (src_list e1 q1)⟩⟩
theorem it_tup (hx : SX C N sc fn k X) (he : EvD X it σ S F M Any (.tuple ds) M1) : ItD X tg it σ S F M ds M1 := fun F1 H f h R q =>
  ⟨iTup C.K (wE X it), fun i => by rw [← hx.K i]; exact pi_tup (pe_w it i), he F1 H f h _ fun v F2 H2 h2 f2 g2 r => by
    cases r with
    | @tup x xs _ _ e1 q1 =>
      refine ⟨_, rfl, ⟨_, SqT.of (h2.fa _ _ e1)⟩, q _ F2 H2 h2 f2 g2 fun F3 H3 M3 i f3 hm => ?_⟩
      have hH : H3 x = some (.tup xs) := hm.fa _ _ (f3 _ _ e1)
      refine ⟨fun hi => ?_, fun hi => ⟨xs, SqT.of hH, by rw [q1.length]; exact hi⟩, fun v H' hlt hy => ?_⟩
      · have : i < xs.length := by rw [q1.length]; exact hi
        exact ⟨xs, _, SqT.of hH, List.getElem?_eq_getElem this⟩
      · obtain ⟨rfl, hy⟩ := hy
        obtain ⟨d, hd, rd⟩ := q1.getV (hy xs (SqT.of hH))
        exact ⟨d, F3, hd, hm, Same.refl _, Grow.refl _, rd.mono (fun _ h => h) f3⟩⟩
theorem it_str {w : List Nat} (he : EvD X it σ S F M Any (.str (tx w)) M1) : ItD X tg it σ S F M (w.map fun c => .str (tx [c])) M1 := fun F1 H f h R q =>
  ⟨_, fun i => pi_str (pe_w it i), he F1 H f h _ fun v F2 H2 h2 f2 g2 r => by
    cases r
    refine ⟨_, rfl, q _ F2 H2 h2 f2 g2 fun F3 H3 M3 i f3 hm => ⟨fun hi => ?_, fun hi => ?_, fun v H' hlt hy => ?_⟩⟩
    · rw [List.length_map] at hi
      show i < (tx w).cps.size
      have : (tx w).cps.size = w.length := tx_len w
      omega
    · rw [List.length_map] at hi
      show (tx w).cps.size ≤ i
      have : (tx w).cps.size = w.length := tx_len w
      omega
    · obtain ⟨rfl, c, hc, rfl⟩ := hy
      have hc' : w[i]? = some c := by simpa using hc
      exact ⟨_, F3, by rw [List.getElem?_map, hc']; rfl, hm, Same.refl _, Grow.refl _, .str _⟩⟩
theorem src_range {lo : Int} {n : Nat} : Src S F (Itr lo n) ((List.range n).map fun i : Nat => .int (lo + i)) := fun F1 H M i f hm => by
  refine ⟨fun hi => ?_, fun hi => ?_, fun v H' hlt hy => ?_⟩
  · rw [List.length_map, List.length_range] at hi; exact hi
  · rw [List.length_map, List.length_range] at hi; exact hi
  · obtain ⟨rfl, rfl⟩ := hy
    rw [List.length_map, List.length_range] at hlt
    exact ⟨_, F1, by rw [List.getElem?_map, List.getElem?_range hlt]; rfl, hm, Same.refl _, Grow.refl _, .int _⟩
def rangeD (n : Nat) : List PyData := (List.range n).map fun i : Nat => .int i
def rangeD2 (lo hi : Int) : List PyData := (List.range (hi - lo).toNat).map fun i : Nat => .int (lo + i)
theorem it_range1 {n : Int} (hx : SX C N sc fn k X) (hm : C.mg "range" = none) (hg : Gb sc "range") (he : EvD X a σ S F M Any (.int n) M1) (h1 : -(2 ^ 62) ≤ n) (h2 : n < 2 ^ 62)
    (hs : ∀ i, starEach [a] (X i).env = [(false, eval a (X i).env)] := by intro _; rfl) : ItD X tg (.Call (.Name "range" p) [a] [] pos) σ S F M (rangeD n.toNat) M1 := fun F1 H f h R q =>
  ⟨_, fun i => pi_range1 (gl_of hx hg i) (by rw [hx.mg i]; exact hm) (pa_cons (pe_w a i) pa_nil (hs i)) (hs i), he F1 H f h _ fun v F2 H2 hh2 f2 g2 r => by
    cases r
    refine ⟨n, rfl, h1, h2, q _ F2 H2 hh2 f2 g2 ?_⟩
    have := src_range (S := S) (F := F2) (lo := 0) (n := n.toNat)
    unfold rangeD
    simpa using this⟩
theorem it_range2 {n m : Int} (hx : SX C N sc fn k X) (hm : C.mg "range" = none) (hg : Gb sc "range") (he : EvD X a σ S F M Any (.int n) M1) (he2 : EvD X b σ S F M1 Any (.int m) M2)
    (hb : -(2 ^ 62) ≤ n ∧ n < 2 ^ 62 ∧ -(2 ^ 62) ≤ m ∧ m < 2 ^ 62)
    (hs : ∀ i, starEach [a, b] (X i).env = [(false, eval a (X i).env), (false, eval b (X i).env)] := by intro _; rfl) (hs2 : ∀ i, starEach [b] (X i).env = [(false, eval b (X i).env)] := by intro _; rfl) :
    ItD X tg (.Call (.Name "range" p) [a, b] [] pos) σ S F M (rangeD2 n m) M2 := fun F1 H f h R q =>
  ⟨_, fun i => pi_range2 (gl_of hx hg i) (by rw [hx.mg i]; exact hm) (pa_cons (pe_w a i) (pa_cons (pe_w b i) pa_nil (hs2 i)) (by rw [hs i, hs2 i])) (hs i) (hs2 i), he F1 H f h _ fun v F2 H2 hh2 f2 g2 r => he2 F2 H2 (f.trans f2) hh2 _ fun v3 F3 H3 hh3 f3 g3 r3 => by
    cases r
    cases r3
    exact ⟨n, m, rfl, hb, q _ F3 H3 hh3 (f2.trans f3) (g2.trans g3) src_range⟩⟩
def enumD (ds : List PyData) : List PyData := (List.range ds.length).map fun i : Nat => .tuple [.int i, ds.getD i .none]
theorem enumD_get {i : Nat} (h : ds[i]? = some d) : (enumD ds)[i]? = some (.tuple [.int i, d]) := by
  have hi : i < ds.length := (List.getElem?_eq_some_iff.mp h).1
  unfold enumD
  rw [List.getElem?_map, List.getElem?_range hi]
  show some (PyData.tuple [.int i, ds.getD i .none]) = _
  rw [List.getD_eq_getElem?_getD, h]; rfl
theorem it_enum {es : List Expr} {kk : Nat} (hx : SX C N sc fn k X) (hm : C.mg "enumerate" = none) (hg : Gb sc "enumerate") (he : EvD X a σ S F M Any (.list ds) M1)
    (hs : ∀ i, starEach [a] (X i).env = [(false, eval a (X i).env)] := by intro _; rfl) : ItD X (.Tuple es kk pos') (.Call (.Name "enumerate" p) [a] [] pos) σ S F M (enumD ds) M1 := fun F1 H f h R q =>
  ⟨iEnum C.K (tCons (wE X a) tNil), fun i => by rw [← hx.K i]; exact pi_enum (gl_of hx hg i) (by rw [hx.mg i]; exact hm) (pa_cons (pe_w a i) pa_nil (hs i)) (hs i), he F1 H f h _ fun v F2 H2 hh2 f2 g2 r => by
    cases r with
    | @lst x xs _ _ e1 q1 =>
      refine ⟨x, xs, rfl, SqL.of (hh2.fa _ _ e1), q _ F2 H2 hh2 f2 g2 fun F3 H3 M3 i f3 hm3 => ?_⟩
      have hH : H3 x = some (.lst xs) := hm3.fa _ _ (f3 _ _ e1)
      have hl : (enumD ds).length = xs.length := by unfold enumD; rw [List.length_map, List.length_range, q1.length]
      refine ⟨fun hi => ?_, fun hi => ⟨xs, SqL.of hH, by rw [← hl]; exact hi⟩, fun v H' hlt hy => ?_⟩
      · have : i < xs.length := by rw [← hl]; exact hi
        exact ⟨xs, _, SqL.of hH, List.getElem?_eq_getElem this⟩
      · obtain ⟨t, y, rfl, ht, rfl, hy⟩ := hy
        obtain ⟨d, hd, rd⟩ := q1.getV (hy xs (SqL.of hH))
        refine ⟨_, upd F3 t (.tup [.int i, y]), enumD_get hd, hm3.new ht, same_new (hm3.fa.free ht), grow_upd, .tup trivial upd_same (.cons (.int _) (.cons (rd.mono (fun _ h => h) (f3.trans (same_new (hm3.fa.free ht)))) .nil))⟩⟩
def zipD (ds es : List PyData) : List PyData := (List.range (min ds.length es.length)).map fun i : Nat => .tuple [ds.getD i .none, es.getD i .none]
theorem zipD_get {i : Nat} (h : ds[i]? = some d) (h2 : es1[i]? = some d2) : (zipD ds es1)[i]? = some (.tuple [d, d2]) := by
  have hi : i < ds.length := (List.getElem?_eq_some_iff.mp h).1
  have hj : i < es1.length := (List.getElem?_eq_some_iff.mp h2).1
  unfold zipD
  rw [List.getElem?_map, List.getElem?_range (by omega)]
  show some (PyData.tuple [ds.getD i .none, es1.getD i .none]) = _
  rw [List.getD_eq_getElem?_getD, h, List.getD_eq_getElem?_getD, h2]; rfl
theorem it_zip {es : List Expr} {kk : Nat} (hx : SX C N sc fn k X) (hm : C.mg "zip" = none) (hg : Gb sc "zip") (he : EvD X a σ S F M Any (.list ds) M1) (he2 : EvD X b σ S F M1 Any (.list es1) M2) (hl : ds.length = es1.length)
    (hs : ∀ i, starEach [a, b] (X i).env = (false, eval a (X i).env) :: starEach [b] (X i).env := by intro _; rfl) (hs2 : ∀ i, starEach [b] (X i).env = [(false, eval b (X i).env)] := by intro _; rfl) (hpl : ∀ i, (backTo pos (starEach [b] (X i).env)).any (·.1) = false := by intro _; rfl) :
    ItD X (.Tuple es kk pos') (.Call (.Name "zip" p) [a, b] [] pos) σ S F M (zipD ds es1) M2 := fun F1 H f h R q =>
  ⟨iZip C.K (tCons (wE X a) (tCons (wE X b) tNil)), fun i => by rw [← hx.K i]; exact pi_zip (gl_of hx hg i) (by rw [hx.mg i]; exact hm) (pa_cons (pe_w a i) (pa_cons (pe_w b i) pa_nil (hs2 i)) (hs i)) (hs i) (hpl i), he F1 H f h _ fun v F2 H2 hh2 f2 g2 r => he2 F2 H2 (f.trans f2) hh2 _ fun v3 F3 H3 hh3 f3 g3 r3 => by
    cases r with
    | @lst x xs _ _ e1 q1 =>
      cases r3 with
      | @lst y ys _ _ e3 q3 =>
        refine ⟨x, y, xs, ys, rfl, SqL.of (hh3.fa _ _ (f3 _ _ e1)), SqL.of (hh3.fa _ _ e3), q _ F3 H3 hh3 (f2.trans f3) (g2.trans g3) fun F4 H4 M4 i f4 hm4 => ?_⟩
        have hH : H4 x = some (.lst xs) := hm4.fa _ _ (f4 _ _ (f3 _ _ e1))
        have hH2 : H4 y = some (.lst ys) := hm4.fa _ _ (f4 _ _ e3)
        have l1 := q1.length
        have l2 := q3.length
        have hz : (zipD ds es1).length = xs.length := by unfold zipD; rw [List.length_map, List.length_range]; omega
        refine ⟨fun hi => ?_, fun hi => ⟨xs, ys, SqL.of hH, SqL.of hH2, .inl (by rw [← hz]; exact hi)⟩, fun v H' hlt hy => ?_⟩
        · have h1 : i < xs.length := by rw [← hz]; exact hi
          have h2 : i < ys.length := by omega
          exact ⟨xs, ys, _, _, SqL.of hH, SqL.of hH2, List.getElem?_eq_getElem h1, List.getElem?_eq_getElem h2⟩
        · obtain ⟨t, u, w, rfl, ht, rfl, hu, hw⟩ := hy
          obtain ⟨d, hd, rd⟩ := q1.getV (hu xs (SqL.of hH))
          obtain ⟨d', hd', rd'⟩ := q3.getV (hw ys (SqL.of hH2))
          refine ⟨_, upd F4 t (.tup [u, w]), zipD_get hd hd', hm4.new ht, same_new (hm4.fa.free ht), grow_upd, .tup trivial upd_same (.cons (rd.mono (fun _ h => h) ((f3.trans f4).trans (same_new (hm4.fa.free ht)))) (.cons (rd'.mono (fun _ h => h) (f4.trans (same_new (hm4.fa.free ht)))) .nil))⟩⟩
end
end G

namespace G
open PySem PySem.Spec PyProof.Rows L2
/-! ### comprehensions -/
theorem wipe_get (σ : L2.St) : ∀ (vs : List Nat) (n : Nat), (wipe σ vs)[n]? = if n ∈ vs then (if n < σ.length then some none else none) else σ[n]?
  | [], n => by rw [if_neg (by simp)]; rfl
  | v :: vs, n => by
    have ih := wipe_get σ vs n
    show ((wipe σ vs).set v none)[n]? = _
    rw [List.getElem?_set, wipe_length]
    by_cases c : v = n
    · subst c
      rw [if_pos rfl, if_pos (List.mem_cons_self)]
    · rw [if_neg c, ih]
      by_cases c2 : n ∈ vs
      · rw [if_pos c2, if_pos (List.mem_cons_of_mem _ c2)]
      · rw [if_neg c2, if_neg (by simp [Ne.symm c, c2])]
theorem setAll_length : ∀ (is : List Nat) (vs : List V) (σ : L2.St), (setAll σ is vs).length = σ.length
  | [], _, _ => rfl
  | _ :: _, [], _ => rfl
  | i :: is, v :: vs, σ => by show (setAll (σ.set i (some v)) is vs).length = _; rw [setAll_length is vs, List.length_set]
theorem setAll_out {n : Nat} : ∀ (is : List Nat) (vs : List V) (σ : L2.St), n ∉ is → (setAll σ is vs)[n]? = σ[n]?
  | [], _, _, _ => rfl
  | _ :: _, [], _, _ => rfl
  | i :: is, v :: vs, σ, h => by
    show (setAll (σ.set i (some v)) is vs)[n]? = _
    rw [setAll_out is vs _ (fun q => h (List.mem_cons_of_mem _ q)), List.getElem?_set_ne (fun q => h (by rw [q]; exact List.mem_cons_self))]
theorem wipe_setAll (σ : L2.St) (is : List Nat) (vs : List V) : wipe (setAll (wipe σ is) is vs) is = wipe σ is := by
  refine List.ext_getElem? fun n => ?_
  rw [wipe_get, wipe_get, setAll_length, wipe_length]
  by_cases c : n ∈ is
  · rw [if_pos c, if_pos c]
  · rw [if_neg c, if_neg c, setAll_out is vs _ c, wipe_get, if_neg c]
def wTs {J : Type} (X : J → Cx) (ifs : List Expr) : TT := fun s H Q => ∃ t : TT, (∀ i, PTs (X i) ifs t) ∧ t s H Q
theorem pts_w {J : Type} {X : J → Cx} (ifs : List Expr) (i : J) : PTs (X i) ifs (wTs X ifs) := ⟨fun pins s σ H Q I h => by obtain ⟨t, ht, q⟩ := h; exact (ht i).run pins s σ H Q I q⟩
def EvTs {J : Type} (X : J → Cx) (ifs : List Expr) (σ : L2.St) (S : Addr → Prop) (F : Hp) (M : Mu) (b : Bool) (M' : Mu) : Prop :=
  ∀ F1 H, Same F F1 → HM S F1 M H → ∀ Q : Bool → Hp → Prop, (∀ H', HM S F1 M' H' → Grow H H' → Q b H') → wTs X ifs σ H Q
/-- the items that are kept, from the front -/
def kept (p : Nat → Bool) (f : Nat → PyData) : Nat → List PyData
  | 0 => []
  | n + 1 => kept p f n ++ (if p n = true then [f n] else [])
theorem kept_len (p : Nat → Bool) (f : Nat → PyData) : ∀ n, (kept p f n).length ≤ n
  | 0 => Nat.le_refl _
  | n + 1 => by
    have := kept_len p f n
    unfold kept
    rw [List.length_append]
    split
    · simp; omega
    · simp; omega
section
variable {C : Ctx} {N : List Str} {sc : Scope} {fn : Str → Bool} {k : Nat} {J : Type} {X : J → Cx}
variable {a b c e tg it : Expr} {es ifs : List Expr} {pos pos' pos'' p p2 : Pos} {σ : L2.St} {S T U : Addr → Prop} {F F' F1 H H' : Hp} {M M' M1 M2 M3 : Mu} {d d1 d2 d3 : PyData} {ds es1 es2 src : List PyData}
theorem ets_nil : EvTs X [] σ S F M true M := fun F1 H f h Q q => ⟨_, fun i => pts_nil, q H h (Grow.refl _)⟩
theorem ets_one {b : Bool} (h : EvT X c σ S F M b M1) : EvTs X [c] σ S F M b M1 := fun F1 H f hm Q q => by
  obtain ⟨t, ht, r⟩ := h F1 H f hm Q q
  exact ⟨t, fun i => pts_one (ht i), r⟩
/-- what a comprehension comes to: the turn n has the item src[n]; its element is f n; it is kept if p n; the changing objects are Ms n -/
theorem lcD_core {scope : Scope} {own : List (Str × Nat)} {un : PyData → Option (List PyData)} {Ms : Nat → Mu} {pr : Nat → Bool} {f : Nat → PyData}
    (hx : SX C N sc fn k X) (hi : ItD X tg it σ S F M src (Ms 0)) (ok : blkC N sc scope own = true) (tgd : TgD (Xb X scope) tg (own.map (·.2)) un)
    (hun : ∀ (n : Nat) d, src[n]? = some d → ∃ es, un d = some es ∧ es.length = (own.map (·.2)).length)
    (hT : ∀ a, S a → T a) (hz : src.length < sizeLine)
    (ht : ∀ (n : Nat) d es vs F1 (m : Addr × HO), src[n]? = some d → un d = some es → Same F F1 → FdA Any F1 vs es → EvTs (Xb X scope) ifs (setAll (wipe σ (own.map (·.2))) (own.map (·.2)) vs) S F1 (Ms n ++ [m]) (pr n) ((if pr n = true then Ms n else Ms (n + 1)) ++ [m]))
    (he : ∀ (n : Nat) d es vs F1 (m : Addr × HO), src[n]? = some d → un d = some es → Same F F1 → FdA Any F1 vs es → pr n = true → EvD (Xb X scope) e (setAll (wipe σ (own.map (·.2))) (own.map (·.2)) vs) S F1 (Ms n ++ [m]) T (f n) (Ms (n + 1) ++ [m])) :
    ∀ F1 H, Same F F1 → HM S F1 M H → True ∧ ∀ Q : VK, (∀ v F' H', HM S F' (Ms src.length) H' → Same F1 F' → Grow H H' → Fd T F' v (.list (kept pr f src.length)) → Q v H') → tLc (wI X tg it) (wG (Xb X scope) tg) (wTs (Xb X scope) ifs) (wE (Xb X scope) e) (own.map (·.2)) σ H Q := by
  refine fun F1 H ff hm => ⟨trivial, fun Q q => ?_⟩
  refine hi F1 H ff hm _ fun Jt F2 H2 h2 f2 g2 hsrc => ?_
  intro D hD
  have hSD : S D := h2.up _ hD
  have hFD : F2 D = none := h2.fa.free hD
  refine ⟨fun i m H => m = src.length - i ∧ i ≤ src.length ∧ ∃ F3 acc, HM S F3 (Ms i ++ [(D, .lst acc)]) H ∧ Same F2 F3 ∧ Grow H2 H ∧ FdA T F3 acc (kept pr f i), ⟨src.length, by simp, Nat.zero_le _, F2, [], h2.newM hD, Same.refl _, grow_upd, .nil⟩, ?_⟩
  rintro i m H3 ⟨rfl, hi', F3, acc, h3, f3, g3, r3⟩
  obtain ⟨s1, s2, s3⟩ := hsrc F3 H3 _ i f3 h3
  by_cases hlt : i < src.length
  · refine .inr ⟨s1 hlt, fun H => ∃ F3 acc, HM S F3 (Ms (i + 1) ++ [(D, .lst acc)]) H ∧ Same F2 F3 ∧ Grow H2 H ∧ FdA T F3 acc (kept pr f (i + 1)), fun H' hh => ⟨src.length - (i + 1), by omega, rfl, hlt, hh⟩, fun x H' hy => ?_⟩
    obtain ⟨d, F4, hd, h4, f4, g4, rx⟩ := s3 x H' hlt hy
    obtain ⟨es, hu, hl⟩ := hun i d hd
    refine tgd Any F4 H' x d es _ _ h4.fa rx hu hl fun vs rv => ⟨wipe_setAll _ _ _, ?_⟩
    have fF4 : Same F F4 := (((ff.trans f2).trans f3).trans f4)
    refine ht i d es vs F4 (D, .lst acc) hd hu fF4 rv F4 H' (Same.refl _) h4 _ fun H5 h5 g5 => ?_
    cases hp : pr i with
    | false =>
      rw [hp] at h5
      refine iteF ⟨F4, acc, h5, f3.trans f4, (g3.trans g4).trans g5, ?_⟩
      show FdA T F4 acc (kept pr f i ++ (if pr i = true then [f i] else []))
      rw [hp, if_neg Bool.false_ne_true, List.append_nil]
      exact r3.mono (fun _ h => h) f4
    | true =>
      rw [hp] at h5
      refine iteT ?_
      refine he i d es vs F4 (D, .lst acc) hd hu fF4 rv hp F4 H5 (Same.refl _) h5 _ fun y F6 H6 h6 f6 g6 ry => ?_
      have hmem : (D, HO.lst acc) ∈ Ms (i + 1) ++ [(D, HO.lst acc)] := List.mem_append_right _ List.mem_cons_self
      refine ⟨acc, (h6.mu _ hmem).1, by have := r3.length; have := kept_len pr f i; omega, F6, acc ++ [y], ?_, (f3.trans f4).trans f6, (((g3.trans g4).trans g5).trans g6).trans grow_upd, ?_⟩
      · have hw := h6.write (u := .lst (acc ++ [y])) hmem
        have hn : ∀ m ∈ Ms (i + 1), m.1 ≠ D := fun m hm' hc => by
          have nd := h6.nd
          rw [List.map_append] at nd
          exact (List.nodup_append.mp nd).2.2 m.1 (List.mem_map_of_mem hm') D (by simp) hc
        have : setM (Ms (i + 1) ++ [(D, HO.lst acc)]) D (.lst (acc ++ [y])) = Ms (i + 1) ++ [(D, .lst (acc ++ [y]))] := by
          unfold setM
          rw [List.map_append]
          congr 1
          · have : ∀ l : Mu, (∀ m ∈ l, m.1 ≠ D) → l.map (fun m => if m.1 = D then (D, HO.lst (acc ++ [y])) else m) = l := fun l hl => by
              induction l with
              | nil => rfl
              | cons m l ih =>
                rw [List.map_cons, if_neg (hl m List.mem_cons_self), ih fun m' hm' => hl m' (List.mem_cons_of_mem _ hm')]
            exact this _ hn
          · show [if D = D then _ else _] = _
            rw [if_pos rfl]
        rw [this] at hw
        exact hw
      · show FdA T F6 (acc ++ [y]) (kept pr f i ++ (if pr i = true then [f i] else []))
        rw [hp, if_pos rfl]
        exact (r3.mono (fun _ h => h) (f4.trans f6)).app (.cons ry .nil)
  · have he' : i = src.length := by omega
    subst he'
    refine .inl ⟨s2 (Nat.le_refl _), ?_⟩
    have h5 : HM S (upd F3 D (.lst acc)) (Ms src.length ++ []) H3 := HM.rest h3
    rw [List.append_nil] at h5
    have n5 : Same F3 (upd F3 D (.lst acc)) := same_new (h3.mu _ (List.mem_append_right _ List.mem_cons_self)).2
    exact q _ _ H3 h5 ((f2.trans f3).trans n5) (g2.trans g3) (.lst (hT _ hSD) upd_same (r3.mono (fun _ h => h) n5))
theorem ev_lcG {scope : Scope} {own : List (Str × Nat)} {un : PyData → Option (List PyData)} {Ms : Nat → Mu} {pr : Nat → Bool} {f : Nat → PyData}
    (hx : SX C N sc fn k X) (hi : ItD X tg it σ S F M src (Ms 0)) (ok : blkC N sc scope own = true) (tgd : TgD (Xb X scope) tg (own.map (·.2)) un)
    (hun : ∀ (n : Nat) d, src[n]? = some d → ∃ es, un d = some es ∧ es.length = (own.map (·.2)).length)
    (hT : ∀ a, S a → T a) (hz : src.length < sizeLine)
    (ht : ∀ (n : Nat) d es vs F1 (m : Addr × HO), src[n]? = some d → un d = some es → Same F F1 → FdA Any F1 vs es → EvTs (Xb X scope) ifs (setAll (wipe σ (own.map (·.2))) (own.map (·.2)) vs) S F1 (Ms n ++ [m]) (pr n) ((if pr n = true then Ms n else Ms (n + 1)) ++ [m]))
    (he : ∀ (n : Nat) d es vs F1 (m : Addr × HO), src[n]? = some d → un d = some es → Same F F1 → FdA Any F1 vs es → pr n = true → EvD (Xb X scope) e (setAll (wipe σ (own.map (·.2))) (own.map (·.2)) vs) S F1 (Ms n ++ [m]) T (f n) (Ms (n + 1) ++ [m]))
    (hs : ∀ i x, foldedSetIterable it (X i).env x = pure x := by intro _ _; rfl) :
    EvD X (.ListComp e [⟨tg, it, ifs, 0⟩] scope pos) σ S F M T (.list (kept pr f src.length)) (Ms src.length) := fun F1 H ff hm Q q => by
  have hte := lcD_core (ifs := ifs) (e := e) hx hi ok tgd hun hT hz ht he
  refine ⟨_, fun i => pe_lc (hx.calm i) (by rw [hx.Nx i]; exact hx.nd) (pi_w tg it i) (by rw [hx.Nx i, hx.scx i]; exact blkOk_by ok) (fun s H C cl fp => pg_w (X := Xb X scope) tg (i, s, H, C, cl, fp)) (fun s H C cl fp => pts_w (X := Xb X scope) ifs (i, s, H, C, cl, fp)) (fun s H C cl fp => pe_w (X := Xb X scope) e (i, s, H, C, cl, fp)) (hs i), (hte F1 H ff hm).2 Q q⟩
end
end G

namespace G
open PySem PySem.Spec PyProof.Rows L2
/-! ### statements -/
section
variable {C : Ctx} {N : List Str} {sc : Scope} {fn : Str → Bool} {k : Nat} {J : Type} {X : J → Cx}
variable {a b c e tg it : Expr} {es ifs : List Expr} {pos pos' pos'' p p2 : Pos} {σ : L2.St} {S T U : Addr → Prop} {F F' F1 H H' : Hp} {M M' M1 M2 M3 : Mu} {d d1 d2 d3 : PyData} {ds es1 es2 src : List PyData}
variable {D : Ends} {st : Stmt} {rest body other : List Stmt} {te : TE} {j : Nat} {v : V}
def ExB (X : J → Cx) (sts : List Stmt) (D : Ends) (σ : L2.St) (S : Addr → Prop) (F : Hp) (M : Mu) : Prop := ∀ F1 H, Same F F1 → HM S F1 M H → wB X sts D σ H
def EvR (te : TE) (σ : L2.St) (S : Addr → Prop) (F : Hp) (M : Mu) (T : Addr → Prop) (d : PyData) (M' : Mu) : Prop :=
  ∀ F1 H, Same F F1 → HM S F1 M H → ∀ Q : VK, (∀ v F' H', HM S F' M' H' → Same F1 F' → Grow H H' → Fd T F' v d → Q v H') → te σ H Q
theorem ExB.mono (f : Same F F') (h : ExB X body D σ S F M) : ExB X body D σ S F' M := fun F1 H f1 hm => h F1 H (f.trans f1) hm
theorem wB_cons {H : Hp} (h : wS X st { D with nx := wB X rest D } σ H) : wB X (st :: rest) D σ H :=
  ⟨_, fun i => pss_cons (ps_w st i) (pb_w rest i), h⟩
/-- another mark -/
theorem ex_mark (h : ExB X body D σ (fun a => F a = none) F M) : ExB X body D σ S F M := fun F1 H f hm => h F1 H f ⟨hm.fa, hm.mu, hm.nd, fun a ha => f.free (hm.fa.free ha)⟩
theorem ex_nil (h : ∀ F1 H, Same F F1 → HM S F1 M H → D.nx σ H) : ExB X [] D σ S F M := fun F1 H f hm => ⟨_, fun i => pss_nil, h F1 H f hm⟩
/-- the end of a branch: what stands behind it -/
theorem ex_on (h : ExB X rest D σ S F M) : ExB X [] { D with nx := wB X rest D } σ S F M := ex_nil fun F1 H f hm => h F1 H f hm
def Nxt (F0 : Hp) (S : Addr → Prop) (P : L2.St → Hp → Mu → Prop) : L2.St → Hp → Prop := fun σ H => ∃ F M, HM S F M H ∧ Same F0 F ∧ P σ F M
/-- the end of a turn -/
theorem ex_end {F0 : Hp} {P : L2.St → Hp → Mu → Prop} (f : Same F0 F) (h : P σ F M) : ExB X [] { D with nx := Nxt F0 S P } σ S F M := ex_nil fun F1 H f1 hm => ⟨F, M, hm.weak f1, f, h⟩
theorem ex_cont {F0 : Hp} {P : L2.St → Hp → Mu → Prop} (f : Same F0 F) (h : P σ F M) : ExB X (.Continue pos :: rest) { D with ct := Nxt F0 S P } σ S F M := fun F1 H f1 hm => wB_cons ⟨_, fun i => ps_continue, ⟨F, M, hm.weak f1, f, h⟩⟩
theorem ex_ret (he : EvD X e σ S F M T d M1) (k : ∀ v F1 H, HM S F1 M1 H → Same F F1 → Fd T F1 v d → D.rt v H) : ExB X (.Return (some e) pos :: rest) D σ S F M := fun F1 H f hm =>
  wB_cons ⟨_, fun i => ps_ret (pe_w e i), he F1 H f hm _ fun v F2 H2 h2 f2 g2 r => k v F2 H2 h2 (f.trans f2) r⟩
theorem ex_drop (he : EvD X e σ S F M T d M1) (k : ExB X rest D σ S F M1) (hs : ∀ i, swapsWith e none pos.line (X i).env = pure false := by intro _; rfl) : ExB X (.Expr e pos :: rest) D σ S F M := fun F1 H f hm =>
  wB_cons ⟨_, fun i => ps_expr (pe_w e i) (hs i), he F1 H f hm _ fun v F2 H2 h2 f2 g2 r => k F2 H2 (f.trans f2) h2⟩
theorem ex_if {b : Bool} (hc : EvT X c σ S F M b M1) (h1 : b = true → ExB X body { D with nx := wB X rest D } σ S F M1) (h2 : b = false → ExB X other { D with nx := wB X rest D } σ S F M1) : ExB X (.If c body other pos :: rest) D σ S F M := fun F1 H f hm =>
  wB_cons ⟨_, fun i => ps_if (pt_w c i) (pb_w body i) (pb_w other i), hc F1 H f hm _ fun H2 hm2 g2 => by
    cases b with
    | true => exact iteT (h1 rfl F1 H2 f hm2)
    | false => exact iteF (h2 rfl F1 H2 f hm2)⟩
/-- name = value: how the statement is read -/
theorem asg_name {x : Str} (hx : SX C N sc fn k X) (nm : Nm N j x) (hl : Loc sc x) (hf : fn x = true ∨ sc.names.lookup x = some .local) (hs : ∀ i, swapsWith e (some (.Name x pos')) pos.line (X i).env = pure false := by intro _; rfl) :
    ∀ i, PS (X i) (.Assign [.Name x pos'] e pos) (tAsg (wE X e) (gName j)) := fun i =>
  ps_set (by rw [hx.Nx i]; exact hx.nd) (by rw [hx.Nx i]; exact nm.at_) (by rw [hx.scx i]; exact hl) (pe_w e i) (hs i) (hf.elim (fun h => .inl (hx.fnx i _ h)) (fun h => .inr (by rw [hx.scx i]; exact h)))
theorem asg_lc {x : Str} {scope : Scope} {own : List (Str × Nat)} (hx : SX C N sc fn k X) (nm : Nm N j x) (hl : sc.names.lookup x = some .local) (hk : sc.kind = .function) (hline : (pos'.line == p.line) = true) (ha : (scope.names.any fun (n, k) => n == x && (k == .local || k == .cell)) = false)
    (ok : blkC N sc scope own = true) (hs : ∀ i x, foldedSetIterable it (X i).env x = pure x := by intro _ _; rfl) :
    ∀ i, PS (X i) (.Assign [.Name x pos'] (.ListComp e [⟨tg, it, ifs, 0⟩] scope p) pos) (tAsg (tLc (wI X tg it) (wG (Xb X scope) tg) (wTs (Xb X scope) ifs) (wE (Xb X scope) e) (own.map (·.2))) (gName j)) := fun i =>
  ps_setLc (hx.calm i) (by rw [hx.Nx i]; exact hx.nd) (by rw [hx.Nx i]; exact nm.at_) (by rw [hx.scx i]; exact hl) (sw_true (by rw [hx.scx i]; exact hk) (by rw [hx.scx i]; exact hl) hline ha) (pi_w tg it i) (by rw [hx.Nx i, hx.scx i]; exact blkOk_by ok)
    (fun s H C cl fp => pg_w (X := Xb X scope) tg (i, s, H, C, cl, fp)) (fun s H C cl fp => pts_w (X := Xb X scope) ifs (i, s, H, C, cl, fp)) (fun s H C cl fp => pe_w (X := Xb X scope) e (i, s, H, C, cl, fp)) (hs i)
def scalV : PyData → Option V
  | .none => some .non
  | .bool b => some (.bl b)
  | .int i => some (.int i)
  | .str x => some (.str x)
  | _ => none
theorem Fd.scal {v u : V} (h : Fd S H v d) (e : scalV d = some u) : v = u := by
  cases h <;> first | exact Option.some.inj e | exact nomatch e
theorem ex_setS (hps : ∀ i, PS (X i) st (tAsg te (gName j))) (he : EvR te σ S F M Any d M1) (hv : scalV d = some v) (k : ExB X rest D (σ.set j (some v)) S F M1) : ExB X (st :: rest) D σ S F M := fun F1 H f hm =>
  wB_cons ⟨_, hps, he F1 H f hm _ fun u F2 H2 h2 f2 g2 r => by
    rw [r.scal hv]
    exact k F2 H2 (f.trans f2) h2⟩
theorem ex_setD (hps : ∀ i, PS (X i) st (tAsg te (gName j))) (he : EvR te σ S F M T d M1) (k : ∀ v F1, Same F F1 → Fd T F1 v d → ExB X rest D (σ.set j (some v)) S F1 M1) : ExB X (st :: rest) D σ S F M := fun F1 H f hm =>
  wB_cons ⟨_, hps, he F1 H f hm _ fun u F2 H2 h2 f2 g2 r => k u F2 (f.trans f2) r F2 H2 (Same.refl _) h2⟩
/-- name = [], a list that will change -/
theorem ex_setNew {x : Str} {p1 : Pos} (hx : SX C N sc fn k X) (nm : Nm N j x) (hl : Loc sc x) (hf : fn x = true ∨ sc.names.lookup x = some .local) (kk : ∀ q : Addr, F q = none → S q → ExB X rest D (σ.set j (some (.ref q))) S F (M ++ [(q, .lst [])])) :
    ExB X (.Assign [.Name x pos'] (.List [] p1) pos :: rest) D σ S F M := fun F1 H f hm =>
  wB_cons ⟨_, fun i => ps_set (by rw [hx.Nx i]; exact hx.nd) (by rw [hx.Nx i]; exact nm.at_) (by rw [hx.scx i]; exact hl) (pe_lst pa_nil) rfl (hf.elim (fun h => .inl (hx.fnx i _ h)) (fun h => .inr (by rw [hx.scx i]; exact h))), (by show 0 ≤ sizeLine; omega), fun q hq =>
    kk q (f.free (hm.fa.free hq)) (hm.up _ hq) _ _ (Same.refl _) ((hm.newM hq).weak f)⟩
/-- a, b = e -/
theorem ex_unpack {is : List Nat} {un : PyData → Option (List PyData)} (tgd : TgD X tg is un) (he : EvD X e σ S F M T d M1) (hu : un d = some ds) (hl : ds.length = is.length)
    (kk : ∀ vs F1, Same F F1 → FdA T F1 vs ds → ExB X rest D (setAll σ is vs) S F1 M1) (hs : ∀ i, swapsWithSole [tg] e pos.line (X i).env = pure false := by intro _; rfl) (hw : ∀ i, swappedStores [tg] e (X i).env = pure none := by intro _; rfl)
    (h1 : ∀ i, (assignEach [tg] (X i).env).map (·.2) = [assign tg (X i).env] := by intro _; rfl) : ExB X (.Assign [tg] e pos :: rest) D σ S F M := fun F1 H f hm =>
  wB_cons ⟨_, fun i => ps_asg (pe_w e i) (pg_w tg i) (hs i) (hw i) (h1 i), he F1 H f hm _ fun v F2 H2 h2 f2 g2 r => tgd T F2 H2 v d ds σ _ h2.fa r hu hl fun vs rv => kk vs F2 (f.trans f2) rv F2 H2 (Same.refl _) h2⟩
/-- a, b = e1, e2, names of the def -/
theorem ex_par {x y : Str} {i j : Nat} {px py pt : Pos} {kt k2 : Nat} {pt2 : Pos} {ds : List PyData} {d1 d2 : PyData} (hx : SX C N sc fn k X) (nm : Nm N i x) (nm2 : Nm N j y) (hij : i ≠ j) (hl : sc.names.lookup x = some .local) (hl2 : sc.names.lookup y = some .local) (ha : EvA X [a, b] σ S F M T [d1, d2] M1)
    (kk : ∀ v1 v2 F1, Same F F1 → Fd T F1 v1 d1 → Fd T F1 v2 d2 → ExB X rest D ((σ.set i (some v1)).set j (some v2)) S F1 M1)
    (hw : ∀ i, swappedStores [.Tuple [.Name x px, .Name y py] kt pt] (.Tuple [a, b] k2 pt2) (X i).env = pure (some [x, y]))
    (hs : ∀ i, swapsWithSole [.Tuple [.Name x px, .Name y py] kt pt] (.Tuple [a, b] k2 pt2) pos.line (X i).env = pure false := by intro _; rfl) :
    ExB X (.Assign [.Tuple [.Name x px, .Name y py] kt pt] (.Tuple [a, b] k2 pt2) pos :: rest) D σ S F M := fun F1 H f hm =>
  wB_cons ⟨_, fun n => ps_par (hx.calm n) (by rw [hx.Nx n]; exact hx.nd) (by rw [hx.Nx n]; exact nm.at_) (by rw [hx.Nx n]; exact nm2.at_) hij (by rw [hx.scx n]; exact hl) (by rw [hx.scx n]; exact hl2) (pa_w [a, b] n) (hw n) (hs n),
    ha F1 H f hm _ fun vs F2 H2 h2 f2 g2 r => by
      obtain ⟨v1, v2, rfl, r1, r2⟩ := r.two
      exact ⟨v1, v2, rfl, kk v1 v2 F2 (f.trans f2) r1 r2 F2 H2 (Same.refl _) h2⟩⟩
/-! ### lists that change -/
/-- an expression comes to a value, the heap as it was -/
def EvV (X : J → Cx) (e : Expr) (σ : L2.St) (S : Addr → Prop) (F : Hp) (M : Mu) (v : V) : Prop :=
  ∀ F1 H, Same F F1 → HM S F1 M H → ∀ Q : VK, Q v H → wE X e σ H Q
theorem evv_name {x : Str} (hx : SX C N sc fn k X) (nm : Nm N j x) (hv : Vis sc x) (hs : σ[j]? = some (some v)) : EvV X (.Name x pos) σ S F M v := fun F1 H f h Q q =>
  ⟨_, fun i => pe_var (by rw [hx.Nx i]; exact nm.at_) (by rw [hx.scx i]; exact hv) nm.d1 nm.d2, v, hs, q⟩
theorem HM.put {q : Addr} {o u : HO} {A B : Mu} (h : HM S F (A ++ (q, o) :: B) H) : HM S F (A ++ (q, u) :: B) (upd H q u) := by
  have hmem : (q, o) ∈ A ++ (q, o) :: B := List.mem_append_right _ List.mem_cons_self
  have hw := h.write (u := u) hmem
  have nd := h.nd
  rw [List.map_append, List.map_cons] at nd
  have nd' := List.nodup_append.mp nd
  have hA : ∀ m ∈ A, m.1 ≠ q := fun m hm' hc => nd'.2.2 m.1 (List.mem_map_of_mem hm') q List.mem_cons_self hc
  have hB : ∀ m ∈ B, m.1 ≠ q := fun m hm' hc => (List.nodup_cons.mp nd'.2.1).1 (by have z : m.1 ∈ B.map (·.1) := List.mem_map_of_mem hm'; rw [hc] at z; exact z)
  have same : ∀ l : Mu, (∀ m ∈ l, m.1 ≠ q) → l.map (fun m => if m.1 = q then (q, u) else m) = l := fun l hl => by
    induction l with
    | nil => rfl
    | cons m l ih =>
      rw [List.map_cons, if_neg (hl m List.mem_cons_self), ih fun m' hm' => hl m' (List.mem_cons_of_mem _ hm')]
  have : setM (A ++ (q, o) :: B) q u = A ++ (q, u) :: B := by
    unfold setM
    rw [List.map_append, List.map_cons, same A hA, same B hB]
    show A ++ (if q = q then _ else _) :: B = _
    rw [if_pos rfl]
  rw [this] at hw
  exact hw
theorem HM.get {q : Addr} {o : HO} {A B : Mu} (h : HM S F (A ++ (q, o) :: B) H) : H q = some o := (h.mu _ (List.mem_append_right _ List.mem_cons_self)).1
theorem ex_append {q : Addr} {vs : List V} {A B A1 B1 : Mu} {apos cpos : Pos} {o : Expr} (hx : SX C N sc fn k X) (ho : EvV X o σ S F (A ++ (q, .lst vs) :: B) (.ref q)) (he : EvD X e σ S F (A ++ (q, .lst vs) :: B) T d (A1 ++ (q, .lst vs) :: B1)) (hz : vs.length < sizeLine)
    (kk : ∀ v F1, Same F F1 → Fd T F1 v d → ExB X rest D σ S F1 (A1 ++ (q, .lst (vs ++ [v])) :: B1))
    (hbase : ∀ i, attributeBase o "append" (X i).env (eval o (X i).env) = eval o (X i).env := by intro _; rfl)
    (hfew : ∀ i, ((backTo cpos (starEach [e] (X i).env)).all (fun x => !x.1) && (backToKw cpos (keywordEach [] (X i).env)).all (fun x => x.1.isSome)
      && decide ([e].length + ([] : List Keyword).length + (if ([] : List Keyword).isEmpty then 0 else 1) < 30)) = true := by intro _; rfl)
    (hline : (apos.endLine == cpos.line) = true := by rfl) (hst : ∀ i, starEach [e] (X i).env = (false, eval e (X i).env) :: starEach [] (X i).env := by intro _; rfl) (hplain : ∀ i, (backTo cpos (starEach [] (X i).env)).any (·.1) = false := by intro _; rfl) :
    ExB X (.Expr (.Call (.Attribute o "append" apos) [e] [] cpos) pos :: rest) D σ S F (A ++ (q, .lst vs) :: B) := fun F1 H f hm =>
  wB_cons ⟨tDrop (tBM C.K "list" rAppend (wE X o) (tCons (wE X e) tNil)), fun i => by rw [← hx.K i]; exact ps_expr (pe_bm PySem.F.plainAttrs_list PySem.F.slot_list_append PySem.F.type_list_append mt_append (pe_w o i) (pa_cons (pe_w e i) pa_nil (hst i)) (hbase i) (hfew i) hline (hst i) (hplain i)) rfl,
    ho F1 H f hm _ ⟨.inl ⟨rfl, _, SqL.of hm.get⟩, he F1 H f hm _ fun v F2 H2 h2 f2 g2 r => ⟨q, vs, v, rfl, rfl, h2.get, hz, kk v F2 (f.trans f2) r F2 _ (Same.refl _) h2.put⟩⟩⟩
/-- a new list of ours that nobody looks at any more -/
theorem ex_spoil {F0 : Hp} {apos cpos : Pos} {o : Expr} (hx : SX C N sc fn k X) (ho : EvD X o σ S F M (fun a => F0 a = none) (.list ds) M) (he : EvD X e σ S F M T d M) (f0 : Same F0 F) (hz : ds.length < sizeLine)
    (kk : ExB X rest D σ S F0 M)
    (hbase : ∀ i, attributeBase o "append" (X i).env (eval o (X i).env) = eval o (X i).env := by intro _; rfl)
    (hfew : ∀ i, ((backTo cpos (starEach [e] (X i).env)).all (fun x => !x.1) && (backToKw cpos (keywordEach [] (X i).env)).all (fun x => x.1.isSome)
      && decide ([e].length + ([] : List Keyword).length + (if ([] : List Keyword).isEmpty then 0 else 1) < 30)) = true := by intro _; rfl)
    (hline : (apos.endLine == cpos.line) = true := by rfl) (hst : ∀ i, starEach [e] (X i).env = (false, eval e (X i).env) :: starEach [] (X i).env := by intro _; rfl) (hplain : ∀ i, (backTo cpos (starEach [] (X i).env)).any (·.1) = false := by intro _; rfl) :
    ExB X (.Expr (.Call (.Attribute o "append" apos) [e] [] cpos) pos :: rest) D σ S F M := fun F1 H f hm =>
  wB_cons ⟨tDrop (tBM C.K "list" rAppend (wE X o) (tCons (wE X e) tNil)), fun i => by rw [← hx.K i]; exact ps_expr (pe_bm PySem.F.plainAttrs_list PySem.F.slot_list_append PySem.F.type_list_append mt_append (pe_w o i) (pa_cons (pe_w e i) pa_nil (hst i)) (hbase i) (hfew i) hline (hst i) (hplain i)) rfl,
    ho F1 H f hm _ fun u F2 H2 h2 f2 g2 r => by
      cases r with
      | @lst q xs _ hq e1 q1 =>
        refine ⟨.inl ⟨rfl, _, SqL.of (h2.fa _ _ e1)⟩, he F2 H2 (f.trans f2) h2 _ fun v F3 H3 h3 f3 g3 r3 => ⟨q, xs, v, rfl, rfl, h3.fa _ _ (f3 _ _ e1), by rw [q1.length]; exact hz, ?_⟩⟩
        have f03 : Same F0 F3 := ((f0.trans f).trans f2).trans f3
        refine kk F0 _ (Same.refl _) ⟨fun a o' e' => ?_, fun m hm' => ⟨?_, f03.free (h3.mu m hm').2⟩, h3.nd, fun a ha => ?_⟩
        · rw [upd_ne (ne_of_none e' hq)]; exact h3.fa _ _ (f03 _ _ e')
        · have : m.1 ≠ q := fun c => by
            have z := (h3.mu m hm').2
            rw [c, f3 _ _ e1] at z; cases z
          rw [upd_ne this]; exact (h3.mu m hm').1
        · exact h3.up a (grow_upd a ha)⟩
theorem ex_extend {q : Addr} {vs : List V} {A B A1 B1 : Mu} {apos cpos : Pos} {o : Expr} (hx : SX C N sc fn k X) (ho : EvV X o σ S F (A ++ (q, .lst vs) :: B) (.ref q)) (he : EvD X e σ S F (A ++ (q, .lst vs) :: B) T (.list ds) (A1 ++ (q, .lst vs) :: B1)) (hz : vs.length + ds.length ≤ sizeLine)
    (kk : ∀ us F1, Same F F1 → FdA T F1 us ds → ExB X rest D σ S F1 (A1 ++ (q, .lst (vs ++ us)) :: B1))
    (hbase : ∀ i, attributeBase o "extend" (X i).env (eval o (X i).env) = eval o (X i).env := by intro _; rfl)
    (hfew : ∀ i, ((backTo cpos (starEach [e] (X i).env)).all (fun x => !x.1) && (backToKw cpos (keywordEach [] (X i).env)).all (fun x => x.1.isSome)
      && decide ([e].length + ([] : List Keyword).length + (if ([] : List Keyword).isEmpty then 0 else 1) < 30)) = true := by intro _; rfl)
    (hline : (apos.endLine == cpos.line) = true := by rfl) (hst : ∀ i, starEach [e] (X i).env = (false, eval e (X i).env) :: starEach [] (X i).env := by intro _; rfl) (hplain : ∀ i, (backTo cpos (starEach [] (X i).env)).any (·.1) = false := by intro _; rfl) :
    ExB X (.Expr (.Call (.Attribute o "extend" apos) [e] [] cpos) pos :: rest) D σ S F (A ++ (q, .lst vs) :: B) := fun F1 H f hm =>
  wB_cons ⟨tDrop (tBM C.K "list" rExtend (wE X o) (tCons (wE X e) tNil)), fun i => by rw [← hx.K i]; exact ps_expr (pe_bm PySem.F.plainAttrs_list PySem.F.slot_list_extend PySem.F.type_list_extend mt_extend (pe_w o i) (pa_cons (pe_w e i) pa_nil (hst i)) (hbase i) (hfew i) hline (hst i) (hplain i)) rfl,
    ho F1 H f hm _ ⟨.inl ⟨rfl, _, SqL.of hm.get⟩, he F1 H f hm _ fun v F2 H2 h2 f2 g2 r => by
      cases r with
      | @lst b xs _ hq e1 q1 =>
        exact ⟨q, b, vs, xs, rfl, rfl, h2.get, h2.fa _ _ e1, by rw [q1.length]; exact hz, kk xs F2 (f.trans f2) q1 F2 _ (Same.refl _) h2.put⟩⟩⟩
/-- a changing list stays as it is from here on -/
theorem ex_rest {q : Addr} {o : HO} {A B : Mu} (h : ∀ F1, F1 = upd F q o → Same F F1 → ExB X body D σ S F1 (A ++ B)) (hF : F q = none) : ExB X body D σ S F (A ++ (q, o) :: B) := fun F1 H f hm => by
  have s1 : Same F (upd F q o) := same_new hF
  have e : Same (upd F q o) (upd F1 q o) := fun a u hu => by
    by_cases c : a = q
    · subst c; rw [upd_same] at hu ⊢; exact hu
    · rw [upd_ne c] at hu ⊢; exact f _ _ hu
  exact h _ rfl s1 (upd F1 q o) H e hm.rest
/-! ### loops -/
theorem ex_for {is : List Nat} {un : PyData → Option (List PyData)} (hx : SX C N sc fn k X) (hi : ItD X tg it σ S F M src M1) (tgd : TgD X tg is un) (hun : ∀ (n : Nat) d, src[n]? = some d → ∃ es, un d = some es ∧ es.length = is.length)
    (Pv : Nat → L2.St → Hp → Mu → Prop) (h0 : ∀ F1, Same F F1 → Pv 0 σ F1 M1)
    (hs : ∀ (n : Nat) d es vs σ F1 F2 M, src[n]? = some d → un d = some es → Same F F1 → Pv n σ F1 M → Same F1 F2 → FdA Any F2 vs es →
      ExB X body { nx := Nxt F1 S (Pv (n + 1)), ct := Nxt F1 S (Pv (n + 1)), rt := D.rt, bk := wB X rest D } (setAll σ is vs) S F2 M)
    (hd : ∀ σ F1 M, Same F F1 → Pv src.length σ F1 M → ExB X rest D σ S F1 M) (hst : ∀ i x, foldedSetIterable it (X i).env x = pure x := by intro _ _; rfl) :
    ExB X (.For tg it body [] pos :: rest) D σ S F M := fun F1 H f hm =>
  wB_cons ⟨_, fun i => ps_for (by rw [hx.xe i]; exact PassesOwn.never) (hx.calm i) (pi_w tg it i) (pg_w tg i) (pb_w body i) (hst i), hi F1 H f hm _ fun Jt F2 H2 h2 f2 g2 hsrc => by
    refine ⟨fun i m σ H => m = src.length - i ∧ i ≤ src.length ∧ ∃ F3 M, HM S F3 M H ∧ Same F2 F3 ∧ Pv i σ F3 M, ⟨src.length, by simp, Nat.zero_le _, F2, M1, h2, Same.refl _, h0 F2 (f.trans f2)⟩, ?_⟩
    rintro i m σ H3 ⟨rfl, hi', F3, M3, h3, f3, p3⟩
    obtain ⟨s1, s2, s3⟩ := hsrc F3 H3 _ i f3 h3
    have fF3 : Same F F3 := (f.trans f2).trans f3
    by_cases hlt : i < src.length
    · refine .inr ⟨s1 hlt, Nxt F3 S (Pv (i + 1)), fun σ' H' hh => ?_, fun x H' hy => ?_⟩
      · obtain ⟨F4, M4, h4, f4, p4⟩ := hh
        exact ⟨src.length - (i + 1), by omega, rfl, hlt, F4, M4, h4, f3.trans f4, p4⟩
      · obtain ⟨d, F4, hd', h4, f4, g4, rx⟩ := s3 x H' hlt hy
        obtain ⟨es, hu, hl⟩ := hun i d hd'
        exact tgd Any F4 H' x d es _ _ h4.fa rx hu hl fun vs rv => hs i d es vs σ F3 F4 M3 hd' hu fF3 p3 f4 rv F4 H' (Same.refl _) h4
    · have he' : i = src.length := by omega
      subst he'
      exact .inl ⟨s2 (Nat.le_refl _), hd σ F3 M3 fF3 p3 F3 H3 (Same.refl _) h3⟩⟩
theorem ex_while (hx : SX C N sc fn k X) (Pv : Nat → L2.St → Hp → Mu → Prop) {m0 : Nat} (h0 : Pv m0 σ F M)
    (hs : ∀ m σ F1 M, Same F F1 → Pv m σ F1 M → ∃ b M2, EvT X c σ S F1 M b M2 ∧ (b = true → ExB X body { nx := Nxt F1 S (fun σ F M => ∃ m', m' < m ∧ Pv m' σ F M), ct := Nxt F1 S (fun σ F M => ∃ m', m' < m ∧ Pv m' σ F M), rt := D.rt, bk := wB X rest D } σ S F1 M2) ∧ (b = false → ExB X rest D σ S F1 M2)) :
    ExB X (.While c body [] pos :: rest) D σ S F M := fun F1 H f hm =>
  wB_cons ⟨_, fun i => ps_while (by rw [hx.xe i]; exact PassesOwn.never) (pt_w c i) (pb_w body i), by
    refine ⟨fun m σ H => ∃ F3 M, HM S F3 M H ∧ Same F F3 ∧ Pv m σ F3 M, ⟨m0, F, M, hm.weak f, Same.refl _, h0⟩, ?_⟩
    rintro m σ H3 ⟨F3, M3, h3, f3, p3⟩
    obtain ⟨b, M2, hc, ht, hf⟩ := hs m σ F3 M3 f3 p3
    refine hc F3 H3 (Same.refl _) h3 _ fun H4 h4 g4 => ?_
    cases b with
    | false => exact iteF (hf rfl F3 H4 (Same.refl _) h4)
    | true =>
      refine iteT ⟨Nxt F3 S (fun σ F M => ∃ m', m' < m ∧ Pv m' σ F M), fun σ' H' hh => ?_, ht rfl F3 H4 (Same.refl _) h4⟩
      obtain ⟨F4, M4, h4, f4, m', hlt, p4⟩ := hh
      exact ⟨m', hlt, F4, M4, h4, f3.trans f4, p4⟩⟩
end
/-! ### defs -/
/-- a def of the top, as it stands there -/
structure DefAt (C : Ctx) (x : Str) (st : Stmt) (ps : List Str) : Prop where
  ex : ∃ (f : Addr) (fd : FuncData), C.mg x = some (.ref f) ∧ Fun C.K x x st f fd ∧ Binds C.K fd ps []
section
variable {C : Ctx} {N ps : List Str} {x : Str} {st : Stmt} {kk : Nat}
theorem ok_def {sp : Sp} (d : DefAt C x st ps) (S : FnScope N ps (defScope st)) (len : ∀ vs H Q E, sp vs H Q E → vs.length = ps.length)
    (body : ∀ X : Unit → Cx, SX C N (defScope st) (fun _ => true) kk X → ∀ vs H Q E, sp vs H Q E → wB X (defBody st) { nx := fun _ H' => Q .non H', rt := Q } (start N vs) H) : Ok C (kk + 1) x ps sp := by
  obtain ⟨f, fd, hm, hf, hb⟩ := d.ex
  refine ⟨f, fd, hm, hf.kp, hb, ?_⟩
  refine hf.ok S len fun cdv A outer s H vs Q E hr h => ?_
  obtain ⟨t, ht, q⟩ := body (fun _ => (cxOf CX0 C.P C.w C.K C.mg C.base N x (defScope st) f cdv A outer s H E).nox) ⟨fun _ => rfl, fun _ => rfl, fun _ => rfl, fun _ => rfl, fun _ => rfl, S.nd, fun _ => rfl, fun _ => rfl, fun _ => rfl, fun _ => hr, fun _ _ _ => rfl, fun _ => rfl⟩ vs H Q E h
  exact ⟨t, ht (), q⟩
theorem ok_pure {A : List PyData → PyData → Prop} (d : DefAt C x st ps) (S : FnScope N ps (defScope st)) (len : ∀ ds r, A ds r → ds.length = ps.length)
    (body : ∀ X : Unit → Cx, SX C N (defScope st) (fun _ => true) kk X → ∀ ds r, A ds r → ∀ F vs, FdA Any F vs ds → ∀ D : Ends, (∀ v F1 H, HM (fun a => F a = none) F1 [] H → Same F F1 → Fd (fun a => F a = none) F1 v r → D.rt v H) →
      (∀ σ F1 H, r = .none → HM (fun a => F a = none) F1 [] H → Same F F1 → D.nx σ H) → ExB X (defBody st) D (start N vs) (fun a => F a = none) F []) : Ok C (kk + 1) x ps (spP A) := by
  refine ok_def d S (fun vs H Q E h => ?_) fun X hx vs H Q E h => ?_
  · obtain ⟨ds, r, hd, ha, _⟩ := h
    rw [hd.length, len ds r ha]
  · obtain ⟨ds, r, hd, ha, q⟩ := h
    refine body X hx ds r ha H vs hd _ (fun v F1 H1 hm f rv => q v H1 (f.trans hm.fa) (rv.mono (fun _ h => h) hm.fa)) (fun σ F1 H1 e hm f => ?_) H H (Same.refl _) ⟨Same.refl _, fun m hm => absurd hm (by simp), List.nodup_nil, fun a ha => ha⟩
    subst e
    exact q .non H1 (f.trans hm.fa) .non
end
end G

namespace G
open PySem PySem.Spec PyProof.Rows L2
abbrev dS (w : List Nat) : PyData := .str (tx w)
abbrev vS (w : List Nat) : V := .str (tx w)
/-- signs that a text may have -/
def okW (w : List Nat) : Prop := ∀ c ∈ w, c < 1114112
theorem okW.nil : okW [] := fun c h => absurd h (by simp)
theorem okW.app {a b : List Nat} (h : okW a) (h2 : okW b) : okW (a ++ b) := fun c hc => (List.mem_append.mp hc).elim (h c) (h2 c)
theorem okW.sub {a b : List Nat} (h : okW a) (hs : ∀ c ∈ b, c ∈ a) : okW b := fun c hc => h c (hs c hc)
theorem cutL_mem {α : Type} {l : List α} {lo hi : Option Int} {x : α} (h : x ∈ cutL l lo hi) : x ∈ l := List.mem_of_mem_drop (List.mem_of_mem_take h)
theorem okW.cut {a : List Nat} (h : okW a) (lo hi : Option Int) : okW (cutL a lo hi) := h.sub fun _ => cutL_mem
theorem shS {w : List Nat} (h : okW w) : SeqAt.shaped (dS w) = true := by
  unfold SeqAt.shaped
  rw [Bool.and_eq_true]
  refine ⟨?_, rfl⟩
  show (tx w).cps.all (· < 0x110000) = true
  simp only [List.all_toArray, List.all_eq_true, decide_eq_true_eq]
  exact h
theorem canAll {l : List PyData} (h : ∀ d ∈ l, PyData.canLay0 d = true) : PyData.canLayAll0 l = true := by
  induction l with
  | nil => rfl
  | cons d l ih =>
    show (PyData.canLay0 d && PyData.canLayAll0 l) = true
    rw [h d List.mem_cons_self, ih fun x hx => h x (List.mem_cons_of_mem _ hx)]; rfl
theorem depAll {n : Nat} {l : List PyData} (h : ∀ d ∈ l, PyData.depth d ≤ n) : PyData.depthAll l ≤ n := by
  induction l with
  | nil => exact Nat.zero_le _
  | cons d l ih =>
    show max (PyData.depth d) (PyData.depthAll l) ≤ n
    exact Nat.max_le.mpr ⟨h d List.mem_cons_self, ih fun x hx => h x (List.mem_cons_of_mem _ hx)⟩
/-- data of a small depth -/
def shD (n : Nat) (d : PyData) : Prop := PyData.canLay0 d = true ∧ PyData.depth d ≤ n
theorem shD.shaped {n : Nat} {d : PyData} (h : shD n d) (hn : n ≤ 64) : SeqAt.shaped d = true := by
  unfold SeqAt.shaped
  rw [h.1, decide_eq_true (Nat.le_trans h.2 hn)]; rfl
theorem shD.list {n : Nat} {l : List PyData} (h : ∀ d ∈ l, shD n d) : shD (n + 1) (.list l) := ⟨canAll fun d hd => (h d hd).1, Nat.succ_le_succ (depAll fun d hd => (h d hd).2)⟩
theorem shD.tup {n : Nat} {l : List PyData} (h : ∀ d ∈ l, shD n d) : shD (n + 1) (.tuple l) := ⟨canAll fun d hd => (h d hd).1, Nat.succ_le_succ (depAll fun d hd => (h d hd).2)⟩
theorem shD.int {n : Nat} (i : Int) : shD n (.int i) := ⟨rfl, Nat.zero_le _⟩
theorem shD.bl {n : Nat} (b : Bool) : shD n (.bool b) := ⟨rfl, Nat.zero_le _⟩
theorem shD.non {n : Nat} : shD n .none := ⟨rfl, Nat.zero_le _⟩
theorem shD.str {n : Nat} {w : List Nat} (h : okW w) : shD n (dS w) := by
  refine ⟨?_, Nat.zero_le _⟩
  have := shS h
  unfold SeqAt.shaped at this
  exact (Bool.and_eq_true_iff.mp this).1
theorem shD.up {n m : Nat} {d : PyData} (h : shD n d) (hm : n ≤ m) : shD m d := ⟨h.1, Nat.le_trans h.2 hm⟩
theorem shIs (ns : List Int) : SeqAt.shaped (.list (ns.map PyData.int)) = true := (shD.list (n := 0) fun d hd => by
  obtain ⟨i, _, rfl⟩ := List.mem_map.mp hd
  exact .int i).shaped (by decide)
theorem shIsT (ns : List Int) : SeqAt.shaped (.tuple (ns.map PyData.int)) = true := (shD.tup (n := 0) fun d hd => by
  obtain ⟨i, _, rfl⟩ := List.mem_map.mp hd
  exact .int i).shaped (by decide)
theorem shSs {ws : List (List Nat)} (h : ∀ w ∈ ws, okW w) : SeqAt.shaped (.list (ws.map dS)) = true := (shD.list (n := 0) fun d hd => by
  obtain ⟨i, hi, rfl⟩ := List.mem_map.mp hd
  exact .str (h i hi)).shaped (by decide)
theorem eqvAll_map {α : Type} {g : α → PyData} [BEq α] (h : ∀ a b, PyData.eqv (g a) (g b) = (a == b)) : ∀ l m : List α, PyData.eqvAll (l.map g) (m.map g) = (l == m)
  | [], [] => rfl
  | [], _ :: _ => rfl
  | _ :: _, [] => rfl
  | a :: l, b :: m => by
    show (PyData.eqv (g a) (g b) && PyData.eqvAll (l.map g) (m.map g)) = _
    rw [h, eqvAll_map h l m]; rfl
theorem eqv_S (a b : List Nat) : PyData.eqv (dS a) (dS b) = (a == b) := tx_eq a b
theorem eqv_I (a b : Int) : PyData.eqv (.int a) (.int b) = (a == b) := rfl
theorem eqv_nil (l : List PyData) : PyData.eqv (.list l) (.list []) = l.isEmpty := by cases l <;> rfl
theorem eqv_nilT (l : List PyData) : PyData.eqv (.tuple l) (.tuple []) = l.isEmpty := by cases l <;> rfl
theorem cutL_map {α β : Type} (g : α → β) (l : List α) (lo hi : Option Int) : cutL (l.map g) lo hi = (cutL l lo hi).map g := by
  unfold cutL
  rw [List.length_map, List.map_take, List.map_drop]
theorem atI_map {α β : Type} {g : α → β} {l : List α} {i : Int} {x : α} (h : atI l i = some x) : atI (l.map g) i = some (g x) := by
  unfold atI at h ⊢
  rw [List.length_map]
  cases hh : ixN l.length i with
  | none => rw [hh] at h; cases h
  | some m =>
    rw [hh] at h
    have h' : l[m]? = some x := h
    show (l.map g)[m]? = some (g x)
    rw [List.getElem?_map, h']; rfl
theorem flatS (l : List (List Nat)) : (l.map dS).all flatD = true := by rw [List.all_map]; exact List.all_eq_true.mpr fun _ _ => rfl
theorem flatI (l : List Int) : (l.map PyData.int).all flatD = true := by rw [List.all_map]; exact List.all_eq_true.mpr fun _ _ => rfl
theorem inD_S (w : List Nat) (l : List (List Nat)) : inD (dS w) (l.map dS) = l.contains w := by
  unfold inD
  rw [List.any_map]
  induction l with
  | nil => rfl
  | cons a l ih =>
    rw [List.any_cons, List.contains_cons]
    show (PyData.eqv (dS a) (dS w) || l.any (((fun e => PyData.eqv e (dS w)) ∘ dS))) = _
    rw [ih, eqv_S, Bool.beq_comm]
theorem inD_I (n : Int) (l : List Int) : inD (.int n) (l.map .int) = l.contains n := by
  unfold inD
  rw [List.any_map]
  induction l with
  | nil => rfl
  | cons a l ih =>
    rw [List.any_cons, List.contains_cons]
    show (PyData.eqv (.int a) (.int n) || l.any (((fun e => PyData.eqv e (.int n)) ∘ PyData.int))) = _
    rw [ih, eqv_I, Bool.beq_comm]
theorem FdA.inv {S : Addr → Prop} {H : Hp} {vs : List V} {d : PyData} {ds : List PyData} (h : FdA S H vs (d :: ds)) : ∃ v us, vs = v :: us ∧ Fd S H v d ∧ FdA S H us ds := by
  cases h with
  | cons a r => exact ⟨_, _, rfl, a, r⟩
theorem FdA.end_ {S : Addr → Prop} {H : Hp} {vs : List V} (h : FdA S H vs []) : vs = [] := by cases h; rfl
section
variable {C : Ctx} {N : List Str} {sc : Scope} {fn : Str → Bool} {k : Nat} {J : Type} {X : J → Cx}
variable {a b c e tg it : Expr} {es ifs : List Expr} {pos pos' pos'' p p2 tp : Pos} {σ : L2.St} {S T U : Addr → Prop} {F F' F1 H H' : Hp} {M M' M1 M2 M3 : Mu} {d d1 d2 d3 : PyData} {ds es1 es2 src : List PyData}
variable {α β : Type} {g : α → PyData} {l l2 : List α}
theorem ev_strT {n : Str} {j : Nat} : EvD X (.Constant (.str n) j pos) σ S F M T (dS n.cps.toList) M := by
  have := ev_str (X := X) (n := n) (j := j) (pos := pos) (σ := σ) (S := S) (F := F) (M := M) (T := T)
  rw [← tx_tl n] at this
  exact this
theorem od_cast {f : OpK} (h : OpD X f S d1 d2 T d) (e : d = d3) : OpD X f S d1 d2 T d3 := e ▸ h
theorem od_eqI (hx : SX C N sc fn k X) {i j : Int} : OpD X (.cmp .Eq) S (.int i) (.int j) T (.bool (decide (i = j))) := od_cast (od_eq hx rfl rfl) (by rw [eqv_I]; rfl)
theorem od_neI (hx : SX C N sc fn k X) {i j : Int} : OpD X (.cmp .NotEq) S (.int i) (.int j) T (.bool (!decide (i = j))) := od_cast (od_ne hx rfl rfl) (by rw [eqv_I]; rfl)
theorem od_eqS (hx : SX C N sc fn k X) {u w : List Nat} (h1 : okW u) (h2 : okW w) : OpD X (.cmp .Eq) S (dS u) (dS w) T (.bool (u == w)) := od_cast (od_eq hx (shS h1) (shS h2)) (by rw [eqv_S])
theorem od_neS (hx : SX C N sc fn k X) {u w : List Nat} (h1 : okW u) (h2 : okW w) : OpD X (.cmp .NotEq) S (dS u) (dS w) T (.bool (!(u == w))) := od_cast (od_ne hx (shS h1) (shS h2)) (by rw [eqv_S])
theorem od_eqN (hx : SX C N sc fn k X) (h : SeqAt.shaped (.list ds) = true) : OpD X (.cmp .Eq) S (.list ds) (.list []) T (.bool ds.isEmpty) := od_cast (od_eq hx h rfl) (by rw [eqv_nil])
theorem od_neN (hx : SX C N sc fn k X) (h : SeqAt.shaped (.list ds) = true) : OpD X (.cmp .NotEq) S (.list ds) (.list []) T (.bool (!ds.isEmpty)) := od_cast (od_ne hx h rfl) (by rw [eqv_nil])
theorem od_eqNT (hx : SX C N sc fn k X) (h : SeqAt.shaped (.tuple ds) = true) : OpD X (.cmp .Eq) S (.tuple ds) (.tuple []) T (.bool ds.isEmpty) := od_cast (od_eq hx h rfl) (by rw [eqv_nilT])
theorem od_neNT (hx : SX C N sc fn k X) (h : SeqAt.shaped (.tuple ds) = true) : OpD X (.cmp .NotEq) S (.tuple ds) (.tuple []) T (.bool (!ds.isEmpty)) := od_cast (od_ne hx h rfl) (by rw [eqv_nilT])
theorem od_eqLI (hx : SX C N sc fn k X) {u w : List Int} : OpD X (.cmp .Eq) S (.list (u.map .int)) (.list (w.map .int)) T (.bool (u == w)) := od_cast (od_eq hx (shIs u) (shIs w)) (by show PyData.bool (PyData.eqvAll _ _) = _; rw [eqvAll_map eqv_I])
theorem od_neLI (hx : SX C N sc fn k X) {u w : List Int} : OpD X (.cmp .NotEq) S (.list (u.map .int)) (.list (w.map .int)) T (.bool (!(u == w))) := od_cast (od_ne hx (shIs u) (shIs w)) (by show PyData.bool (!PyData.eqvAll _ _) = _; rw [eqvAll_map eqv_I])
theorem od_eqLS (hx : SX C N sc fn k X) {u w : List (List Nat)} (h1 : ∀ x ∈ u, okW x) (h2 : ∀ x ∈ w, okW x) : OpD X (.cmp .Eq) S (.list (u.map dS)) (.list (w.map dS)) T (.bool (u == w)) := od_cast (od_eq hx (shSs h1) (shSs h2)) (by show PyData.bool (PyData.eqvAll _ _) = _; rw [eqvAll_map eqv_S])
theorem od_neLS (hx : SX C N sc fn k X) {u w : List (List Nat)} (h1 : ∀ x ∈ u, okW x) (h2 : ∀ x ∈ w, okW x) : OpD X (.cmp .NotEq) S (.list (u.map dS)) (.list (w.map dS)) T (.bool (!(u == w))) := od_cast (od_ne hx (shSs h1) (shSs h2)) (by show PyData.bool (!PyData.eqvAll _ _) = _; rw [eqvAll_map eqv_S])
theorem od_isI {i : Int} : OpD X (.cmp .Is) S (.int i) .none T (.bool false) := od_is rfl
theorem od_inLS (hx : SX C N sc fn k X) {w : List Nat} {l : List (List Nat)} : OpD X (.cmp .In) S (dS w) (.list (l.map dS)) T (.bool (l.contains w)) := od_cast (od_inL hx rfl (flatS l)) (by rw [inD_S])
theorem od_notinLS (hx : SX C N sc fn k X) {w : List Nat} {l : List (List Nat)} : OpD X (.cmp .NotIn) S (dS w) (.list (l.map dS)) T (.bool (!l.contains w)) := od_cast (od_notinL hx rfl (flatS l)) (by rw [inD_S])
theorem od_inLI (hx : SX C N sc fn k X) {n : Int} {l : List Int} : OpD X (.cmp .In) S (.int n) (.list (l.map .int)) T (.bool (l.contains n)) := od_cast (od_inL hx rfl (flatI l)) (by rw [inD_I])
theorem od_notinLI (hx : SX C N sc fn k X) {n : Int} {l : List Int} : OpD X (.cmp .NotIn) S (.int n) (.list (l.map .int)) T (.bool (!l.contains n)) := od_cast (od_notinL hx rfl (flatI l)) (by rw [inD_I])
theorem od_inTI (hx : SX C N sc fn k X) {n : Int} {l : List Int} : OpD X (.cmp .In) S (.int n) (.tuple (l.map .int)) T (.bool (l.contains n)) := od_cast (od_inT hx rfl (flatI l)) (by rw [inD_I])
theorem od_notinTI (hx : SX C N sc fn k X) {n : Int} {l : List Int} : OpD X (.cmp .NotIn) S (.int n) (.tuple (l.map .int)) T (.bool (!l.contains n)) := od_cast (od_notinT hx rfl (flatI l)) (by rw [inD_I])
/-- one sign in a text -/
theorem od_notin1 {s : Nat} {w : List Nat} : OpD X (.cmp .NotIn) S (dS [s]) (dS w) T (.bool (!w.contains s)) := od_cast od_notinS (by
  unfold inS
  show PyData.bool (!(!(Builtin.Str.occurrences (tx w) ⟨#[s]⟩ 0 (tx w).length 1).isEmpty)) = _
  rw [StrLaws.found_one]
  congr 2
  show decide (s ∈ w.toArray.toList) = _
  rw [List.toList_toArray, List.contains_eq_mem])
theorem od_in1 {s : Nat} {w : List Nat} : OpD X (.cmp .In) S (dS [s]) (dS w) T (.bool (w.contains s)) := od_cast od_inS (by
  unfold inS
  show PyData.bool (!(Builtin.Str.occurrences (tx w) ⟨#[s]⟩ 0 (tx w).length 1).isEmpty) = _
  rw [StrLaws.found_one]
  congr 1
  show decide (s ∈ w.toArray.toList) = _
  rw [List.toList_toArray, List.contains_eq_mem])
theorem od_catM (hz : l.length + l2.length ≤ sizeLine) : OpD X (.bin .Add) S (.list (l.map g)) (.list (l2.map g)) Any (.list ((l ++ l2).map g)) := od_cast (od_cat (by rw [List.length_map, List.length_map]; exact hz)) (by rw [List.map_append])
theorem od_catMF (hz : l.length + l2.length ≤ sizeLine) (hg : ∀ a, flatD (g a) = true) (hT : ∀ a, S a → T a) : OpD X (.bin .Add) S (.list (l.map g)) (.list (l2.map g)) T (.list ((l ++ l2).map g)) := od_cast (od_catF (by rw [List.length_map, List.length_map]; exact hz) (by rw [← List.map_append, List.all_map]; exact List.all_eq_true.mpr fun a _ => hg a) hT) (by rw [List.map_append])
theorem cb_lenM (hx : SX C N sc fn k X) : CbD X (.builtin "len") S M [.list (l.map g)] T (.int l.length) := by
  have := cb_lenL (S := S) (M := M) (T := T) (ds := l.map g) hx
  rw [List.length_map] at this
  exact this
theorem cb_lenMT (hx : SX C N sc fn k X) : CbD X (.builtin "len") S M [.tuple (l.map g)] T (.int l.length) := by
  have := cb_lenT (S := S) (M := M) (T := T) (ds := l.map g) hx
  rw [List.length_map] at this
  exact this
theorem ev_ixM {i : Int} {x : α} (hx : SX C N sc fn k X) (ha : EvD X a σ S F M Any (.list (l.map g)) M1) (hb : EvD X b σ S F M1 Any (.int i) M2) (hg : ∀ a, flatD (g a) = true) (hd : atI l i = some x) (hs : PlainIx b) : EvD X (.Subscript a b pos) σ S F M T (g x) M2 := fun F1 H f h Q q =>
  (ev_ixL hx ha hb (atI_map hd) hs) F1 H f h Q fun v F2 H2 h2 f2 g2 r => q v F2 H2 h2 f2 g2 (r.flat (hg x))
theorem ev_slM {lo hi : Option Expr} {m u : Option Int} (hx : SX C N sc fn k X) (ha : EvD X a σ S F M Any (.list (l.map g)) M1) (hl : EvO X lo σ S F M1 m M2) (hu : EvO X hi σ S F M2 u M3) :
    EvD X (.Subscript a (.Slice lo hi none pos') pos) σ S F M Any (.list ((cutL l m u).map g)) M3 := (ev_slL hx ha hl hu).is (by rw [cutL_map])
theorem ev_slMF {lo hi : Option Expr} {m u : Option Int} (hx : SX C N sc fn k X) (ha : EvD X a σ S F M Any (.list (l.map g)) M1) (hl : EvO X lo σ S F M1 m M2) (hu : EvO X hi σ S F M2 u M3) (hg : ∀ a, flatD (g a) = true) (hT : ∀ a, S a → T a) :
    EvD X (.Subscript a (.Slice lo hi none pos') pos) σ S F M T (.list ((cutL l m u).map g)) M3 := (ev_slLF hx ha hl hu (by rw [cutL_map, List.all_map]; exact List.all_eq_true.mpr fun a _ => hg a) hT).is (by rw [cutL_map])
theorem ev_slMT {lo hi : Option Expr} {m u : Option Int} (hx : SX C N sc fn k X) (ha : EvD X a σ S F M Any (.tuple (l.map g)) M1) (hl : EvO X lo σ S F M1 m M2) (hu : EvO X hi σ S F M2 u M3) :
    EvD X (.Subscript a (.Slice lo hi none pos') pos) σ S F M Any (.tuple ((cutL l m u).map g)) M3 := (ev_slT hx ha hl hu).is (by rw [cutL_map])
/-! comprehensions over mapped lists; nothing changes -/
theorem kept_map {p : α → Bool} {f : α → PyData} (pr : Nat → Bool) (ff : Nat → PyData) (h1 : ∀ n a, l[n]? = some a → pr n = p a) (h2 : ∀ n a, l[n]? = some a → ff n = f a) : ∀ n, n ≤ l.length → kept pr ff n = ((l.take n).filter p).map f
  | 0, _ => by simp [kept]
  | n + 1, h => by
    have hn : n < l.length := h
    have hg : l[n]? = some l[n] := List.getElem?_eq_getElem hn
    show kept pr ff n ++ (if pr n = true then [ff n] else []) = _
    rw [kept_map pr ff h1 h2 n (by omega), List.take_succ_eq_append_getElem hn, List.filter_append, List.map_append, h1 n _ hg, h2 n _ hg]
    congr 1
    rw [List.filter_cons]
    split <;> rfl
theorem set2 (σ : L2.St) (j : Nat) (v : Option V) : (wipe σ [j]).set j v = σ.set j v := by
  show (σ.set j none).set j v = _
  rw [List.set_set]
theorem lcR {scope : Scope} {x : Str} {j : Nat} {pr : α → Bool} {f : α → PyData} (hx : SX C N sc fn k X) (nm : Nm N j x) (hl : Loc (relabS scope sc) x) (hf : (scope.names.lookup x == some .cell) = true ∨ (relabS scope sc).names.lookup x = some .local)
    (ok : blkC N sc scope [(x, j)] = true) (hi : ItD X (.Name x tp) it σ S F M (l.map g) M1) (hT : ∀ a, S a → T a) (hz : l.length < sizeLine)
    (ht : ∀ a ∈ l, ∀ v F1 M, SX C N (relabS scope sc) (fun x => scope.names.lookup x == some .cell) k (Xb X scope) → Same F F1 → Fd Any F1 v (g a) → EvTs (Xb X scope) ifs (σ.set j (some v)) S F1 M (pr a) M)
    (he : ∀ a ∈ l, pr a = true → ∀ v F1 M, SX C N (relabS scope sc) (fun x => scope.names.lookup x == some .cell) k (Xb X scope) → Same F F1 → Fd Any F1 v (g a) → EvD (Xb X scope) e (σ.set j (some v)) S F1 M T (f a) M) :
    EvR (tLc (wI X (.Name x tp) it) (wG (Xb X scope) (.Name x tp)) (wTs (Xb X scope) ifs) (wE (Xb X scope) e) [j]) σ S F M T (.list ((l.filter pr).map f)) M1 := by
  have key := kept_map (l := l) (p := pr) (f := f) (fun n => match l[n]? with | some a => pr a | none => false) (fun n => match l[n]? with | some a => f a | none => .none) (fun n a h => by simp only [h]) (fun n a h => by simp only [h]) l.length (Nat.le_refl _)
  rw [List.take_length] at key
  intro F1 H ff hm Q q
  refine (lcD_core (own := [(x, j)]) (Ms := fun _ => M1) (un := un1) (pr := fun n => match l[n]? with | some a => pr a | none => false) (f := fun n => match l[n]? with | some a => f a | none => .none)
    hx hi ok (tg_name (hx.blk scope) nm hl hf) (fun n d _ => ⟨[d], rfl, rfl⟩) hT (by rw [List.length_map]; exact hz) ?_ ?_ F1 H ff hm).2 Q ?_
  · intro n d es vs F1 m hd hu f1 r
    rw [List.getElem?_map] at hd
    cases ha : l[n]? with
    | none => rw [ha] at hd; cases hd
    | some a =>
      rw [ha] at hd
      cases hd
      cases hu
      obtain ⟨v, rfl, rv⟩ := r.one
      have := ht a (List.mem_of_getElem? ha) v F1 (M1 ++ [m]) (hx.blk scope) f1 rv
      simp only [ite_self]
      show EvTs (Xb X scope) ifs ((wipe σ [j]).set j (some v)) S F1 (M1 ++ [m]) (pr a) (M1 ++ [m])
      rw [set2]
      exact this
  · intro n d es vs F1 m hd hu f1 r hp
    rw [List.getElem?_map] at hd
    cases ha : l[n]? with
    | none => rw [ha] at hd; cases hd
    | some a =>
      rw [ha] at hd
      cases hd
      cases hu
      obtain ⟨v, rfl, rv⟩ := r.one
      simp only [ha] at hp
      have := he a (List.mem_of_getElem? ha) hp v F1 (M1 ++ [m]) (hx.blk scope) f1 rv
      show EvD (Xb X scope) e ((wipe σ [j]).set j (some v)) S F1 (M1 ++ [m]) T (f a) (M1 ++ [m])
      rw [set2]
      exact this
  · rw [List.length_map, key]
    exact q
theorem ev_lc {scope : Scope} {x : Str} {j : Nat} {pr : α → Bool} {f : α → PyData} (hx : SX C N sc fn k X) (nm : Nm N j x) (hl : Loc (relabS scope sc) x) (hf : (scope.names.lookup x == some .cell) = true ∨ (relabS scope sc).names.lookup x = some .local)
    (ok : blkC N sc scope [(x, j)] = true) (hi : ItD X (.Name x tp) it σ S F M (l.map g) M1) (hT : ∀ a, S a → T a) (hz : l.length < sizeLine)
    (ht : ∀ a ∈ l, ∀ v F1 M, SX C N (relabS scope sc) (fun x => scope.names.lookup x == some .cell) k (Xb X scope) → Same F F1 → Fd Any F1 v (g a) → EvTs (Xb X scope) ifs (σ.set j (some v)) S F1 M (pr a) M)
    (he : ∀ a ∈ l, pr a = true → ∀ v F1 M, SX C N (relabS scope sc) (fun x => scope.names.lookup x == some .cell) k (Xb X scope) → Same F F1 → Fd Any F1 v (g a) → EvD (Xb X scope) e (σ.set j (some v)) S F1 M T (f a) M)
    (hs : ∀ i x, foldedSetIterable it (X i).env x = pure x := by intro _ _; rfl) :
    EvD X (.ListComp e [⟨.Name x tp, it, ifs, 0⟩] scope pos) σ S F M T (.list ((l.filter pr).map f)) M1 := fun F1 H ff hm Q q =>
  ⟨_, fun i => pe_lc (own := [(x, j)]) (hx.calm i) (by rw [hx.Nx i]; exact hx.nd) (pi_w _ it i) (by rw [hx.Nx i, hx.scx i]; exact blkOk_by ok) (fun s H C cl fp => pg_w (X := Xb X scope) _ (i, s, H, C, cl, fp)) (fun s H C cl fp => pts_w (X := Xb X scope) ifs (i, s, H, C, cl, fp)) (fun s H C cl fp => pe_w (X := Xb X scope) e (i, s, H, C, cl, fp)) (hs i),
    lcR hx nm hl hf ok hi hT hz ht he F1 H ff hm Q q⟩
theorem evr_of (h : EvD X e σ S F M T d M') : EvR (wE X e) σ S F M T d M' := h
/-- two names: the items are pairs -/
theorem set2T (σ : L2.St) (i j : Nat) (v u : Option V) : ((wipe σ [i, j]).set i v).set j u = (σ.set i v).set j u := by
  show (((σ.set j none).set i none).set i v).set j u = _
  rw [List.set_set]
  by_cases h : i = j
  · subst h; rw [List.set_set, List.set_set, List.set_set]
  · rw [List.set_comm _ _ h, List.set_set, List.set_comm _ _ (Ne.symm h)]
theorem lcR2 {scope : Scope} {x y : Str} {i j : Nat} {g1 g2 : α → PyData} {pr : α → Bool} {f : α → PyData} {kk : Nat} {px py : Pos} (hx : SX C N sc fn k X) (nm : Nm N i x) (nm2 : Nm N j y) (hl : Loc (relabS scope sc) x) (hl2 : Loc (relabS scope sc) y) (hf : (scope.names.lookup x == some .cell) = true ∨ (relabS scope sc).names.lookup x = some .local) (hf2 : (scope.names.lookup y == some .cell) = true ∨ (relabS scope sc).names.lookup y = some .local)
    (ok : blkC N sc scope [(x, i), (y, j)] = true) (hi : ItD X (.Tuple [.Name x px, .Name y py] kk tp) it σ S F M (l.map fun a => .tuple [g1 a, g2 a]) M1) (hT : ∀ a, S a → T a) (hz : l.length < sizeLine)
    (ht : ∀ a ∈ l, ∀ v u F1 M, SX C N (relabS scope sc) (fun x => scope.names.lookup x == some .cell) k (Xb X scope) → Same F F1 → Fd Any F1 v (g1 a) → Fd Any F1 u (g2 a) → EvTs (Xb X scope) ifs ((σ.set i (some v)).set j (some u)) S F1 M (pr a) M)
    (he : ∀ a ∈ l, pr a = true → ∀ v u F1 M, SX C N (relabS scope sc) (fun x => scope.names.lookup x == some .cell) k (Xb X scope) → Same F F1 → Fd Any F1 v (g1 a) → Fd Any F1 u (g2 a) → EvD (Xb X scope) e ((σ.set i (some v)).set j (some u)) S F1 M T (f a) M) :
    EvR (tLc (wI X (.Tuple [.Name x px, .Name y py] kk tp) it) (wG (Xb X scope) (.Tuple [.Name x px, .Name y py] kk tp)) (wTs (Xb X scope) ifs) (wE (Xb X scope) e) [i, j]) σ S F M T (.list ((l.filter pr).map f)) M1 := by
  have key := kept_map (l := l) (p := pr) (f := f) (fun n => match l[n]? with | some a => pr a | none => false) (fun n => match l[n]? with | some a => f a | none => .none) (fun n a h => by simp only [h]) (fun n a h => by simp only [h]) l.length (Nat.le_refl _)
  rw [List.take_length] at key
  intro F1 H ff hm Q q
  refine (lcD_core (own := [(x, i), (y, j)]) (Ms := fun _ => M1) (un := unT) (pr := fun n => match l[n]? with | some a => pr a | none => false) (f := fun n => match l[n]? with | some a => f a | none => .none)
    hx hi ok (tg_tup (hx.blk scope) (tgs_cons (hx.blk scope) nm hl hf (tgs_cons (hx.blk scope) nm2 hl2 hf2 tgs_nil))) (fun n d hd => by
      rw [List.getElem?_map] at hd
      cases ha : l[n]? with
      | none => rw [ha] at hd; cases hd
      | some a => rw [ha] at hd; cases hd; exact ⟨_, rfl, rfl⟩) hT (by rw [List.length_map]; exact hz) ?_ ?_ F1 H ff hm).2 Q ?_
  · intro n d es vs F1 m hd hu f1 r
    rw [List.getElem?_map] at hd
    cases ha : l[n]? with
    | none => rw [ha] at hd; cases hd
    | some a =>
      rw [ha] at hd
      cases hd
      cases hu
      obtain ⟨v, u, rfl, rv, ru⟩ := r.two
      have := ht a (List.mem_of_getElem? ha) v u F1 (M1 ++ [m]) (hx.blk scope) f1 rv ru
      simp only [ite_self]
      show EvTs (Xb X scope) ifs (((wipe σ [i, j]).set i (some v)).set j (some u)) S F1 (M1 ++ [m]) (pr a) (M1 ++ [m])
      rw [set2T]
      exact this
  · intro n d es vs F1 m hd hu f1 r hp
    rw [List.getElem?_map] at hd
    cases ha : l[n]? with
    | none => rw [ha] at hd; cases hd
    | some a =>
      rw [ha] at hd
      cases hd
      cases hu
      obtain ⟨v, u, rfl, rv, ru⟩ := r.two
      simp only [ha] at hp
      have := he a (List.mem_of_getElem? ha) hp v u F1 (M1 ++ [m]) (hx.blk scope) f1 rv ru
      show EvD (Xb X scope) e (((wipe σ [i, j]).set i (some v)).set j (some u)) S F1 (M1 ++ [m]) T (f a) (M1 ++ [m])
      rw [set2T]
      exact this
  · rw [List.length_map, key]
    exact q
theorem ev_lc2 {scope : Scope} {x y : Str} {i j : Nat} {g1 g2 : α → PyData} {pr : α → Bool} {f : α → PyData} {kk : Nat} {px py : Pos} (hx : SX C N sc fn k X) (nm : Nm N i x) (nm2 : Nm N j y) (hl : Loc (relabS scope sc) x) (hl2 : Loc (relabS scope sc) y) (hf : (scope.names.lookup x == some .cell) = true ∨ (relabS scope sc).names.lookup x = some .local) (hf2 : (scope.names.lookup y == some .cell) = true ∨ (relabS scope sc).names.lookup y = some .local)
    (ok : blkC N sc scope [(x, i), (y, j)] = true) (hi : ItD X (.Tuple [.Name x px, .Name y py] kk tp) it σ S F M (l.map fun a => .tuple [g1 a, g2 a]) M1) (hT : ∀ a, S a → T a) (hz : l.length < sizeLine)
    (ht : ∀ a ∈ l, ∀ v u F1 M, SX C N (relabS scope sc) (fun x => scope.names.lookup x == some .cell) k (Xb X scope) → Same F F1 → Fd Any F1 v (g1 a) → Fd Any F1 u (g2 a) → EvTs (Xb X scope) ifs ((σ.set i (some v)).set j (some u)) S F1 M (pr a) M)
    (he : ∀ a ∈ l, pr a = true → ∀ v u F1 M, SX C N (relabS scope sc) (fun x => scope.names.lookup x == some .cell) k (Xb X scope) → Same F F1 → Fd Any F1 v (g1 a) → Fd Any F1 u (g2 a) → EvD (Xb X scope) e ((σ.set i (some v)).set j (some u)) S F1 M T (f a) M)
    (hs : ∀ i x, foldedSetIterable it (X i).env x = pure x := by intro _ _; rfl) :
    EvD X (.ListComp e [⟨.Tuple [.Name x px, .Name y py] kk tp, it, ifs, 0⟩] scope pos) σ S F M T (.list ((l.filter pr).map f)) M1 := fun F1 H ff hm Q q =>
  ⟨_, fun n => pe_lc (own := [(x, i), (y, j)]) (hx.calm n) (by rw [hx.Nx n]; exact hx.nd) (pi_w _ it n) (by rw [hx.Nx n, hx.scx n]; exact blkOk_by ok) (fun s H C cl fp => pg_w (X := Xb X scope) _ (n, s, H, C, cl, fp)) (fun s H C cl fp => pts_w (X := Xb X scope) ifs (n, s, H, C, cl, fp)) (fun s H C cl fp => pe_w (X := Xb X scope) e (n, s, H, C, cl, fp)) (hs n),
    lcR2 hx nm nm2 hl hl2 hf hf2 ok hi hT hz ht he F1 H ff hm Q q⟩
/-! sources as mapped lists -/
theorem it_enumM {es : List Expr} {kk : Nat} {α : Type} {l : List α} {g : α → PyData} (hx : SX C N sc fn k X) (hm : C.mg "enumerate" = none) (hg : Gb sc "enumerate") (he : EvD X a σ S F M Any (.list (l.map g)) M1)
    (hs : ∀ i, starEach [a] (X i).env = [(false, eval a (X i).env)] := by intro _; rfl) : ItD X (.Tuple es kk pos') (.Call (.Name "enumerate" p) [a] [] pos) σ S F M (l.zipIdx.map fun q => .tuple [.int (q.2 : Nat), g q.1]) M1 := by
  have := it_enum (es := es) (kk := kk) (pos' := pos') (p := p) (pos := pos) hx hm hg he hs
  have e : enumD (l.map g) = l.zipIdx.map fun q => .tuple [.int (q.2 : Nat), g q.1] := by
    refine List.ext_getElem? fun n => ?_
    rw [List.getElem?_map, List.getElem?_zipIdx]
    cases h : l[n]? with
    | none =>
      have : l.length ≤ n := List.getElem?_eq_none_iff.mp h
      refine List.getElem?_eq_none ?_
      unfold enumD
      rw [List.length_map, List.length_range, List.length_map]; exact this
    | some a =>
      rw [enumD_get (d := g a) (by rw [List.getElem?_map, h]; rfl)]
      show some _ = some (PyData.tuple [.int ((0 + n : Nat) : Int), g a])
      rw [Nat.zero_add]
  rw [← e]
  exact this
theorem it_zipM {es : List Expr} {kk : Nat} {α β : Type} {l : List α} {m : List β} {g1 : α → PyData} {g2 : β → PyData} (hx : SX C N sc fn k X) (hm : C.mg "zip" = none) (hg : Gb sc "zip") (he : EvD X a σ S F M Any (.list (l.map g1)) M1) (he2 : EvD X b σ S F M1 Any (.list (m.map g2)) M2) (hl : l.length = m.length)
    (hs : ∀ i, starEach [a, b] (X i).env = (false, eval a (X i).env) :: starEach [b] (X i).env := by intro _; rfl) (hs2 : ∀ i, starEach [b] (X i).env = [(false, eval b (X i).env)] := by intro _; rfl) (hpl : ∀ i, (backTo pos (starEach [b] (X i).env)).any (·.1) = false := by intro _; rfl) :
    ItD X (.Tuple es kk pos') (.Call (.Name "zip" p) [a, b] [] pos) σ S F M ((l.zip m).map fun q => .tuple [g1 q.1, g2 q.2]) M2 := by
  have := it_zip (es := es) (kk := kk) (pos' := pos') (p := p) (pos := pos) hx hm hg he he2 (by rw [List.length_map, List.length_map]; exact hl) hs hs2 hpl
  have e : zipD (l.map g1) (m.map g2) = (l.zip m).map fun q => .tuple [g1 q.1, g2 q.2] := by
    refine List.ext_getElem? fun n => ?_
    rw [List.getElem?_map]
    by_cases h : n < l.length
    · have h2 : n < m.length := by omega
      rw [zipD_get (d := g1 l[n]) (d2 := g2 m[n]) (by rw [List.getElem?_map, List.getElem?_eq_getElem h]; rfl) (by rw [List.getElem?_map, List.getElem?_eq_getElem h2]; rfl)]
      rw [List.getElem?_eq_getElem (by rw [List.length_zip]; omega), List.getElem_zip]; rfl
    · have z : (l.zip m)[n]? = none := List.getElem?_eq_none (by rw [List.length_zip]; omega)
      rw [z]
      refine List.getElem?_eq_none ?_
      unfold zipD
      rw [List.length_map, List.length_range, List.length_map, List.length_map]; omega
  rw [← e]
  exact this
end
end G

namespace G
open PySem PySem.Spec PyProof.Rows L2
/-! ### the box that is drawn from: a list of the numbers left, and a number -/
abbrev Bx := List Int × Int
abbrev boxM (b l : Addr) (s : Bx) : Mu := [(b, .lst [.ref l, .int s.2]), (l, .lst (s.1.map .int))]
def takeB (s : Bx) (m : Int) : Bx := match s.1 with
  | [] => ([], s.2 * 48271 % 2147483647)
  | n :: r => if n / m = 0 ∨ n / m = -1 then (r, s.2) else ((n / m) :: r, s.2)
def takeV (s : Bx) (m : Int) : Int := match s.1 with
  | [] => s.2 * 48271 % 2147483647 / 7 % m
  | n :: _ => n % m
theorem takeV_nn (s : Bx) {m : Int} (h : 0 < m) : 0 ≤ takeV s m ∧ takeV s m < m := by
  unfold takeV
  split
  · exact ⟨Int.emod_nonneg _ (by omega), Int.emod_lt_of_pos _ h⟩
  · exact ⟨Int.emod_nonneg _ (by omega), Int.emod_lt_of_pos _ h⟩
def minus (H : Hp) (b l : Addr) : Hp := fun a => if a = b ∨ a = l then none else H a
theorem minus_at {H : Hp} {b l a : Addr} (h : a ≠ b) (h2 : a ≠ l) : minus H b l a = H a := by
  unfold minus; rw [if_neg (by simp [h, h2])]
/-- a promise of a def whose first argument is the box -/
def spBox (A : List PyData → Bx → PyData → Bx → Prop) : Sp := fun vs H Q _ => ∃ (b l : Addr) (rest : List V) (ds : List PyData) (s s' : Bx) (d : PyData) (F : Hp), vs = .ref b :: rest ∧ b ≠ l ∧ H b = some (.lst [.ref l, .int s.2]) ∧ H l = some (.lst (s.1.map .int)) ∧
  Same F H ∧ F b = none ∧ F l = none ∧ FdA Any F rest ds ∧ A ds s d s' ∧
  ∀ v H', (∀ x o, x ≠ b → x ≠ l → H x = some o → H' x = some o) → H' b = some (.lst [.ref l, .int s'.2]) → H' l = some (.lst (s'.1.map .int)) → Fd (fun a => H a = none) H' v d → Q v H'
section
variable {C : Ctx} {N : List Str} {sc : Scope} {fn : Str → Bool} {k : Nat} {J : Type} {X : J → Cx}
variable {a b c e : Expr} {es : List Expr} {pos pos' pos'' p p2 : Pos} {σ : L2.St} {S T U : Addr → Prop} {F F' F1 H H' : Hp} {M M' M1 M2 M3 R : Mu} {d d1 d2 d3 : PyData} {ds es1 es2 : List PyData}
theorem ev_callB {x : Str} {ps : List Str} {A : List PyData → Bx → PyData → Bx → Prop} {kk : Nat} {q l : Addr} {s s1 s' : Bx} (hx : SX C N sc fn k X) (ok : Ok C kk x ps (spBox A)) (hk : kk ≤ k) (hg : Gb sc x)
    (hb : EvV X e σ S F (boxM q l s ++ R) (.ref q)) (ha : EvA X es σ S F (boxM q l s ++ R) Any ds (boxM q l s1 ++ R)) (hA : A ds s1 d s') (hT : ∀ a, S a → T a)
    (hdb : (x == ("__debug__" : Str)) = false) (he : ∀ i, starEach (e :: es) (X i).env = (false, eval e (X i).env) :: starEach es (X i).env := by intro _; rfl) (hpl : ∀ i, (backTo pos (starEach es (X i).env)).any (·.1) = false := by intro _; rfl) :
    EvD X (.Call (.Name x p) (e :: es) [] pos) σ S F (boxM q l s ++ R) T d (boxM q l s' ++ R) := fun F1 H f h Q qq => by
  obtain ⟨g, fd, hm, hkp, hbi, G⟩ := ok.ex
  refine ⟨_, fun i => pe_call (E := E0) (dvs := []) (ds := []) (f := g) (fd := fd) (ps := ps) (sp := spBox A) (k := kk) (CX := CX0) ?_ ((hx.room i).mono hk) (gl_of hx hg i) ?_ ?_ ?_ .nil pass0 (pa_cons (pe_w e i) (pa_w es i) (he i)) hdb (he i) (hpl i), hb F1 H f h _ <| ha F1 H f h _ fun vs F2 H2 h2 f2 g2 r => ?_⟩
  · rw [hx.P i, hx.w i, hx.K i, hx.mg i, hx.base i]; exact G
  · rw [hx.mg i]; exact hm
  · rw [hx.K i]; exact hkp
  · rw [hx.K i]; exact hbi
  · show spBox A (V.ref q :: vs ++ []) H2 Q E0
    rw [List.append_nil]
    have mq := h2.mu (q, .lst [.ref l, .int s1.2]) (by simp [boxM])
    have ml := h2.mu (l, .lst (s1.1.map .int)) (by simp [boxM])
    have nd := h2.nd
    have hne : q ≠ l := by
      intro c
      simp [boxM, c] at nd
    refine ⟨q, l, vs, ds, s1, s', d, F2, rfl, hne, mq.1, ml.1, h2.fa, mq.2, ml.2, r, hA, fun v H' keep hq hl rv => ?_⟩
    classical
    refine qq v (fun a => if H2 a = none then H' a else F2 a) H' ⟨fun a o e => ?_, fun m hm' => ?_, ?_, fun a hz => ?_⟩ (f2.trans fun a o e => ?_) (g2.trans fun a hz => ?_) (rv.cut fun a o hS e => ⟨?_, hT _ (h2.up _ hS)⟩)
    · by_cases c : H2 a = none
      · rw [if_pos c] at e; exact e
      · rw [if_neg c] at e
        have ha := h2.fa _ _ e
        exact keep a o (fun z => by rw [z, mq.2] at e; cases e) (fun z => by rw [z, ml.2] at e; cases e) ha
    · have fl : ∀ m : Addr × HO, H2 m.1 ≠ none → F2 m.1 = none → (if H2 m.1 = none then H' m.1 else F2 m.1) = none := fun m h1 h3 => by rw [if_neg h1]; exact h3
      rcases List.mem_cons.mp hm' with c | hm'
      · subst c
        exact ⟨hq, fl (q, _) (by rw [mq.1]; exact fun z => nomatch z) mq.2⟩
      · rcases List.mem_cons.mp hm' with c | hm'
        · subst c
          exact ⟨hl, fl (l, _) (by rw [ml.1]; exact fun z => nomatch z) ml.2⟩
        · have hR : m ∈ R := by simpa using hm'
          have hmu := h2.mu m (by simp [boxM, hR])
          have nq : m.1 ≠ q := by
            intro c
            have z : m.1 ∈ R.map (·.1) := List.mem_map_of_mem hR
            rw [c] at z
            simp only [boxM, List.map_append, List.map_cons, List.map_nil, List.cons_append, List.nil_append, List.nodup_cons, List.mem_cons] at nd
            exact nd.1 (Or.inr z)
          have nl : m.1 ≠ l := by
            intro c
            have z : m.1 ∈ R.map (·.1) := List.mem_map_of_mem hR
            rw [c] at z
            simp only [boxM, List.map_append, List.map_cons, List.map_nil, List.cons_append, List.nil_append, List.nodup_cons, List.mem_cons] at nd
            exact nd.2.1 z
          exact ⟨keep _ _ nq nl hmu.1, fl m (by rw [hmu.1]; exact fun z => nomatch z) hmu.2⟩
    · have := h2.nd
      simpa [boxM] using this
    · by_cases cq : a = q
      · subst cq; rw [hq] at hz; cases hz
      · by_cases cl : a = l
        · subst cl; rw [hl] at hz; cases hz
        · refine h2.up a ?_
          cases hh : H2 a with
          | none => rfl
          | some o => rw [keep a o cq cl hh] at hz; cases hz
    · show (if H2 a = none then H' a else F2 a) = some o
      rw [if_neg (by rw [h2.fa _ _ e]; exact fun z => nomatch z)]
      exact e
    · by_cases cq : a = q
      · subst cq; rw [hq] at hz; cases hz
      · by_cases cl : a = l
        · subst cl; rw [hl] at hz; cases hz
        · cases hh : H2 a with
          | none => rfl
          | some o => rw [keep a o cq cl hh] at hz; cases hz
    · show (if H2 a = none then H' a else F2 a) = some o
      rw [if_pos hS]
      exact e
end
section
variable {C : Ctx} {N ps : List Str} {x : Str} {st : Stmt} {kk : Nat}
/-- a def whose first argument is the box, by its body -/
theorem ok_box {A : List PyData → Bx → PyData → Bx → Prop} (d : DefAt C x st ps) (S : FnScope N ps (defScope st)) (len : ∀ ds s r s', A ds s r s' → ds.length + 1 = ps.length)
    (body : ∀ X : Unit → Cx, SX C N (defScope st) (fun _ => true) kk X → ∀ ds s r s', A ds s r s' → ∀ (b l : Addr) (F : Hp) (U : Addr → Prop) vs, b ≠ l → F b = none → F l = none → FdA Any F vs ds → (∀ a, U a → F a = none) → ∀ D : Ends, (∀ v F1 H, HM U F1 (boxM b l s') H → Same F F1 → Fd U F1 v r → D.rt v H) →
      (∀ σ F1 H, r = .none → HM U F1 (boxM b l s') H → Same F F1 → D.nx σ H) → ExB X (defBody st) D (start N (.ref b :: vs)) U F (boxM b l s)) : Ok C (kk + 1) x ps (spBox A) := by
  refine ok_def d S (fun vs H Q E h => ?_) fun X hx vs H Q E h => ?_
  · obtain ⟨b, l, rest, ds, s, s', r, F, rfl, _, _, _, _, _, _, hd, ha, _⟩ := h
    rw [List.length_cons, hd.length, len ds s r s' ha]
  · obtain ⟨b, l, rest, ds, s, s', r, F, rfl, hne, hb, hl, hF, hFb, hFl, hd, ha, q⟩ := h
    have fm : Same F (minus H b l) := fun a o e => by
      rw [minus_at (fun z => by rw [z, hFb] at e; cases e) (fun z => by rw [z, hFl] at e; cases e)]
      exact hF _ _ e
    have mb : minus H b l b = none := by unfold minus; rw [if_pos (.inl rfl)]
    have ml : minus H b l l = none := by unfold minus; rw [if_pos (.inr rfl)]
    have ends : ∀ (v : V) F1 H1, HM (fun a => H a = none) F1 (boxM b l s') H1 → Same (minus H b l) F1 → Fd (fun a => H a = none) F1 v r → Q v H1 := fun v F1 H1 hm f rv =>
      q v H1 (fun x o h1 h2 e => hm.fa _ _ (f x o (by rw [minus_at h1 h2]; exact e))) (hm.mu (b, _) (by simp [boxM])).1 (hm.mu (l, _) (by simp [boxM])).1 (rv.mono (fun _ h => h) hm.fa)
    refine body X hx ds s r s' ha b l (minus H b l) (fun a => H a = none) rest hne mb ml (hd.mono (fun _ h => h) fm) (fun a z => by unfold minus; split <;> first | rfl | exact z) _ ends (fun σ F1 H1 e hm f => ?_) (minus H b l) H (Same.refl _) ⟨fun a o e => ?_, fun m hm => ?_, ?_, fun a ha => ha⟩
    · subst e
      exact ends .non F1 H1 hm f .non
    · unfold minus at e
      split at e
      · cases e
      · exact e
    · rcases List.mem_cons.mp hm with c | hm
      · subst c; exact ⟨hb, mb⟩
      · have c : m = (l, .lst (s.1.map .int)) := by simpa using hm
        subst c; exact ⟨hl, ml⟩
    · simp [boxM, hne]
/-- what law(script) promises -/
def spLaw (K : PySem.W.Frag) : Sp := fun vs H Q _ => ∃ (a : Addr) (ns : List Int), vs = [.ref a] ∧ SqL K H a (ns.map V.int) ∧ ns.length ≤ 63 ∧ ∀ H', Q (.bl true) H'
/-- the box is made of the script -/
def spBegun (K : PySem.W.Frag) : Sp := fun vs H Q _ => ∃ (a : Addr) (ns : List Int), vs = [.ref a] ∧ SqL K H a (ns.map V.int) ∧ ns.length ≤ 63 ∧ ∀ b l st H', Same H H' → H b = none → H l = none → b ≠ l → H' b = some (.lst [.ref l, .int st]) → H' l = some (.lst (ns.map .int)) → Q (.ref b) H'
theorem cst {o : Option Value} {f : Tok → Value} (h : ∃ v, o = some v ∧ ∃ t, v = f t) : ∃ t, o = some (f t) := by
  obtain ⟨v, e, t, rfl⟩ := h
  exact ⟨t, e⟩
abbrev FunAt {K : PySem.W.Frag} {h : Heap} (X : K.In h) (mg : Str → Option Value) (x : Str) (st : Stmt) (ps : List Str) : Prop := ∃ (f : Addr) (fd : FuncData), mg x = some (.ref f) ∧ Fun K x x st f fd ∧ Binds K fd ps []
theorem def_mk {K : PySem.W.Frag} {h : Heap} {mg : Str → Option Value} {f : Addr} {od an : Option Addr} {sl : Array (Option Value)} {oc kV dc pm cd ct : Value} (X : K.In h) (G : h.Ns mainGlobals mg)
    (a : PySem.W.nsIn K mainGlobals x = some (some (.ref f))) (l : K.lookup f = some ⟨oc, od, .func (PySem.W.fnOf x x (defArgs st) (defBody st) (defScope st) .none kV dc pm an cd ct), sl⟩) (c : PySem.W.codeIn K cd x = true) (k : PySem.W.keepIn K (.ref f) = true)
    (hb : ∀ (kV doc pm : Value) (an : Option Addr) (cdv ct : Value) (us : List Value), us.length = ps.length → bindArgs (PySem.W.fnOf x x (defArgs st) (defBody st) (defScope st) .none kV doc pm an cdv ct) ⟨us, []⟩ = pure (ps.zip us)) :
    ∃ (f : Addr) (fd : FuncData), mg x = some (.ref f) ∧ Fun K x x st f fd ∧ Binds K fd ps [] :=
  ⟨f, _, PySem.W.mg_of X G a, fun_mk l c k, (fun_mk l c k).binds hb⟩
/-- from the defs to the law's end -/
theorem law_F {P : Program} {w : World} {K : PySem.W.Frag} {mg : Str → Option Value} {fa : Addr} {st : Stmt} {kk : Nat} (hfa : mg "law" = some (.ref fa)) (d : ∃ (f : Addr) (fd : FuncData), mg "law" = some (.ref f) ∧ Fun K "law" "law" st f fd ∧ Binds K fd ["_law_script"] [])
    (hb : ∀ (kV doc pm : Value) (an : Option Addr) (cdv ct : Value) (s : Shared) (u : Value), BindsTo s (PySem.W.fnOf "law" "law" (defArgs st) (defBody st) (defScope st) .none kV doc pm an cdv ct) ⟨[u], []⟩ [("_law_script", u)])
    (ok : ∀ (base : Heap) f fd, mg "law" = some (.ref f) → Fun K "law" "law" st f fd → FnOk P w K mg base CX0 kk f fd ["_law_script"] (spLaw K)) :
    ∃ fd : FuncData, (∀ (s : Shared) (v : Value), BindsTo s fd ⟨[v], []⟩ [("_law_script", v)]) ∧ ∀ base : Heap, K.In base → base.Ns mainGlobals mg → FnOk P w K mg base CX0 kk fa fd ["_law_script"] (spLaw K) := by
  obtain ⟨f, fd, hm, F, B⟩ := d
  have e := hfa.symm.trans hm
  cases e
  refine ⟨fd, fun s v => ?_, fun base _ _ => ok base fa fd hm F⟩
  obtain ⟨oc, od, kV, doc, pm, an, cdv, ct, osl, rfl, lk, hcd⟩ := F.ex
  exact hb kV doc pm an cdv ct s v
/-- the law's own body -/
theorem ok_law {C : Ctx} {N : List Str} {st : Stmt} {kk : Nat} {f : Addr} {fd : FuncData} (hf : Fun C.K "law" "law" st f fd) (S : FnScope N ["_law_script"] (defScope st))
    (body : ∀ X : Unit → Cx, SX C N (defScope st) (fun _ => true) kk X → ∀ (a : Addr) (ns : List Int) (F : Hp), SqL C.K F a (ns.map V.int) → ns.length ≤ 63 → ∀ D : Ends, (∀ H, D.rt (.bl true) H) → ExB X (defBody st) D (start N [.ref a]) (fun a => F a = none) F []) :
    FnOk C.P C.w C.K C.mg C.base CX0 (kk + 1) f fd ["_law_script"] (spLaw C.K) := by
  refine hf.ok S (fun vs H Q E h => ?_) fun cdv A outer s H vs Q E hr h => ?_
  · obtain ⟨a, ns, rfl, _⟩ := h; rfl
  · obtain ⟨a, ns, rfl, hS, hl, q⟩ := h
    obtain ⟨t, ht, qq⟩ := body (fun _ => (cxOf CX0 C.P C.w C.K C.mg C.base N "law" (defScope st) f cdv A outer s H E).nox) ⟨fun _ => rfl, fun _ => rfl, fun _ => rfl, fun _ => rfl, fun _ => rfl, S.nd, fun _ => rfl, fun _ => rfl, fun _ => rfl, fun _ => hr, fun _ _ _ => rfl, fun _ => rfl⟩ a ns H hS hl { nx := fun _ H' => Q .non H', rt := Q } q H H (Same.refl _) ⟨Same.refl _, fun m hm => absurd hm (by simp), List.nodup_nil, fun a ha => ha⟩
    exact ⟨t, ht (), qq⟩
end
theorem walk {l : PySem.W.OpenLaw} {q : Program} {loose : List Str} {XP : (Str → Option Value) → Heap → Prop} {YP : World → Heap → Prop} {d : DefRec} {K : Params → PySem.W.Frag} {kk : Nat} (hr : Room kk callerA) (hn : l.most = some 63) (hdf : d.params.defaults = [])
    (hY : ∀ (w : World) (h : Heap), YP w h → (K w.params).In h)
    (F : ∀ (w : World) (mg : Str → Option Value) (fa : Addr) (h : Heap), (K w.params).In h → h.Ns mainGlobals mg → mg d.name = some (.ref fa) →
      ∃ fd : FuncData, (∀ (s : Shared) (u : Value), BindsTo s fd ⟨[u], []⟩ [("_law_script", u)]) ∧ ∀ base : Heap, (K w.params).In base → base.Ns mainGlobals mg → FnOk l.prog w (K w.params) mg base CX0 kk fa fd ["_law_script"] (spLaw (K w.params))) :
    PySem.W.WalkO q loose XP YP l.row.toRowW d [] (fun f vs => PySem.call f vs) :=
  L2.walk_of (n := 63) (k := kk) (x := "_law_script") (CX := fun _ => CX0) (sp := fun w => spLaw (K w.params)) hn (by decide) hdf hr hY F (fun _ _ a ns hl _ hS => ⟨a, ns, rfl, hS, hl, fun _ => rfl⟩) fun _ _ _ _ _ z => z
/-- _law_box = _law_begun(_law_script) -/
theorem ex_begun {C : Ctx} {N : List Str} {sc : Scope} {fn : Str → Bool} {k : Nat} {J : Type} {X : J → Cx} {x y : Str} {j : Nat} {kk : Nat} {a : Addr} {ns : List Int} {F : Hp} {e : Expr} {p p1 p2 pos : Pos} {σ : L2.St} {S : Addr → Prop} {D : Ends} {rest : List Stmt} {ps : List Str}
    (hx : SX C N sc fn k X) (ok : Ok C kk y ps (spBegun C.K)) (hk : kk ≤ k) (hg : Gb sc y) (nm : Nm N j x) (hl : Loc sc x) (hf : fn x = true ∨ sc.names.lookup x = some .local)
    (he : EvV X e σ S F [] (.ref a)) (hS : SqL C.K F a (ns.map V.int)) (h63 : ns.length ≤ 63) (hdb : (y == ("__debug__" : Str)) = false)
    (kk' : ∀ b l st, F b = none → F l = none → b ≠ l → ExB X rest D (σ.set j (some (.ref b))) S F (boxM b l (ns, st)))
    (hst : ∀ i, starEach [e] (X i).env = (false, eval e (X i).env) :: starEach [] (X i).env := by intro _; rfl) (hpl : ∀ i, (backTo p1 (starEach [] (X i).env)).any (·.1) = false := by intro _; rfl) :
    ExB X (.Assign [.Name x p] (.Call (.Name y p2) [e] [] p1) pos :: rest) D σ S F [] := fun F1 H f hm => by
  obtain ⟨g, fd, hm', hkp, hbi, G⟩ := ok.ex
  refine wB_cons ⟨_, fun i => ps_set (by rw [hx.Nx i]; exact hx.nd) (by rw [hx.Nx i]; exact nm.at_) (by rw [hx.scx i]; exact hl) (pe_call (E := E0) (dvs := []) (ds := []) (f := g) (fd := fd) (ps := ps) (sp := spBegun C.K) (k := kk) (CX := CX0) ?_ ((hx.room i).mono hk) (gl_of hx hg i) ?_ ?_ ?_ .nil pass0 (pa_cons (pe_w e i) pa_nil (hst i)) hdb (hst i) (hpl i)) rfl (hf.elim (fun h => .inl (hx.fnx i _ h)) (fun h => .inr (by rw [hx.scx i]; exact h))), he F1 H f hm _ ?_⟩
  · rw [hx.P i, hx.w i, hx.K i, hx.mg i, hx.base i]; exact G
  · rw [hx.mg i]; exact hm'
  · rw [hx.K i]; exact hkp
  · rw [hx.K i]; exact hbi
  · have hS1 : SqL C.K H a (ns.map V.int) := (f.trans hm.fa).seq hS
    refine ⟨a, ns, rfl, hS1, h63, fun b l st H' s hb hl' hne h1 h2 => ?_⟩
    have hF1 : ∀ q, H q = none → F q = none := fun q h => (f.trans hm.fa).free h
    refine kk' b l st (hF1 _ hb) (hF1 _ hl') hne F H' (Same.refl _) ⟨(f.trans hm.fa).trans s, fun m hm2 => ?_, by simp [boxM, hne], fun q hq => hm.up q (s.free hq)⟩
    rcases List.mem_cons.mp hm2 with c | hm2
    · subst c; exact ⟨h1, hF1 _ hb⟩
    · have c : m = (l, .lst (ns.map .int)) := by simpa using hm2
      subst c; exact ⟨h2, hF1 _ hl'⟩
end G

namespace G
open PySem PySem.Spec PyProof.Rows L2
def Dflt {α : Type} (i : Inhabited α) : Prop := True
theorem dflt {α : Type} [i : Inhabited α] : Dflt i := trivial
theorem atI_in {α : Type} [Inhabited α] {l : List α} {i : Int} (h0 : 0 ≤ i) (h1 : i < l.length) : atI l i = some (l.getD i.toNat default) := by
  have e : i = ((i.toNat : Nat) : Int) := by omega
  have hl : i.toNat < l.length := by omega
  have := atI_nat (xs := l) (j := i.toNat) (v := l[i.toNat]) (List.getElem?_eq_getElem hl)
  rw [← e] at this
  rw [this, List.getD_eq_getElem?_getD, List.getElem?_eq_getElem hl]; rfl
theorem atI_neg1 {α : Type} [Inhabited α] {l : List α} (h : l ≠ []) : atI l (-1) = some (l.getLast?.getD default) := by
  have e : l = l.dropLast ++ [l.getLast h] := (List.dropLast_concat_getLast h).symm
  rw [List.getLast?_eq_some_getLast h]
  conv => lhs; rw [e]
  exact atI_last _ _
theorem atI_hd {α : Type} (x : α) (xs : List α) : atI (x :: xs) 0 = some x := atI_nat (j := 0) rfl
theorem ixN_hd (n : Nat) : ixN (n + 1) 0 = some 0 := by
  unfold ixN
  rw [if_pos (Int.le_refl 0), if_pos (by omega)]; rfl
theorem seqIx_hd (n : Nat) : seqIndex? 0 (n + 1) = some 0 := (ixN_seq (ixN_hd n)).1
theorem EvD.cast {J : Type} {X : J → Cx} {e : Expr} {σ : L2.St} {S T : Addr → Prop} {F : Hp} {M M1 M2 : Mu} {d1 d2 : PyData} (h : EvD X e σ S F M T d1 M1) (q : d1 = d2) (q2 : M1 = M2) : EvD X e σ S F M T d2 M2 := by subst q q2; exact h
theorem EvD.inb {C : Ctx} {N : List Str} {sc scope : Scope} {fn : Str → Bool} {k : Nat} {J : Type} {X : J → Cx} {e : Expr} {σ : L2.St} {S T : Addr → Prop} {F : Hp} {M M1 : Mu} {d1 : PyData} (hx : SX C N sc fn k X) (h : SX C N (relabS scope sc) (fun x => scope.names.lookup x == some .cell) k (Xb X scope) → EvD (Xb X scope) e σ S F M T d1 M1) : EvD (Xb X scope) e σ S F M T d1 M1 := h (hx.blk scope)
/-- the type of data -/
def tyD : PyData → String
  | .none => "NoneType"
  | .bool _ => "bool"
  | .int _ => "int"
  | .str _ => "str"
  | .list _ => "list"
  | .tuple _ => "tuple"
  | .dict _ => "dict"
section
variable {C : Ctx} {N : List Str} {sc : Scope} {fn : Str → Bool} {k : Nat} {J : Type} {X : J → Cx}
variable {a b c e tg it : Expr} {es ifs : List Expr} {pos pos' pos'' p p2 tp : Pos} {σ : L2.St} {S T U : Addr → Prop} {F F' F1 H H' : Hp} {M M' M1 M2 M3 : Mu} {d d1 d2 d3 : PyData} {ds es1 es2 src : List PyData}
variable {α β : Type} {g : α → PyData} {l l2 : List α}
theorem ev_globS {x s : Str} {t : Tok} (hx : SX C N sc fn k X) (hg : Gb sc x) (hm : C.mg x = some (.str s t)) (hd : (x == ("__debug__" : Str)) = false) : EvD X (.Name x pos) σ S F M T (dS s.cps.toList) M := by
  rw [show dS s.cps.toList = .str s by show PyData.str (tx _) = _; rw [tx_tl]]
  exact ev_glob (v := .str s) hx hg hm ⟨_, rfl⟩ hd (.str s)
theorem ev_globI {x : Str} {n : Int} {t : Tok} (hx : SX C N sc fn k X) (hg : Gb sc x) (hm : C.mg x = some (.int n t)) (hd : (x == ("__debug__" : Str)) = false) : EvD X (.Name x pos) σ S F M T (.int n) M :=
  ev_glob (v := .int n) hx hg hm ⟨_, rfl⟩ hd (.int n)
theorem ev_ixSn {i : Int} {w : List Nat} (ha : EvD X a σ S F M Any (dS w) M1) (hb : EvD X b σ S F M1 Any (.int i) M2) (hz : w.length ≤ sizeLine) (h0 : 0 ≤ i) (h1 : i < w.length) (hs : PlainIx b) : EvD X (.Subscript a b pos) σ S F M T (dS [w.getD i.toNat default]) M2 :=
  ev_ixS ha hb hz (atI_in h0 h1) hs
theorem ev_ixMn {i : Int} {di : Inhabited α} (hx : SX C N sc fn k X) (ha : EvD X a σ S F M Any (.list (l.map g)) M1) (hdi : Dflt di) (hb : EvD X b σ S F M1 Any (.int i) M2) (hg : ∀ a, flatD (g a) = true) (h0 : 0 ≤ i) (h1 : i < l.length) (hs : PlainIx b) : EvD X (.Subscript a b pos) σ S F M T (g (l.getD i.toNat default)) M2 :=
  ev_ixM hx ha hb hg (atI_in h0 h1) hs
theorem ev_ixLn {i : Int} {di : Inhabited α} (hx : SX C N sc fn k X) (ha : EvD X a σ S F M T (.list (l.map g)) M1) (hdi : Dflt di) (hb : EvD X b σ S F M1 Any (.int i) M2) (h0 : 0 ≤ i) (h1 : i < l.length) (hs : PlainIx b) : EvD X (.Subscript a b pos) σ S F M T (g (l.getD i.toNat default)) M2 :=
  ev_ixL hx ha hb (atI_map (atI_in h0 h1)) hs
theorem ev_neg {n : Int} (ha : EvD X a σ S F M Any (.int n) M1) : EvD X (.UnaryOp .USub a pos) σ S F M T (.int (-n)) M1 := fun F1 H f h Q q =>
  ⟨_, fun i => pe_un un_neg (pe_w a i), ha F1 H f h _ fun v F2 H2 h2 f2 g2 r => by cases r; exact ⟨n, rfl, q _ F2 H2 h2 f2 g2 (.int _)⟩⟩
/-- x[-1] -/
theorem ev_ixMlast {p0 p1 : Pos} {j : Nat} {di : Inhabited α} (hx : SX C N sc fn k X) (ha : EvD X a σ S F M Any (.list (l.map g)) M1) (hdi : Dflt di) (hg : ∀ a, flatD (g a) = true) (hl : l ≠ []) (hs : PlainIx (.UnaryOp .USub (.Constant (.int 1) j p0) p1)) :
    EvD X (.Subscript a (.UnaryOp .USub (.Constant (.int 1) j p0) p1) pos) σ S F M T (g (l.getLast?.getD default)) M1 :=
  ev_ixM hx ha (ev_neg ev_int) hg (atI_neg1 hl) hs
theorem Fd.ty {K : PySem.W.Frag} {v : V} (h : Fd S F v d) (hm : Same F H) : TyX K H v (.type (tyD d)) := by
  cases h with
  | non => exact .base .non
  | bl b => exact .base (.bl b)
  | int i => exact .base (.int i)
  | str x => exact .base (.str x)
  | lst _ e _ => exact .base (.lst (hm _ _ e))
  | tup _ e _ => exact .base (.tup (hm _ _ e))
theorem ev_isi {n tn : String} {b : Bool} (hx : SX C N sc fn k X) (hm : C.mg "isinstance" = none) (hg : Gb sc "isinstance") (hm2 : C.mg (Str.ofString n) = none) (hg2 : Gb sc (Str.ofString n)) (ha : EvD X a σ S F M Any d M1) (hty : tyD d = tn)
    (hv : bootBuiltins "isinstance" = some (.builtin "isinstance")) (hv2 : bootBuiltins (Str.ofString n) = some (.type n)) (hb : PySem.W.kitOne C.K (.type tn) (.type n) = some b) (hn : ("isinstance" : Str) ≠ "__name__") (hdb : (("isinstance" : Str) == ("__debug__" : Str)) = false) (hn2 : Str.ofString n ≠ "__name__") (hdb2 : (Str.ofString n == ("__debug__" : Str)) = false)
    (hs : ∀ i, starEach [a, .Name (Str.ofString n) p2] (X i).env = (false, eval a (X i).env) :: starEach [.Name (Str.ofString n) p2] (X i).env := by intro _; rfl) (hpl : ∀ i, (backTo pos (starEach [.Name (Str.ofString n) p2] (X i).env)).any (·.1) = false := by intro _; rfl) :
    EvD X (.Call (.Name "isinstance" p) [a, .Name (Str.ofString n) p2] [] pos) σ S F M T (.bool b) M1 := fun F1 H f h Q q =>
  ⟨tCB (rIsi C.K) (tCons (wE X a) (tCons (tC (.ty n)) tNil)), fun i => by
    rw [← hx.K i]
    exact pe_callB call_isi (gl_of hx hg i) (by rw [hx.mg i]; exact hm) hv (pa_cons (pe_w a i) (pa_cons (pe_bltn (v := .ty n) (gl_of hx hg2 i) (by rw [hx.mg i]; exact hm2) hv2 rfl hn2 hdb2) pa_nil rfl) (hs i)) hn hdb (hs i) (hpl i),
    ha F1 H f h _ fun v F2 H2 h2 f2 g2 r => ⟨v, .ty n, .type tn, .type n, b, rfl, .ty n, by rw [← hty]; exact r.ty h2.fa, hb, q _ F2 H2 h2 f2 g2 (.bl b)⟩⟩
end
/-! shapes -/
theorem shSigns {w : List Nat} (h : okW w) : SeqAt.shaped (.list (w.map fun s => dS [s])) = true := (shD.list (n := 0) fun d hd => by
  obtain ⟨i, hi, rfl⟩ := List.mem_map.mp hd
  exact .str fun c hc => by
    have : c = i := by simpa using hc
    subst this; exact h c hi).shaped (by decide)
theorem okW.filter {w : List Nat} (h : okW w) (p : Nat → Bool) : okW (w.filter p) := h.sub fun c hc => (List.mem_filter.mp hc).1
theorem okWs.filter {ws : List (List Nat)} (h : ∀ w ∈ ws, okW w) (p : List Nat → Bool) : ∀ w ∈ ws.filter p, okW w := fun w hw => h w (List.mem_filter.mp hw).1
theorem okW.get {w : List Nat} (h : okW w) (i : Nat) : okW [w.getD i default] := fun c hc => by
  have e : c = w.getD i default := by simpa using hc
  subst e
  rw [List.getD_eq_getElem?_getD]
  cases hh : w[i]? with
  | none => show (0 : Nat) < _; omega
  | some x => exact h x (List.mem_of_getElem? hh)
theorem okW.drop {w : List Nat} (h : okW w) (i : Nat) : okW (w.drop i) := h.sub fun _ hc => List.mem_of_mem_drop hc
theorem okW.take {w : List Nat} (h : okW w) (i : Nat) : okW (w.take i) := h.sub fun _ hc => List.mem_of_mem_take hc
section
variable {C : Ctx} {N : List Str} {sc : Scope} {fn : Str → Bool} {k : Nat} {J : Type} {X : J → Cx}
variable {a b c e tg it : Expr} {es ifs : List Expr} {pos pos' pos'' p p2 tp : Pos} {σ : L2.St} {S T U : Addr → Prop} {F F' F1 H H' : Hp} {M M' M1 M2 M3 : Mu} {d d1 d2 d3 : PyData} {ds es1 es2 src : List PyData}
variable {D : Ends} {st : Stmt} {rest body other : List Stmt}
theorem ev_ixT0 {p0 : Pos} {j : Nat} (hx : SX C N sc fn k X) (ha : EvD X a σ S F M T (.tuple (d :: ds)) M1) : EvD X (.Subscript a (.Constant (.int 0) j p0) pos) σ S F M T d M1 := ev_ixT hx ha ev_int (atI_hd _ _) fun _ _ => rfl
theorem ev_ixT1 {p0 : Pos} {j : Nat} (hx : SX C N sc fn k X) (ha : EvD X a σ S F M T (.tuple (d1 :: d :: ds)) M1) : EvD X (.Subscript a (.Constant (.int 1) j p0) pos) σ S F M T d M1 := ev_ixT hx ha ev_int (atI_nat (j := 1) rfl) fun _ _ => rfl
theorem ev_ixT2 {p0 : Pos} {j : Nat} (hx : SX C N sc fn k X) (ha : EvD X a σ S F M T (.tuple (d1 :: d2 :: d :: ds)) M1) : EvD X (.Subscript a (.Constant (.int 2) j p0) pos) σ S F M T d M1 := ev_ixT hx ha ev_int (atI_nat (j := 2) rfl) fun _ _ => rfl
theorem ex_ifT {b : Bool} (hc : EvT X c σ S F M b M1) (hb : b = true) (h1 : ExB X body { D with nx := wB X rest D } σ S F M1) : ExB X (.If c body other pos :: rest) D σ S F M := by
  subst hb; exact ex_if hc (fun _ => h1) fun h => nomatch h
theorem ex_ifF {b : Bool} (hc : EvT X c σ S F M b M1) (hb : b = false) (h1 : ExB X other { D with nx := wB X rest D } σ S F M1) : ExB X (.If c body other pos :: rest) D σ S F M := by
  subst hb; exact ex_if hc (fun h => nomatch h) fun _ => h1
/-- the if without else, not taken -/
theorem ex_skip {b : Bool} (hc : EvT X c σ S F M b M1) (hb : b = false) (h1 : ExB X rest D σ S F M1) : ExB X (.If c body [] pos :: rest) D σ S F M := ex_ifF hc hb (ex_on h1)
/-- both ways meet -/
def NxJ (F : Hp) (S : Addr → Prop) (P : L2.St → Mu → Prop) : L2.St → Hp → Prop := fun σ H => ∃ M, HM S F M H ∧ P σ M
theorem ex_ifJ {b : Bool} (P : L2.St → Mu → Prop) (hc : EvT X c σ S F M b M1) (h1 : b = true → ExB X body { D with nx := NxJ F S P } σ S F M1) (h2 : b = false → ExB X other { D with nx := NxJ F S P } σ S F M1) (kk : ∀ σ M, P σ M → ExB X rest D σ S F M) : ExB X (.If c body other pos :: rest) D σ S F M := fun F1 H f hm =>
  wB_cons ⟨tIfS (wT X c) (wB X body) (wB X other), fun i => ps_if (pt_w c i) (pb_w body i) (pb_w other i), hc F1 H f hm _ fun H2 hm2 g2 => by
    have tr : ∀ (sts : List Stmt) H, ExB X sts { D with nx := NxJ F S P } σ S F M1 → HM S F1 M1 H → wB X sts { D with nx := wB X rest D } σ H := fun sts H hh hm => by
      obtain ⟨t, ht, q⟩ := hh F1 H f hm
      refine ⟨fun D' σ' H' => t D' σ' H' ∨ t { D with nx := NxJ F S P } σ' H' ∧ D' = { D with nx := wB X rest D }, fun i => ⟨fun pins s σ' H' D' I hq => ?_⟩, .inr ⟨q, rfl⟩⟩
      rcases hq with hq | ⟨hq, rfl⟩
      · exact (ht i).run pins s σ' H' D' I hq
      · refine thn ((ht i).run pins s σ' H' _ I hq) fun fl s' hs => ?_
        cases fl with
        | next =>
          obtain ⟨σ2, H3, I2, M2, hm3, hp⟩ := hs
          exact ⟨σ2, H3, I2, kk σ2 M2 hp F H3 (Same.refl _) hm3⟩
        | brk => exact hs
        | cont => exact hs
        | ret u => exact hs
    cases b with
    | true => exact iteT (tr body H2 (h1 rfl) hm2)
    | false => exact iteF (tr other H2 (h2 rfl) hm2)⟩
theorem ex_meet {P : L2.St → Mu → Prop} {F0 : Hp} (f : Same F0 F) (h : P σ M) : ExB X [] { D with nx := NxJ F0 S P } σ S F M := ex_nil fun F1 H f1 hm => ⟨M, hm.weak (f.trans f1), h⟩
end
theorem filterT {α : Type} (l : List α) : l.filter (fun _ => true) = l := List.filter_eq_self.mpr fun _ _ => rfl
section
variable {C : Ctx} {N : List Str} {sc : Scope} {fn : Str → Bool} {k : Nat} {J : Type} {X : J → Cx}
variable {a b c e tg it : Expr} {es ifs : List Expr} {pos pos' pos'' p p2 tp : Pos} {σ : L2.St} {S T U : Addr → Prop} {F F' F1 H H' : Hp} {M M' M1 M2 M3 : Mu} {d d1 d2 d3 : PyData} {ds es1 es2 src : List PyData}
variable {α β : Type} {g : α → PyData} {l l2 : List α}
theorem lcR0 {scope : Scope} {x : Str} {j : Nat} {f : α → PyData} (hx : SX C N sc fn k X) (nm : Nm N j x) (hl : Loc (relabS scope sc) x) (hf : (scope.names.lookup x == some .cell) = true ∨ (relabS scope sc).names.lookup x = some .local)
    (ok : blkC N sc scope [(x, j)] = true) (hi : ItD X (.Name x tp) it σ S F M (l.map g) M1) (hT : ∀ a, S a → T a) (hz : l.length < sizeLine)
    (he : ∀ a ∈ l, ∀ v F1 M, SX C N (relabS scope sc) (fun x => scope.names.lookup x == some .cell) k (Xb X scope) → Same F F1 → Fd Any F1 v (g a) → EvD (Xb X scope) e (σ.set j (some v)) S F1 M T (f a) M) :
    EvR (tLc (wI X (.Name x tp) it) (wG (Xb X scope) (.Name x tp)) (wTs (Xb X scope) []) (wE (Xb X scope) e) [j]) σ S F M T (.list (l.map f)) M1 := by
  have := lcR (pr := fun _ => true) (f := f) hx nm hl hf ok hi hT hz (fun _ _ _ _ _ _ _ _ => ets_nil) (fun a ha _ => he a ha)
  rw [filterT] at this
  exact this
theorem lcR20 {scope : Scope} {x y : Str} {i j : Nat} {g1 g2 : α → PyData} {f : α → PyData} {kk : Nat} {px py : Pos} (hx : SX C N sc fn k X) (nm : Nm N i x) (nm2 : Nm N j y) (hl : Loc (relabS scope sc) x) (hl2 : Loc (relabS scope sc) y) (hf : (scope.names.lookup x == some .cell) = true ∨ (relabS scope sc).names.lookup x = some .local) (hf2 : (scope.names.lookup y == some .cell) = true ∨ (relabS scope sc).names.lookup y = some .local)
    (ok : blkC N sc scope [(x, i), (y, j)] = true) (hi : ItD X (.Tuple [.Name x px, .Name y py] kk tp) it σ S F M (l.map fun a => .tuple [g1 a, g2 a]) M1) (hT : ∀ a, S a → T a) (hz : l.length < sizeLine)
    (he : ∀ a ∈ l, ∀ v u F1 M, SX C N (relabS scope sc) (fun x => scope.names.lookup x == some .cell) k (Xb X scope) → Same F F1 → Fd Any F1 v (g1 a) → Fd Any F1 u (g2 a) → EvD (Xb X scope) e ((σ.set i (some v)).set j (some u)) S F1 M T (f a) M) :
    EvR (tLc (wI X (.Tuple [.Name x px, .Name y py] kk tp) it) (wG (Xb X scope) (.Tuple [.Name x px, .Name y py] kk tp)) (wTs (Xb X scope) []) (wE (Xb X scope) e) [i, j]) σ S F M T (.list (l.map f)) M1 := by
  have := lcR2 (pr := fun _ => true) (f := f) hx nm nm2 hl hl2 hf hf2 ok hi hT hz (fun _ _ _ _ _ _ _ _ _ _ => ets_nil) (fun a ha _ => he a ha)
  rw [filterT] at this
  exact this
theorem ev_lc0 {scope : Scope} {x : Str} {j : Nat} {f : α → PyData} (hx : SX C N sc fn k X) (nm : Nm N j x) (hl : Loc (relabS scope sc) x) (hf : (scope.names.lookup x == some .cell) = true ∨ (relabS scope sc).names.lookup x = some .local)
    (ok : blkC N sc scope [(x, j)] = true) (hi : ItD X (.Name x tp) it σ S F M (l.map g) M1) (hT : ∀ a, S a → T a) (hz : l.length < sizeLine)
    (he : ∀ a ∈ l, ∀ v F1 M, SX C N (relabS scope sc) (fun x => scope.names.lookup x == some .cell) k (Xb X scope) → Same F F1 → Fd Any F1 v (g a) → EvD (Xb X scope) e (σ.set j (some v)) S F1 M T (f a) M)
    (hs : ∀ i x, foldedSetIterable it (X i).env x = pure x := by intro _ _; rfl) :
    EvD X (.ListComp e [⟨.Name x tp, it, [], 0⟩] scope pos) σ S F M T (.list (l.map f)) M1 := by
  have := ev_lc (pos := pos) (pr := fun _ => true) (f := f) hx nm hl hf ok hi hT hz (fun _ _ _ _ _ _ _ _ => ets_nil) (fun a ha _ => he a ha) hs
  rw [filterT] at this
  exact this
theorem ev_lc20 {scope : Scope} {x y : Str} {i j : Nat} {g1 g2 : α → PyData} {f : α → PyData} {kk : Nat} {px py : Pos} (hx : SX C N sc fn k X) (nm : Nm N i x) (nm2 : Nm N j y) (hl : Loc (relabS scope sc) x) (hl2 : Loc (relabS scope sc) y) (hf : (scope.names.lookup x == some .cell) = true ∨ (relabS scope sc).names.lookup x = some .local) (hf2 : (scope.names.lookup y == some .cell) = true ∨ (relabS scope sc).names.lookup y = some .local)
    (ok : blkC N sc scope [(x, i), (y, j)] = true) (hi : ItD X (.Tuple [.Name x px, .Name y py] kk tp) it σ S F M (l.map fun a => .tuple [g1 a, g2 a]) M1) (hT : ∀ a, S a → T a) (hz : l.length < sizeLine)
    (he : ∀ a ∈ l, ∀ v u F1 M, SX C N (relabS scope sc) (fun x => scope.names.lookup x == some .cell) k (Xb X scope) → Same F F1 → Fd Any F1 v (g1 a) → Fd Any F1 u (g2 a) → EvD (Xb X scope) e ((σ.set i (some v)).set j (some u)) S F1 M T (f a) M)
    (hs : ∀ i x, foldedSetIterable it (X i).env x = pure x := by intro _ _; rfl) :
    EvD X (.ListComp e [⟨.Tuple [.Name x px, .Name y py] kk tp, it, [], 0⟩] scope pos) σ S F M T (.list (l.map f)) M1 := by
  have := ev_lc2 (pos := pos) (pr := fun _ => true) (f := f) hx nm nm2 hl hl2 hf hf2 ok hi hT hz (fun _ _ _ _ _ _ _ _ _ _ => ets_nil) (fun a ha _ => he a ha) hs
  rw [filterT] at this
  exact this
theorem asg_lc1 {x y : Str} {j i : Nat} {scope : Scope} (hx : SX C N sc fn k X) (nm : Nm N j x) (nm1 : Nm N i y) (hl : sc.names.lookup x = some .local) (hk : sc.kind = .function) (hline : (pos'.line == p.line) = true) (ha : (scope.names.any fun (n, k) => n == x && (k == .local || k == .cell)) = false)
    (ok : blkC N sc scope [(y, i)] = true) (hs : ∀ i x, foldedSetIterable it (X i).env x = pure x := by intro _ _; rfl) :
    ∀ i', PS (X i') (.Assign [.Name x pos'] (.ListComp e [⟨.Name y tp, it, ifs, 0⟩] scope p) pos) (tAsg (tLc (wI X (.Name y tp) it) (wG (Xb X scope) (.Name y tp)) (wTs (Xb X scope) ifs) (wE (Xb X scope) e) [i]) (gName j)) :=
  asg_lc (own := [(y, i)]) hx nm hl hk hline ha ok hs
theorem asg_lc2 {x y z : Str} {j i m kk : Nat} {px py : Pos} {scope : Scope} (hx : SX C N sc fn k X) (nm : Nm N j x) (nm1 : Nm N i y) (nm2 : Nm N m z) (hl : sc.names.lookup x = some .local) (hk : sc.kind = .function) (hline : (pos'.line == p.line) = true) (ha : (scope.names.any fun (n, k) => n == x && (k == .local || k == .cell)) = false)
    (ok : blkC N sc scope [(y, i), (z, m)] = true) (hs : ∀ i x, foldedSetIterable it (X i).env x = pure x := by intro _ _; rfl) :
    ∀ i', PS (X i') (.Assign [.Name x pos'] (.ListComp e [⟨.Tuple [.Name y px, .Name z py] kk tp, it, ifs, 0⟩] scope p) pos) (tAsg (tLc (wI X (.Tuple [.Name y px, .Name z py] kk tp) it) (wG (Xb X scope) (.Tuple [.Name y px, .Name z py] kk tp)) (wTs (Xb X scope) ifs) (wE (Xb X scope) e) [i, m]) (gName j)) :=
  asg_lc (own := [(y, i), (z, m)]) hx nm hl hk hline ha ok hs
end
end G

namespace G
open PySem PySem.Spec PyProof.Rows L2
theorem mapGet {α β : Type} {g : α → β} {l : List α} {n : Nat} {d : β} (h : (l.map g)[n]? = some d) : ∃ a, l[n]? = some a ∧ d = g a := by
  rw [List.getElem?_map] at h
  cases ha : l[n]? with
  | none => rw [ha] at h; cases h
  | some a => rw [ha] at h; exact ⟨a, rfl, (Option.some.inj h).symm⟩
section
variable {C : Ctx} {N : List Str} {sc : Scope} {fn : Str → Bool} {k : Nat} {J : Type} {X : J → Cx}
variable {a b c e tg it : Expr} {es ifs : List Expr} {pos pos' pos'' p p2 tp : Pos} {σ : L2.St} {S T U : Addr → Prop} {F F' F1 H H' : Hp} {M M' M1 M2 M3 : Mu} {d d1 d2 d3 : PyData} {ds es1 es2 src : List PyData}
variable {D : Ends} {st : Stmt} {rest body other : List Stmt} {α : Type} {l : List α} {g g1 g2 g3 : α → PyData}
abbrev turnD (X : J → Cx) (D : Ends) (F1 : Hp) (S : Addr → Prop) (P : L2.St → Hp → Mu → Prop) (rest : List Stmt) : Ends := { nx := Nxt F1 S P, ct := Nxt F1 S P, rt := D.rt, bk := wB X rest D }
/-- the end of a turn of a loop -/
theorem ex_turn {F0 : Hp} {P : L2.St → Hp → Mu → Prop} (f : Same F0 F) (h : P σ F M) : ExB X [] (turnD X D F0 S P rest) σ S F M := ex_nil fun F1 H f1 hm => ⟨F, M, hm.weak f1, f, h⟩
theorem ex_turnS {F0 : Hp} {P : L2.St → Hp → Mu → Prop} (hS : ∀ a, S a → U a) (f : Same F0 F) (h : P σ F M) : ExB X [] (turnD X D F0 U P rest) σ S F M := ex_nil fun F1 H f1 hm => by
  have hm := hm.weak f1
  exact ⟨F, M, ⟨hm.fa, hm.mu, hm.nd, fun a ha => hS a (hm.up a ha)⟩, f, h⟩
theorem Same.frees {a : Addr} (h : Same F F') (e : F' a = none) : F a = none := h.free e
theorem ex_forM {x : Str} {j : Nat} (Pv : Nat → L2.St → Hp → Mu → Prop) (hx : SX C N sc fn k X) (nm : Nm N j x) (hl : Loc sc x) (hf : fn x = true ∨ sc.names.lookup x = some .local) (hi : ItD X (.Name x tp) it σ S F M (l.map g) M1)
    (h0 : ∀ F1, Same F F1 → Pv 0 σ F1 M1)
    (hs : ∀ (n : Nat) a v σ F1 F2 M, l[n]? = some a → Same F F1 → Pv n σ F1 M → Same F1 F2 → Fd Any F2 v (g a) → ExB X body (turnD X D F1 S (Pv (n + 1)) rest) (σ.set j (some v)) S F2 M)
    (hd : ∀ σ F1 M, Same F F1 → Pv l.length σ F1 M → ExB X rest D σ S F1 M) (hst : ∀ i x, foldedSetIterable it (X i).env x = pure x := by intro _ _; rfl) :
    ExB X (.For (.Name x tp) it body [] pos :: rest) D σ S F M := by
  refine ex_for (is := [j]) (un := un1) hx hi (tg_name hx nm hl hf) (fun n d _ => ⟨[d], rfl, rfl⟩) Pv h0 (fun n d es vs σ F1 F2 M hd' hu f1 hp f2 r => ?_) (fun σ F1 M f hp => ?_) hst
  · cases hu
    obtain ⟨a, ha, rfl⟩ := mapGet hd'
    obtain ⟨v, rfl, rv⟩ := r.one
    exact hs n a v σ F1 F2 M ha f1 hp f2 rv
  · rw [List.length_map] at hp
    exact hd σ F1 M f hp
theorem ex_forM2 {x y : Str} {i j kk : Nat} {px py : Pos} (Pv : Nat → L2.St → Hp → Mu → Prop) (hx : SX C N sc fn k X) (nm : Nm N i x) (nm2 : Nm N j y) (hl : Loc sc x) (hl2 : Loc sc y) (hf : fn x = true ∨ sc.names.lookup x = some .local) (hf2 : fn y = true ∨ sc.names.lookup y = some .local)
    (hi : ItD X (.Tuple [.Name x px, .Name y py] kk tp) it σ S F M (l.map fun a => .tuple [g1 a, g2 a]) M1)
    (h0 : ∀ F1, Same F F1 → Pv 0 σ F1 M1)
    (hs : ∀ (n : Nat) a v u σ F1 F2 M, l[n]? = some a → Same F F1 → Pv n σ F1 M → Same F1 F2 → Fd Any F2 v (g1 a) → Fd Any F2 u (g2 a) → ExB X body (turnD X D F1 S (Pv (n + 1)) rest) ((σ.set i (some v)).set j (some u)) S F2 M)
    (hd : ∀ σ F1 M, Same F F1 → Pv l.length σ F1 M → ExB X rest D σ S F1 M) (hst : ∀ i x, foldedSetIterable it (X i).env x = pure x := by intro _ _; rfl) :
    ExB X (.For (.Tuple [.Name x px, .Name y py] kk tp) it body [] pos :: rest) D σ S F M := by
  refine ex_for (is := [i, j]) (un := unT) hx hi (tg_tup hx (tgs_cons hx nm hl hf (tgs_cons hx nm2 hl2 hf2 tgs_nil))) (fun n d hd => ?_) Pv h0 (fun n d es vs σ F1 F2 M hd' hu f1 hp f2 r => ?_) (fun σ F1 M f hp => ?_) hst
  · obtain ⟨a, _, rfl⟩ := mapGet hd
    exact ⟨_, rfl, rfl⟩
  · obtain ⟨a, ha, rfl⟩ := mapGet hd'
    cases hu
    obtain ⟨v, u, rfl, rv, ru⟩ := r.two
    exact hs n a v u σ F1 F2 M ha f1 hp f2 rv ru
  · rw [List.length_map] at hp
    exact hd σ F1 M f hp
theorem ex_forM3 {x y z : Str} {i j m kk : Nat} {px py pz : Pos} (Pv : Nat → L2.St → Hp → Mu → Prop) (hx : SX C N sc fn k X) (nm : Nm N i x) (nm2 : Nm N j y) (nm3 : Nm N m z) (hl : Loc sc x) (hl2 : Loc sc y) (hl3 : Loc sc z) (hf : fn x = true ∨ sc.names.lookup x = some .local) (hf2 : fn y = true ∨ sc.names.lookup y = some .local) (hf3 : fn z = true ∨ sc.names.lookup z = some .local)
    (hi : ItD X (.Tuple [.Name x px, .Name y py, .Name z pz] kk tp) it σ S F M (l.map fun a => .tuple [g1 a, g2 a, g3 a]) M1)
    (h0 : ∀ F1, Same F F1 → Pv 0 σ F1 M1)
    (hs : ∀ (n : Nat) a v u w σ F1 F2 M, l[n]? = some a → Same F F1 → Pv n σ F1 M → Same F1 F2 → Fd Any F2 v (g1 a) → Fd Any F2 u (g2 a) → Fd Any F2 w (g3 a) → ExB X body (turnD X D F1 S (Pv (n + 1)) rest) (((σ.set i (some v)).set j (some u)).set m (some w)) S F2 M)
    (hd : ∀ σ F1 M, Same F F1 → Pv l.length σ F1 M → ExB X rest D σ S F1 M) (hst : ∀ i x, foldedSetIterable it (X i).env x = pure x := by intro _ _; rfl) :
    ExB X (.For (.Tuple [.Name x px, .Name y py, .Name z pz] kk tp) it body [] pos :: rest) D σ S F M := by
  refine ex_for (is := [i, j, m]) (un := unT) hx hi (tg_tup hx (tgs_cons hx nm hl hf (tgs_cons hx nm2 hl2 hf2 (tgs_cons hx nm3 hl3 hf3 tgs_nil)))) (fun n d hd => ?_) Pv h0 (fun n d es vs σ F1 F2 M hd' hu f1 hp f2 r => ?_) (fun σ F1 M f hp => ?_) hst
  · obtain ⟨a, _, rfl⟩ := mapGet hd
    exact ⟨_, rfl, rfl⟩
  · obtain ⟨a, ha, rfl⟩ := mapGet hd'
    cases hu
    obtain ⟨v, _, rfl, rv, r⟩ := r.inv
    obtain ⟨u, w, rfl, ru, rw'⟩ := r.two
    exact hs n a v u w σ F1 F2 M ha f1 hp f2 rv ru rw'
  · rw [List.length_map] at hp
    exact hd σ F1 M f hp
end
theorem rangeGet {n i a : Nat} (h : (List.range n)[i]? = some a) : a = i ∧ i < n := by
  have hl : i < (List.range n).length := (List.getElem?_eq_some_iff.mp h).1
  rw [List.length_range] at hl
  rw [List.getElem?_range hl] at h
  exact ⟨(Option.some.inj h).symm, hl⟩
instance : Inhabited PyData := ⟨.none⟩
theorem ev_ixTn {C : Ctx} {N : List Str} {sc : Scope} {fn : Str → Bool} {k : Nat} {J : Type} {X : J → Cx} {a b : Expr} {pos : Pos} {σ : L2.St} {S T : Addr → Prop} {F : Hp} {M M1 M2 : Mu} {α : Type} {l : List α} {g : α → PyData} {i : Int} {di : Inhabited α} (hx : SX C N sc fn k X) (ha : EvD X a σ S F M T (.tuple (l.map g)) M1) (hdi : Dflt di) (hb : EvD X b σ S F M1 Any (.int i) M2) (h0 : 0 ≤ i) (h1 : i < l.length) (hs : PlainIx b) : EvD X (.Subscript a b pos) σ S F M T (g (l.getD i.toNat default)) M2 :=
  ev_ixT hx ha hb (atI_map (atI_in h0 h1)) hs
/-- data of small depth and size -/
def okD : Nat → PyData → Prop
  | _, .none => True
  | _, .bool _ => True
  | _, .int _ => True
  | _, .str s => okW s.cps.toList
  | n + 1, .list ds => ds.length ≤ 100000 ∧ ∀ d ∈ ds, okD n d
  | n + 1, .tuple ds => ds.length ≤ 100000 ∧ ∀ d ∈ ds, okD n d
  | _, _ => False
theorem okD.int {n : Nat} (i : Int) : okD n (.int i) := by cases n <;> exact trivial
theorem okD.bl {n : Nat} (i : Bool) : okD n (.bool i) := by cases n <;> exact trivial
theorem okD.non {n : Nat} : okD n .none := by cases n <;> exact trivial
theorem okD.str {n : Nat} {w : List Nat} (h : okW w) : okD n (dS w) := by
  have : okW (tx w).cps.toList := by simpa using h
  cases n <;> exact this
theorem okD.list {n : Nat} {ds : List PyData} (h1 : ds.length ≤ 100000) (h : ∀ d ∈ ds, okD n d) : okD (n + 1) (.list ds) := ⟨h1, h⟩
theorem okD.tup {n : Nat} {ds : List PyData} (h1 : ds.length ≤ 100000) (h : ∀ d ∈ ds, okD n d) : okD (n + 1) (.tuple ds) := ⟨h1, h⟩
theorem okD.up {n : Nat} : ∀ {d : PyData} {m : Nat}, okD n d → n ≤ m → okD m d := by
  induction n with
  | zero =>
    intro d m h _
    cases d <;> first | exact okD.int _ | exact okD.bl _ | exact okD.non | (cases m <;> exact h) | exact absurd h (by intro z; exact z)
  | succ n ih =>
    intro d m h hm
    obtain ⟨m, rfl⟩ : ∃ k, m = k + 1 := ⟨m - 1, by omega⟩
    cases d with
    | none => exact okD.non
    | bool b => exact okD.bl _
    | int i => exact okD.int _
    | str s => exact h
    | list ds => exact ⟨h.1, fun d hd => ih (h.2 d hd) (by omega)⟩
    | tuple ds => exact ⟨h.1, fun d hd => ih (h.2 d hd) (by omega)⟩
    | dict kv => exact absurd h (by intro z; exact z)
end G

namespace G
open PySem PySem.Spec PyProof.Rows L2
/-- all but one place -/
def del (F : Hp) (q : Addr) : Hp := fun a => if a = q then none else F a
theorem del_at {F : Hp} {q : Addr} : del F q q = none := if_pos rfl
theorem del_ne {F : Hp} {q a : Addr} (h : a ≠ q) : del F q a = F a := if_neg h
theorem del_same (F : Hp) (q : Addr) : Same (del F q) F := fun a o e => by
  by_cases c : a = q
  · subst c; rw [del_at] at e; cases e
  · rw [del_ne c] at e; exact e
theorem same_del {F F1 : Hp} {q : Addr} (h : Same F F1) (hq : F q = none) : Same F (del F1 q) := fun a o e => by
  have : a ≠ q := fun c => by subst c; rw [hq] at e; cases e
  rw [del_ne this]; exact h _ _ e
theorem Fd.del {S : Addr → Prop} {F : Hp} {q : Addr} {v : V} {d : PyData} (h : Fd S F v d) (hS : ∀ a, S a → a ≠ q) : Fd S (del F q) v d := h.cut fun a o hs e => ⟨by rw [del_ne (hS a hs)]; exact e, hs⟩
theorem FdA.del {S : Addr → Prop} {F : Hp} {q : Addr} {vs : List V} {ds : List PyData} (h : FdA S F vs ds) (hS : ∀ a, S a → a ≠ q) : FdA S (del F q) vs ds := h.cut fun a o hs e => ⟨by rw [del_ne (hS a hs)]; exact e, hs⟩
section
variable {C : Ctx} {N : List Str} {sc : Scope} {fn : Str → Bool} {k : Nat} {J : Type} {X : J → Cx}
variable {a b c e : Expr} {es : List Expr} {pos pos' pos'' p p1 p2 : Pos} {σ : L2.St} {S T U : Addr → Prop} {F F' F1 H H' : Hp} {M M' M1 M2 M3 R : Mu} {d d1 d2 d3 : PyData} {ds es1 es2 : List PyData}
variable {D : Ends} {st : Stmt} {rest body other : List Stmt} {te : TE} {j : Nat}
/-- a lasting list may change again -/
theorem ex_close {F0 : Hp} {q : Addr} {o : HO} {A B : Mu} (h : ExB X rest D σ S F0 (A ++ (q, o) :: B)) (f : Same F0 F) (hq : F0 q = none) (ho : F q = some o) : ExB X rest D σ S F (A ++ B) := fun F1 H f1 hm => by
  have e1 : F1 q = some o := f1 _ _ ho
  have nq : ∀ m ∈ A ++ B, m.1 ≠ q := fun m hm' c => by
    have := (hm.mu m hm').2
    rw [c, e1] at this; cases this
  refine h F0 H (Same.refl _) ⟨(f.trans f1).trans hm.fa, fun m hm' => ?_, ?_, hm.up⟩
  · rcases List.mem_append.mp hm' with z | z
    · have := hm.mu m (List.mem_append_left _ z)
      exact ⟨this.1, f.free (f1.free this.2)⟩
    · rcases List.mem_cons.mp z with z | z
      · subst z; exact ⟨hm.fa _ _ e1, hq⟩
      · have := hm.mu m (List.mem_append_right _ z)
        exact ⟨this.1, f.free (f1.free this.2)⟩
  · have nd := hm.nd
    rw [List.map_append] at nd ⊢
    rw [List.map_cons]
    have nd' := List.nodup_append.mp nd
    refine List.nodup_append.mpr ⟨nd'.1, List.nodup_cons.mpr ⟨fun z => ?_, nd'.2.1⟩, fun x hx y hy => ?_⟩
    · obtain ⟨m, hm', e⟩ := List.mem_map.mp z
      exact nq m (List.mem_append_right _ hm') e
    · rcases List.mem_cons.mp hy with z | z
      · subst z
        obtain ⟨m, hm', e⟩ := List.mem_map.mp hx
        rw [← e]; exact nq m (List.mem_append_left _ hm')
      · exact nd'.2.2 x hx y z
theorem ex_open {q : Addr} {o : HO} {A B : Mu} (h : F q = none → Same F (upd F q o) → ExB X rest D σ S (upd F q o) (A ++ B)) : ExB X rest D σ S F (A ++ (q, o) :: B) := fun F1 H f hm =>
  have z : F q = none := f.free (hm.mu (q, o) (List.mem_append_right _ List.mem_cons_self)).2
  ex_rest (fun F1 e f => by subst e; exact h z f) z F1 H f hm
theorem ex_turnW {F0 : Hp} {P : L2.St → Hp → Mu → Prop} {rt : V → Hp → Prop} {bk ct : L2.St → Hp → Prop} (hS : ∀ a, S a → U a) (f : Same F0 F) (h : P σ F M) : ExB X [] { nx := Nxt F0 U P, rt := rt, bk := bk, ct := ct } σ S F M := ex_nil fun F1 H f1 hm => by
  have hm := hm.weak f1
  exact ⟨F, M, ⟨hm.fa, hm.mu, hm.nd, fun a ha => hS a (hm.up a ha)⟩, f, h⟩
theorem ex_closeD {q : Addr} {o : HO} {A B : Mu} (h : ExB X rest D σ S (del F q) (A ++ (q, o) :: B)) (ho : F q = some o) : ExB X rest D σ S F (A ++ B) := ex_close h (del_same F q) del_at ho
/-- a promise of a def whose first argument is the box: what it tells is one of some -/
def spBoxE (A : List PyData → Prop) (P : List PyData → PyData → Prop) : Sp := fun vs H Q _ => ∃ (b l : Addr) (rest : List V) (ds : List PyData) (s : Bx) (F : Hp), vs = .ref b :: rest ∧ b ≠ l ∧ H b = some (.lst [.ref l, .int s.2]) ∧ H l = some (.lst (s.1.map .int)) ∧
  Same F H ∧ F b = none ∧ F l = none ∧ FdA Any F rest ds ∧ A ds ∧
  ∀ d (s' : Bx) v H', P ds d → (∀ x o, x ≠ b → x ≠ l → H x = some o → H' x = some o) → H' b = some (.lst [.ref l, .int s'.2]) → H' l = some (.lst (s'.1.map .int)) → Fd (fun a => H a = none) H' v d → Q v H'
theorem ev_callBE {x : Str} {ps : List Str} {A : List PyData → Prop} {P : List PyData → PyData → Prop} {kk : Nat} {q l : Addr} {s s1 : Bx} (hx : SX C N sc fn k X) (ok : Ok C kk x ps (spBoxE A P)) (hk : kk ≤ k) (hg : Gb sc x)
    (hb : EvV X e σ S F (boxM q l s ++ R) (.ref q)) (ha : EvA X es σ S F (boxM q l s ++ R) Any ds (boxM q l s1 ++ R)) (hA : A ds) (hT : ∀ a, S a → T a)
    (hdb : (x == ("__debug__" : Str)) = false) (he : ∀ i, starEach (e :: es) (X i).env = (false, eval e (X i).env) :: starEach es (X i).env) (hpl : ∀ i, (backTo pos (starEach es (X i).env)).any (·.1) = false)
    {F1 H : Hp} (f : Same F F1) (h : HM S F1 (boxM q l s ++ R) H) (Q : V → Hp → Prop) (qq : ∀ d (s' : Bx) v F2 H2, P ds d → HM S F2 (boxM q l s' ++ R) H2 → Same F1 F2 → Grow H H2 → Fd T F2 v d → Q v H2) : wE X (.Call (.Name x p) (e :: es) [] pos) σ H Q := by
  obtain ⟨g, fd, hm, hkp, hbi, G⟩ := ok.ex
  refine ⟨_, fun i => pe_call (E := E0) (dvs := []) (ds := []) (f := g) (fd := fd) (ps := ps) (sp := spBoxE A P) (k := kk) (CX := CX0) ?_ ((hx.room i).mono hk) (gl_of hx hg i) ?_ ?_ ?_ .nil pass0 (pa_cons (pe_w e i) (pa_w es i) (he i)) hdb (he i) (hpl i), hb F1 H f h _ <| ha F1 H f h _ fun vs F2 H2 h2 f2 g2 r => ?_⟩
  · rw [hx.P i, hx.w i, hx.K i, hx.mg i, hx.base i]; exact G
  · rw [hx.mg i]; exact hm
  · rw [hx.K i]; exact hkp
  · rw [hx.K i]; exact hbi
  · show spBoxE A P (V.ref q :: vs ++ []) H2 Q E0
    rw [List.append_nil]
    have mq := h2.mu (q, .lst [.ref l, .int s1.2]) (by simp [boxM])
    have ml := h2.mu (l, .lst (s1.1.map .int)) (by simp [boxM])
    have nd := h2.nd
    have hne : q ≠ l := by
      intro c
      simp [boxM, c] at nd
    refine ⟨q, l, vs, ds, s1, F2, rfl, hne, mq.1, ml.1, h2.fa, mq.2, ml.2, r, hA, fun d s' v H' hP keep hq hl rv => ?_⟩
    classical
    refine qq d s' v (fun a => if H2 a = none then H' a else F2 a) H' hP ⟨fun a o e => ?_, fun m hm' => ?_, ?_, fun a hz => ?_⟩ (f2.trans fun a o e => ?_) (g2.trans fun a hz => ?_) (rv.cut fun a o hS e => ⟨?_, hT _ (h2.up _ hS)⟩)
    · by_cases c : H2 a = none
      · rw [if_pos c] at e; exact e
      · rw [if_neg c] at e
        have ha := h2.fa _ _ e
        exact keep a o (fun z => by rw [z, mq.2] at e; cases e) (fun z => by rw [z, ml.2] at e; cases e) ha
    · have fl : ∀ m : Addr × HO, H2 m.1 ≠ none → F2 m.1 = none → (if H2 m.1 = none then H' m.1 else F2 m.1) = none := fun m h1 h3 => by rw [if_neg h1]; exact h3
      rcases List.mem_cons.mp hm' with c | hm'
      · subst c
        exact ⟨hq, fl (q, _) (by rw [mq.1]; exact fun z => nomatch z) mq.2⟩
      · rcases List.mem_cons.mp hm' with c | hm'
        · subst c
          exact ⟨hl, fl (l, _) (by rw [ml.1]; exact fun z => nomatch z) ml.2⟩
        · have hR : m ∈ R := by simpa using hm'
          have hmu := h2.mu m (by simp [boxM, hR])
          have nq : m.1 ≠ q := by
            intro c
            have z : m.1 ∈ R.map (·.1) := List.mem_map_of_mem hR
            rw [c] at z
            simp only [boxM, List.map_append, List.map_cons, List.map_nil, List.cons_append, List.nil_append, List.nodup_cons, List.mem_cons] at nd
            exact nd.1 (Or.inr z)
          have nl : m.1 ≠ l := by
            intro c
            have z : m.1 ∈ R.map (·.1) := List.mem_map_of_mem hR
            rw [c] at z
            simp only [boxM, List.map_append, List.map_cons, List.map_nil, List.cons_append, List.nil_append, List.nodup_cons, List.mem_cons] at nd
            exact nd.2.1 z
          exact ⟨keep _ _ nq nl hmu.1, fl m (by rw [hmu.1]; exact fun z => nomatch z) hmu.2⟩
    · have := h2.nd
      simpa [boxM] using this
    · by_cases cq : a = q
      · subst cq; rw [hq] at hz; cases hz
      · by_cases cl : a = l
        · subst cl; rw [hl] at hz; cases hz
        · refine h2.up a ?_
          cases hh : H2 a with
          | none => rfl
          | some o => rw [keep a o cq cl hh] at hz; cases hz
    · show (if H2 a = none then H' a else F2 a) = some o
      rw [if_neg (by rw [h2.fa _ _ e]; exact fun z => nomatch z)]
      exact e
    · by_cases cq : a = q
      · subst cq; rw [hq] at hz; cases hz
      · by_cases cl : a = l
        · subst cl; rw [hl] at hz; cases hz
        · cases hh : H2 a with
          | none => rfl
          | some o => rw [keep a o cq cl hh] at hz; cases hz
    · show (if H2 a = none then H' a else F2 a) = some o
      rw [if_pos hS]
      exact e
/-- x = f(box, ..), of which one answer comes -/
theorem ex_setB {x : Str} {ps : List Str} {A : List PyData → Prop} {P : List PyData → PyData → Prop} {kk : Nat} {q l : Addr} {s s1 : Bx} (hps : ∀ i, PS (X i) st (tAsg (wE X (.Call (.Name x p) (e :: es) [] pos)) (gName j))) (hx : SX C N sc fn k X) (ok : Ok C kk x ps (spBoxE A P)) (hk : kk ≤ k) (hg : Gb sc x)
    (hb : EvV X e σ S F (boxM q l s ++ R) (.ref q)) (ha : EvA X es σ S F (boxM q l s ++ R) Any ds (boxM q l s1 ++ R)) (hA : A ds) (hT : ∀ a, S a → T a)
    (hdb : (x == ("__debug__" : Str)) = false) (he : ∀ i, starEach (e :: es) (X i).env = (false, eval e (X i).env) :: starEach es (X i).env) (hpl : ∀ i, (backTo pos (starEach es (X i).env)).any (·.1) = false)
    (kk' : ∀ d (s' : Bx) v F1, P ds d → Same F F1 → Fd T F1 v d → ExB X rest D (σ.set j (some v)) S F1 (boxM q l s' ++ R)) : ExB X (st :: rest) D σ S F (boxM q l s ++ R) := fun F1 H f hm =>
  wB_cons ⟨_, hps, ev_callBE (T := T) hx ok hk hg hb ha hA hT hdb he hpl f hm _ fun d s' v F2 H2 hP h2 f2 g2 r => kk' d s' v F2 hP (f.trans f2) r F2 H2 (Same.refl _) h2⟩
end
section
variable {C : Ctx} {N ps : List Str} {x : Str} {st : Stmt} {kk : Nat}
theorem ok_boxE {A : List PyData → Prop} {P : List PyData → PyData → Prop} (d : DefAt C x st ps) (S : FnScope N ps (defScope st)) (len : ∀ ds, A ds → ds.length + 1 = ps.length)
    (body : ∀ X : Unit → Cx, SX C N (defScope st) (fun _ => true) kk X → ∀ ds, A ds → ∀ (s : Bx) (b l : Addr) (F : Hp) (U : Addr → Prop) vs, b ≠ l → F b = none → F l = none → FdA Any F vs ds → (∀ a, U a → F a = none) → ∀ D : Ends, (∀ r (s' : Bx) v F1 H, P ds r → HM U F1 (boxM b l s') H → Same F F1 → Fd U F1 v r → D.rt v H) →
      ExB X (defBody st) { D with nx := fun _ _ => False } (start N (.ref b :: vs)) U F (boxM b l s)) : Ok C (kk + 1) x ps (spBoxE A P) := by
  refine ok_def d S (fun vs H Q E h => ?_) fun X hx vs H Q E h => ?_
  · obtain ⟨b, l, rest, ds, s, F, rfl, _, _, _, _, _, _, hd, ha, _⟩ := h
    rw [List.length_cons, hd.length, len ds ha]
  · obtain ⟨b, l, rest, ds, s, F, rfl, hne, hb, hl, hF, hFb, hFl, hd, ha, q⟩ := h
    have fm : Same F (minus H b l) := fun a o e => by
      rw [minus_at (fun z => by rw [z, hFb] at e; cases e) (fun z => by rw [z, hFl] at e; cases e)]
      exact hF _ _ e
    have mb : minus H b l b = none := by unfold minus; rw [if_pos (.inl rfl)]
    have ml : minus H b l l = none := by unfold minus; rw [if_pos (.inr rfl)]
    have ends : ∀ r (s' : Bx) (v : V) F1 H1, P ds r → HM (fun a => H a = none) F1 (boxM b l s') H1 → Same (minus H b l) F1 → Fd (fun a => H a = none) F1 v r → Q v H1 := fun r s' v F1 H1 hP hm f rv =>
      q r s' v H1 hP (fun x o h1 h2 e => hm.fa _ _ (f x o (by rw [minus_at h1 h2]; exact e))) (hm.mu (b, _) (by simp [boxM])).1 (hm.mu (l, _) (by simp [boxM])).1 (rv.mono (fun _ h => h) hm.fa)
    have := body X hx ds ha s b l (minus H b l) (fun a => H a = none) rest hne mb ml (hd.mono (fun _ h => h) fm) (fun a z => by unfold minus; split <;> first | rfl | exact z) { nx := fun _ H' => Q .non H', rt := Q } ends (minus H b l) H (Same.refl _) ⟨fun a o e => ?_, fun m hm => ?_, ?_, fun a ha => ha⟩
    · obtain ⟨t, ht, q1⟩ := this
      refine ⟨fun D' σ' H' => t D' σ' H' ∨ t { D' with nx := fun _ _ => False } σ' H', fun i => ⟨fun pins s σ' H' D' I hq => ?_⟩, .inr q1⟩
      rcases hq with hq | hq
      · exact (ht i).run pins s σ' H' D' I hq
      · refine thn ((ht i).run pins s σ' H' _ I hq) fun fl s' hs => ?_
        cases fl with
        | next => obtain ⟨_, _, _, z⟩ := hs; exact z.elim
        | brk => exact hs
        | cont => exact hs
        | ret u => exact hs
    · unfold minus at e
      split at e
      · cases e
      · exact e
    · rcases List.mem_cons.mp hm with c | hm
      · subst c; exact ⟨hb, mb⟩
      · have c : m = (l, .lst (s.1.map .int)) := by simpa using hm
        subst c; exact ⟨hl, ml⟩
    · simp [boxM, hne]
end
theorem FdA.txs {S : Addr → Prop} {H : Hp} : ∀ ws : List (List Nat), FdA S H (ws.map fun w => V.str (tx w)) (ws.map dS)
  | [] => .nil
  | _ :: r => .cons (.str _) (FdA.txs r)
section
variable {C : Ctx} {N : List Str} {sc : Scope} {fn : Str → Bool} {k : Nat} {J : Type} {X : J → Cx}
variable {e a : Expr} {pos tp : Pos} {σ : L2.St} {S T : Addr → Prop} {F : Hp} {M M1 : Mu} {d1 d2 d3 : PyData} {D : Ends} {rest : List Stmt}
/-- name = [e, ..], a list that will change -/
theorem ex_setNewL {x : Str} {j : Nat} {es : List Expr} {pos' p1 : Pos} {ds : List PyData} (hx : SX C N sc fn k X) (nm : Nm N j x) (hl : Loc sc x) (hf : fn x = true ∨ sc.names.lookup x = some .local) (ha : EvA X es σ S F M T ds M1) (hz : ds.length ≤ sizeLine)
    (kk : ∀ (q : Addr) (vs : List V) F1, Same F F1 → F1 q = none → S q → FdA T F1 vs ds → ExB X rest D (σ.set j (some (.ref q))) S F1 (M1 ++ [(q, .lst vs)])) (hs : ∀ i, swapsWith (.List es p1) (some (.Name x pos')) pos.line (X i).env = pure false) :
    ExB X (.Assign [.Name x pos'] (.List es p1) pos :: rest) D σ S F M := fun F1 H f hm =>
  wB_cons ⟨_, fun i => ps_set (by rw [hx.Nx i]; exact hx.nd) (by rw [hx.Nx i]; exact nm.at_) (by rw [hx.scx i]; exact hl) (pe_lst (pa_w es i)) (hs i) (hf.elim (fun h => .inl (hx.fnx i _ h)) (fun h => .inr (by rw [hx.scx i]; exact h))),
    ha F1 H f hm _ fun vs F2 H2 h2 f2 g2 r => ⟨by rw [r.length]; exact hz, fun q hq =>
      kk q vs F2 (f.trans f2) (h2.fa.free hq) (h2.up _ hq) r F2 _ (Same.refl _) (h2.newM hq)⟩⟩
theorem ex_unpack2 {x y : Str} {i j kk : Nat} {px py : Pos} (hx : SX C N sc fn k X) (nm : Nm N i x) (nm2 : Nm N j y) (hl : Loc sc x) (hl2 : Loc sc y) (hf : fn x = true ∨ sc.names.lookup x = some .local) (hf2 : fn y = true ∨ sc.names.lookup y = some .local) (he : EvD X e σ S F M T (.tuple [d1, d2]) M1)
    (kn : ∀ v u F1, Same F F1 → Fd T F1 v d1 → Fd T F1 u d2 → ExB X rest D ((σ.set i (some v)).set j (some u)) S F1 M1) (hs : ∀ i', swapsWithSole [.Tuple [.Name x px, .Name y py] kk tp] e pos.line (X i').env = pure false) (hw : ∀ i', swappedStores [.Tuple [.Name x px, .Name y py] kk tp] e (X i').env = pure none)
    (h1 : ∀ i', (assignEach [.Tuple [.Name x px, .Name y py] kk tp] (X i').env).map (·.2) = [assign (.Tuple [.Name x px, .Name y py] kk tp) (X i').env]) : ExB X (.Assign [.Tuple [.Name x px, .Name y py] kk tp] e pos :: rest) D σ S F M := by
  refine ex_unpack (is := [i, j]) (un := unT) (tg_tup hx (tgs_cons hx nm hl hf (tgs_cons hx nm2 hl2 hf2 tgs_nil))) he rfl rfl (fun vs F1 f rv => ?_) hs hw h1
  obtain ⟨v, u, rfl, ra, rb⟩ := rv.two
  exact kn v u F1 f ra rb
theorem ex_unpack3 {x y z : Str} {i j m kk : Nat} {px py pz : Pos} (hx : SX C N sc fn k X) (nm : Nm N i x) (nm2 : Nm N j y) (nm3 : Nm N m z) (hl : Loc sc x) (hl2 : Loc sc y) (hl3 : Loc sc z) (hf : fn x = true ∨ sc.names.lookup x = some .local) (hf2 : fn y = true ∨ sc.names.lookup y = some .local) (hf3 : fn z = true ∨ sc.names.lookup z = some .local) (he : EvD X e σ S F M T (.tuple [d1, d2, d3]) M1)
    (kn : ∀ v u w F1, Same F F1 → Fd T F1 v d1 → Fd T F1 u d2 → Fd T F1 w d3 → ExB X rest D (((σ.set i (some v)).set j (some u)).set m (some w)) S F1 M1) (hs : ∀ i', swapsWithSole [.Tuple [.Name x px, .Name y py, .Name z pz] kk tp] e pos.line (X i').env = pure false) (hw : ∀ i', swappedStores [.Tuple [.Name x px, .Name y py, .Name z pz] kk tp] e (X i').env = pure none)
    (h1 : ∀ i', (assignEach [.Tuple [.Name x px, .Name y py, .Name z pz] kk tp] (X i').env).map (·.2) = [assign (.Tuple [.Name x px, .Name y py, .Name z pz] kk tp) (X i').env]) : ExB X (.Assign [.Tuple [.Name x px, .Name y py, .Name z pz] kk tp] e pos :: rest) D σ S F M := by
  refine ex_unpack (is := [i, j, m]) (un := unT) (tg_tup hx (tgs_cons hx nm hl hf (tgs_cons hx nm2 hl2 hf2 (tgs_cons hx nm3 hl3 hf3 tgs_nil)))) he rfl rfl (fun vs F1 f rv => ?_) hs hw h1
  obtain ⟨v, _, rfl, rv', r⟩ := rv.inv
  obtain ⟨u, w, rfl, ru, rw'⟩ := r.two
  exact kn v u w F1 f rv' ru rw'
end
abbrev gN (n : Nat) : PyData := .int (n : Nat)
theorem FdA.gN {S : Addr → Prop} {H : Hp} : ∀ bs : List Nat, FdA S H (bs.map fun n : Nat => V.int (n : Nat)) (bs.map gN)
  | [] => .nil
  | _ :: r => .cons (.int _) (FdA.gN r)
theorem gN_map (bs : List Nat) : bs.map gN = (bs.map (fun n : Nat => (n : Int))).map PyData.int := by rw [List.map_map]; rfl
theorem shGN (bs : List Nat) : SeqAt.shaped (.list (bs.map gN)) = true := by rw [gN_map]; exact shIs _
section
variable {J : Type} {X : J → Cx} {S T : Addr → Prop}
theorem od_isB {x y : Bool} : OpD X (.cmp .Is) S (.bool x) (.bool y) T (.bool (decide (x = y))) := fun v1 v2 F H M h r1 r2 Q q => by
  cases r1; cases r2
  exact ⟨_, fun n => op_isBl, x, y, rfl, rfl, q _ F H h (Same.refl _) (Grow.refl _) (.bl _)⟩
theorem od_isnotB {x y : Bool} : OpD X (.cmp .IsNot) S (.bool x) (.bool y) T (.bool (!decide (x = y))) := fun v1 v2 F H M h r1 r2 Q q => by
  cases r1; cases r2
  exact ⟨_, fun n => op_notBl, x, y, rfl, rfl, q _ F H h (Same.refl _) (Grow.refl _) (.bl _)⟩
end
/-- the place of a flat list, and the list there alone -/
theorem Fd.top {S : Addr → Prop} {F : Hp} {v : V} {ds : List PyData} (h : Fd S F v (.list ds)) (hf : ds.all flatD = true) : ∃ q o, v = .ref q ∧ S q ∧ F q = some o ∧ ∀ F1, Same F F1 → Fd (fun a => G.del F1 q a = none) F1 (.ref q) (.list ds) := by
  cases h with
  | @lst q xs _ hs e q1 => exact ⟨q, _, rfl, hs, e, fun F1 f => .lst del_at (f _ _ e) ((q1.mono (fun _ h => h) f).flat hf)⟩
/-! choice by index in a list written out -/
section
variable {C : Ctx} {N : List Str} {sc : Scope} {fn : Str → Bool} {k : Nat} {J : Type} {X : J → Cx}
variable {a b c e : Expr} {pos : Pos} {σ : L2.St} {S T : Addr → Prop} {F : Hp} {M M1 M2 : Mu}
theorem ev_ixI2 {i x y : Int} (hx : SX C N sc fn k X) (ha : EvD X a σ S F M Any (.list [.int x, .int y]) M1) (hb : EvD X b σ S F M1 Any (.int i) M2) (h0 : 0 ≤ i) (h1 : i < 2) (hs : PlainIx b) : EvD X (.Subscript a b pos) σ S F M T (.int (if i = 0 then x else y)) M2 := by
  refine ev_ixM (g := PyData.int) (l := [x, y]) hx ha hb (fun _ => rfl) ?_ hs
  by_cases c : i = 0
  · subst c; exact atI_hd _ _
  · obtain rfl : i = 1 := by omega
    rw [if_neg c]; exact atI_nat (j := 1) rfl
theorem ev_ixS3 {i : Int} {x y z : List Nat} (hx : SX C N sc fn k X) (ha : EvD X a σ S F M Any (.list [dS x, dS y, dS z]) M1) (hb : EvD X b σ S F M1 Any (.int i) M2) (h0 : 0 ≤ i) (h1 : i < 3) (hs : PlainIx b) : EvD X (.Subscript a b pos) σ S F M T (dS (if i = 0 then x else if i = 1 then y else z)) M2 := by
  refine ev_ixM (g := dS) (l := [x, y, z]) hx ha hb (fun _ => rfl) ?_ hs
  by_cases c : i = 0
  · subst c; exact atI_hd _ _
  · by_cases c1 : i = 1
    · subst c1; rw [if_neg c, if_pos rfl]; exact atI_nat (j := 1) rfl
    · obtain rfl : i = 2 := by omega
      rw [if_neg c, if_neg c1]; exact atI_nat (j := 2) rfl
end
end G

namespace G
open PySem PySem.Spec PyProof.Rows L2
theorem cutL_toI {α : Type} (l : List α) {i : Int} (h : 0 ≤ i) : cutL l none (some i) = l.take i.toNat := by
  rw [show i = ((i.toNat : Nat) : Int) by omega, cutL_to]; rfl
theorem cutL_fromI {α : Type} (l : List α) {i : Int} (h : 0 ≤ i) : cutL l (some i) none = l.drop i.toNat := by
  rw [show i = ((i.toNat : Nat) : Int) by omega, cutL_from]; rfl
theorem cutL_toLen {α : Type} {l : List α} {i : Int} (h : 0 ≤ i) : (cutL l none (some i)).length = min i.toNat l.length := by rw [cutL_toI l h, List.length_take]
theorem cutL_fromLen {α : Type} {l : List α} {i : Int} (h : 0 ≤ i) : (cutL l (some i) none).length = l.length - i.toNat := by rw [cutL_fromI l h, List.length_drop]
theorem od_pow {J : Type} {X : J → Cx} {S T : Addr → Prop} {i j : Int} (h : CPow i j) : OpD X (.bin .Pow) S (.int i) (.int j) T (.int (i ^ j.toNat)) := od_intC (H := fun _ => none) (fun _ => op_pow) h (.int _) rfl
section
variable {C : Ctx} {N : List Str} {sc : Scope} {fn : Str → Bool} {k : Nat} {J : Type} {X : J → Cx}
variable {a b c e : Expr} {es : List Expr} {pos pos' pos'' p p1 p2 : Pos} {σ : L2.St} {S T U : Addr → Prop} {F F' F1 H H' : Hp} {M M' M1 M2 M3 R : Mu} {d d1 d2 d3 : PyData} {ds es1 es2 : List PyData}
variable {D : Ends} {st : Stmt} {rest body other : List Stmt} {te : TE} {j : Nat}
/-- a promise of a def whose first argument is the box: what it tells may be old -/
def spBoxN (A : List PyData → Prop) (P : List PyData → PyData → Prop) : Sp := fun vs H Q _ => ∃ (b l : Addr) (rest : List V) (ds : List PyData) (s : Bx) (F : Hp), vs = .ref b :: rest ∧ b ≠ l ∧ H b = some (.lst [.ref l, .int s.2]) ∧ H l = some (.lst (s.1.map .int)) ∧
  Same F H ∧ F b = none ∧ F l = none ∧ FdA Any F rest ds ∧ A ds ∧
  ∀ d (s' : Bx) v H' F', P ds d → (∀ x o, x ≠ b → x ≠ l → H x = some o → H' x = some o) → H' b = some (.lst [.ref l, .int s'.2]) → H' l = some (.lst (s'.1.map .int)) → Same F F' → Same F' H' → (∀ a, F' a ≠ none → F a ≠ none ∨ H a = none) → Fd Any F' v d → Q v H'
theorem ev_callBN {x : Str} {ps : List Str} {A : List PyData → Prop} {P : List PyData → PyData → Prop} {kk : Nat} {q l : Addr} {s s1 : Bx} (hx : SX C N sc fn k X) (ok : Ok C kk x ps (spBoxN A P)) (hk : kk ≤ k) (hg : Gb sc x)
    (hb : EvV X e σ S F (boxM q l s ++ R) (.ref q)) (ha : EvA X es σ S F (boxM q l s ++ R) Any ds (boxM q l s1 ++ R)) (hA : A ds)
    (hdb : (x == ("__debug__" : Str)) = false) (he : ∀ i, starEach (e :: es) (X i).env = (false, eval e (X i).env) :: starEach es (X i).env) (hpl : ∀ i, (backTo pos (starEach es (X i).env)).any (·.1) = false)
    {F1 H : Hp} (f : Same F F1) (h : HM S F1 (boxM q l s ++ R) H) (Q : V → Hp → Prop) (qq : ∀ d (s' : Bx) v F2 H2, P ds d → HM S F2 (boxM q l s' ++ R) H2 → Same F1 F2 → Grow H H2 → Fd Any F2 v d → Q v H2) : wE X (.Call (.Name x p) (e :: es) [] pos) σ H Q := by
  obtain ⟨g, fd, hm, hkp, hbi, G⟩ := ok.ex
  refine ⟨_, fun i => pe_call (E := E0) (dvs := []) (ds := []) (f := g) (fd := fd) (ps := ps) (sp := spBoxN A P) (k := kk) (CX := CX0) ?_ ((hx.room i).mono hk) (gl_of hx hg i) ?_ ?_ ?_ .nil pass0 (pa_cons (pe_w e i) (pa_w es i) (he i)) hdb (he i) (hpl i), hb F1 H f h _ <| ha F1 H f h _ fun vs F2 H2 h2 f2 g2 r => ?_⟩
  · rw [hx.P i, hx.w i, hx.K i, hx.mg i, hx.base i]; exact G
  · rw [hx.mg i]; exact hm
  · rw [hx.K i]; exact hkp
  · rw [hx.K i]; exact hbi
  · show spBoxN A P (V.ref q :: vs ++ []) H2 Q E0
    rw [List.append_nil]
    have mq := h2.mu (q, .lst [.ref l, .int s1.2]) (by simp [boxM])
    have ml := h2.mu (l, .lst (s1.1.map .int)) (by simp [boxM])
    have nd := h2.nd
    have hne : q ≠ l := by
      intro c
      simp [boxM, c] at nd
    refine ⟨q, l, vs, ds, s1, F2, rfl, hne, mq.1, ml.1, h2.fa, mq.2, ml.2, r, hA, fun d s' v H' F' hP keep hq hl s1' s2' s3' rv => ?_⟩
    classical
    refine qq d s' v (fun a => if H2 a = none then H' a else F2 a) H' hP ⟨fun a o e => ?_, fun m hm' => ?_, ?_, fun a hz => ?_⟩ (f2.trans fun a o e => ?_) (g2.trans fun a hz => ?_) (rv.mono (fun _ h => h) fun a o e => ?_)
    · by_cases c : H2 a = none
      · rw [if_pos c] at e; exact e
      · rw [if_neg c] at e
        have ha := h2.fa _ _ e
        exact keep a o (fun z => by rw [z, mq.2] at e; cases e) (fun z => by rw [z, ml.2] at e; cases e) ha
    · have fl : ∀ m : Addr × HO, H2 m.1 ≠ none → F2 m.1 = none → (if H2 m.1 = none then H' m.1 else F2 m.1) = none := fun m h1 h3 => by rw [if_neg h1]; exact h3
      rcases List.mem_cons.mp hm' with c | hm'
      · subst c
        exact ⟨hq, fl (q, _) (by rw [mq.1]; exact fun z => nomatch z) mq.2⟩
      · rcases List.mem_cons.mp hm' with c | hm'
        · subst c
          exact ⟨hl, fl (l, _) (by rw [ml.1]; exact fun z => nomatch z) ml.2⟩
        · have hR : m ∈ R := by simpa using hm'
          have hmu := h2.mu m (by simp [boxM, hR])
          have nq : m.1 ≠ q := by
            intro c
            have z : m.1 ∈ R.map (·.1) := List.mem_map_of_mem hR
            rw [c] at z
            simp only [boxM, List.map_append, List.map_cons, List.map_nil, List.cons_append, List.nil_append, List.nodup_cons, List.mem_cons] at nd
            exact nd.1 (Or.inr z)
          have nl : m.1 ≠ l := by
            intro c
            have z : m.1 ∈ R.map (·.1) := List.mem_map_of_mem hR
            rw [c] at z
            simp only [boxM, List.map_append, List.map_cons, List.map_nil, List.cons_append, List.nil_append, List.nodup_cons, List.mem_cons] at nd
            exact nd.2.1 z
          exact ⟨keep _ _ nq nl hmu.1, fl m (by rw [hmu.1]; exact fun z => nomatch z) hmu.2⟩
    · have := h2.nd
      simpa [boxM] using this
    · by_cases cq : a = q
      · subst cq; rw [hq] at hz; cases hz
      · by_cases cl : a = l
        · subst cl; rw [hl] at hz; cases hz
        · refine h2.up a ?_
          cases hh : H2 a with
          | none => rfl
          | some o => rw [keep a o cq cl hh] at hz; cases hz
    · show (if H2 a = none then H' a else F2 a) = some o
      rw [if_neg (by rw [h2.fa _ _ e]; exact fun z => nomatch z)]
      exact e
    · by_cases cq : a = q
      · subst cq; rw [hq] at hz; cases hz
      · by_cases cl : a = l
        · subst cl; rw [hl] at hz; cases hz
        · cases hh : H2 a with
          | none => rfl
          | some o => rw [keep a o cq cl hh] at hz; cases hz
    · show (if H2 a = none then H' a else F2 a) = some o
      by_cases c : H2 a = none
      · rw [if_pos c]; exact s2' _ _ e
      · rw [if_neg c]
        rcases s3' a (by rw [e]; exact fun z => nomatch z) with z | z
        · cases hh : F2 a with
          | none => exact absurd hh z
          | some u => rw [← s1' _ _ hh]; exact e
        · exact absurd z c
/-- a, b = f(box, ..), of which one answer comes, maybe an old one -/
theorem ex_unpackBN {x y z : Str} {i j kk2 : Nat} {px py tp : Pos} {ps : List Str} {A : List PyData → Prop} {P : List PyData → PyData → Prop} {kk : Nat} {q l : Addr} {s s1 : Bx} (hx : SX C N sc fn k X) (nm : Nm N i x) (nm2 : Nm N j y) (hl : Loc sc x) (hl2 : Loc sc y) (hf : fn x = true ∨ sc.names.lookup x = some .local) (hf2 : fn y = true ∨ sc.names.lookup y = some .local) (ok : Ok C kk z ps (spBoxN A P)) (hk : kk ≤ k) (hg : Gb sc z)
    (hb : EvV X e σ S F (boxM q l s ++ R) (.ref q)) (ha : EvA X es σ S F (boxM q l s ++ R) Any ds (boxM q l s1 ++ R)) (hA : A ds)
    (hdb : (z == ("__debug__" : Str)) = false) (he : ∀ i, starEach (e :: es) (X i).env = (false, eval e (X i).env) :: starEach es (X i).env) (hpl : ∀ i, (backTo p1 (starEach es (X i).env)).any (·.1) = false)
    (hP : ∀ d, P ds d → ∃ d1 d2, d = .tuple [d1, d2])
    (kn : ∀ d1 d2 (s' : Bx) v u F1, P ds (.tuple [d1, d2]) → Same F F1 → Fd Any F1 v d1 → Fd Any F1 u d2 → ExB X rest D ((σ.set i (some v)).set j (some u)) S F1 (boxM q l s' ++ R))
    (hs : ∀ i', swapsWithSole [.Tuple [.Name x px, .Name y py] kk2 tp] (.Call (.Name z p) (e :: es) [] p1) pos.line (X i').env = pure false) (hw : ∀ i', swappedStores [.Tuple [.Name x px, .Name y py] kk2 tp] (.Call (.Name z p) (e :: es) [] p1) (X i').env = pure none)
    (h1 : ∀ i', (assignEach [.Tuple [.Name x px, .Name y py] kk2 tp] (X i').env).map (·.2) = [assign (.Tuple [.Name x px, .Name y py] kk2 tp) (X i').env]) :
    ExB X (.Assign [.Tuple [.Name x px, .Name y py] kk2 tp] (.Call (.Name z p) (e :: es) [] p1) pos :: rest) D σ S F (boxM q l s ++ R) := fun F1 H f hm =>
  wB_cons ⟨_, fun i => ps_asg (pe_w _ i) (pg_w _ i) (hs i) (hw i) (h1 i), ev_callBN hx ok hk hg hb ha hA hdb he hpl f hm _ fun d s' v F2 H2 hd h2 f2 g2 r => by
    obtain ⟨d1, d2, rfl⟩ := hP d hd
    exact (show TgD X (.Tuple [.Name x px, .Name y py] kk2 tp) [i, j] unT from tg_tup hx (tgs_cons hx nm hl hf (tgs_cons hx nm2 hl2 hf2 tgs_nil))) Any F2 H2 v _ [d1, d2] σ _ h2.fa r rfl rfl fun vs rv => by
      obtain ⟨v, u, rfl, ra, rb⟩ := rv.two
      exact kn d1 d2 s' v u F2 hd (f.trans f2) ra rb F2 H2 (Same.refl _) h2⟩
end
section
variable {C : Ctx} {N ps : List Str} {x : Str} {st : Stmt} {kk : Nat}
theorem ok_boxN {A : List PyData → Prop} {P : List PyData → PyData → Prop} (d : DefAt C x st ps) (S : FnScope N ps (defScope st)) (len : ∀ ds, A ds → ds.length + 1 = ps.length)
    (body : ∀ X : Unit → Cx, SX C N (defScope st) (fun _ => true) kk X → ∀ ds, A ds → ∀ (s : Bx) (b l : Addr) (F : Hp) (U W : Addr → Prop) vs, b ≠ l → F b = none → F l = none → FdA W F vs ds → (∀ a, U a → F a = none) → (∀ a, U a → W a) → ∀ D : Ends, (∀ r (s' : Bx) v F1 H, P ds r → HM U F1 (boxM b l s') H → Same F F1 → Fd W F1 v r → D.rt v H) →
      ExB X (defBody st) { D with nx := fun _ _ => False } (start N (.ref b :: vs)) U F (boxM b l s)) : Ok C (kk + 1) x ps (spBoxN A P) := by
  refine ok_def d S (fun vs H Q E h => ?_) fun X hx vs H Q E h => ?_
  · obtain ⟨b, l, rest, ds, s, F, rfl, _, _, _, _, _, _, hd, ha, _⟩ := h
    rw [List.length_cons, hd.length, len ds ha]
  · obtain ⟨b, l, rest, ds, s, F, rfl, hne, hb, hl, hF, hFb, hFl, hd, ha, q⟩ := h
    have fm : Same F (minus H b l) := fun a o e => by
      rw [minus_at (fun z => by rw [z, hFb] at e; cases e) (fun z => by rw [z, hFl] at e; cases e)]
      exact hF _ _ e
    have mb : minus H b l b = none := by unfold minus; rw [if_pos (.inl rfl)]
    have ml : minus H b l l = none := by unfold minus; rw [if_pos (.inr rfl)]
    have ends : ∀ r (s' : Bx) (v : V) F1 H1, P ds r → HM (fun a => H a = none) F1 (boxM b l s') H1 → Same (minus H b l) F1 → Fd (fun a => F a ≠ none ∨ H a = none) F1 v r → Q v H1 := fun r s' v F1 H1 hP hm f rv => by
      classical
      exact q r s' v H1 (fun a => if F a ≠ none ∨ H a = none then F1 a else none) hP (fun x o h1 h2 e => hm.fa _ _ (f x o (by rw [minus_at h1 h2]; exact e))) (hm.mu (b, _) (by simp [boxM])).1 (hm.mu (l, _) (by simp [boxM])).1 (fun a o e => (if_pos (.inl (by rw [e]; exact fun z => nomatch z))).trans ((fm.trans f) _ _ e)) (fun a o e => by
        have e : (if F a ≠ none ∨ H a = none then F1 a else none) = some o := e
        split at e
        · exact hm.fa _ _ e
        · cases e) (fun a h => Classical.byContradiction fun c => h (if_neg c)) (rv.cut fun a o hs e => ⟨(if_pos hs).trans e, trivial⟩)
    have := body X hx ds ha s b l (minus H b l) (fun a => H a = none) (fun a => F a ≠ none ∨ H a = none) rest hne mb ml (hd.cut fun a o _ e => ⟨fm _ _ e, .inl (by rw [e]; exact fun z => nomatch z)⟩) (fun a z => by unfold minus; split <;> first | rfl | exact z) (fun a h => .inr h) { nx := fun _ H' => Q .non H', rt := Q } ends (minus H b l) H (Same.refl _) ⟨fun a o e => ?_, fun m hm => ?_, ?_, fun a ha => ha⟩
    · obtain ⟨t, ht, q1⟩ := this
      refine ⟨fun D' σ' H' => t D' σ' H' ∨ t { D' with nx := fun _ _ => False } σ' H', fun i => ⟨fun pins s σ' H' D' I hq => ?_⟩, .inr q1⟩
      rcases hq with hq | hq
      · exact (ht i).run pins s σ' H' D' I hq
      · refine thn ((ht i).run pins s σ' H' _ I hq) fun fl s' hs => ?_
        cases fl with
        | next => obtain ⟨_, _, _, z⟩ := hs; exact z.elim
        | brk => exact hs
        | cont => exact hs
        | ret u => exact hs
    · unfold minus at e
      split at e
      · cases e
      · exact e
    · rcases List.mem_cons.mp hm with c | hm
      · subst c; exact ⟨hb, mb⟩
      · have c : m = (l, .lst (s.1.map .int)) := by simpa using hm
        subst c; exact ⟨hl, ml⟩
    · simp [boxM, hne]
end
end G

namespace G
open PySem PySem.Spec PyProof.Rows L2
/-! ## the second layer: every name's cell holds data and the colours of what it may reach -/
mutual
def wfD : PyData → Prop
  | .none => True
  | .bool _ => True
  | .int _ => True
  | .str s => okW s.cps.toList ∧ s.cps.size ≤ sizeLine
  | .list ds => ds.length < sizeLine ∧ wfA ds
  | .tuple ds => ds.length < sizeLine ∧ wfA ds
  | .dict _ => False
def wfA : List PyData → Prop
  | [] => True
  | d :: ds => wfD d ∧ wfA ds
end
theorem wfA_iff {ds : List PyData} : wfA ds ↔ ∀ d ∈ ds, wfD d := by
  induction ds with
  | nil => simp [wfA]
  | cons d ds ih => simp [wfA, ih]
theorem wfA.app {ds es : List PyData} (h : wfA ds) (h2 : wfA es) : wfA (ds ++ es) := wfA_iff.mpr fun d hd => (List.mem_append.mp hd).elim (wfA_iff.mp h d) (wfA_iff.mp h2 d)
theorem wfA.sub {ds es : List PyData} (h : wfA ds) (hs : ∀ d ∈ es, d ∈ ds) : wfA es := wfA_iff.mpr fun d hd => wfA_iff.mp h d (hs d hd)
theorem wfD.s {w : List Nat} (h : wfD (dS w)) : okW w ∧ w.length ≤ sizeLine := by
  have : okW (tx w).cps.toList ∧ (tx w).cps.size ≤ sizeLine := h
  refine ⟨by simpa using this.1, ?_⟩
  have e : (tx w).cps.size = w.length := tx_len w
  omega
theorem wfD.mkS {w : List Nat} (h : okW w) (h2 : w.length ≤ sizeLine) : wfD (dS w) := by
  show okW (tx w).cps.toList ∧ (tx w).cps.size ≤ sizeLine
  have e : (tx w).cps.size = w.length := tx_len w
  exact ⟨by simpa using h, by omega⟩
mutual
theorem wfD.can : ∀ {d : PyData}, wfD d → PyData.canLay0 d = true
  | .none, _ => rfl
  | .bool _, _ => rfl
  | .int _, _ => rfl
  | .str s, h => by
    have h' : okW s.cps.toList ∧ s.cps.size ≤ sizeLine := h
    have := shS (w := s.cps.toList) h'.1
    unfold SeqAt.shaped at this
    rw [Bool.and_eq_true] at this
    have t : tx s.cps.toList = s := tx_tl s
    rw [show dS s.cps.toList = .str s from congrArg PyData.str t] at this
    exact this.1
  | .list ds, h => wfA.can h.2
  | .tuple ds, h => wfA.can h.2
theorem wfA.can : ∀ {ds : List PyData}, wfA ds → PyData.canLayAll0 ds = true
  | [], _ => rfl
  | d :: ds, h => by
    show (PyData.canLay0 d && PyData.canLayAll0 ds) = true
    rw [wfD.can h.1, wfA.can h.2]; rfl
end
theorem wfD.shaped {d : PyData} (h : wfD d) (hd : PyData.depth d ≤ 64) : SeqAt.shaped d = true := by
  unfold SeqAt.shaped
  rw [h.can, decide_eq_true hd]; rfl

abbrev Cols := Nat → Addr → Prop
def col (ρ : Cols) (R : List Nat) : Addr → Prop := fun a => ∃ r ∈ R, ρ r a
structure OP where
  p : V → (Addr → Prop) → Hp → Prop
  loc : ∀ {v : V} {A A' : Addr → Prop} {H H' : Hp}, (∀ a o, A a → H a = some o → H' a = some o ∧ A' a) → p v A H → p v A' H'
def dP (d : PyData) : OP := ⟨fun v A H => Fd A H v d ∧ wfD d, fun h r => ⟨r.1.cut h, r.2⟩⟩
/-- an object that may change: its own places A, and those C of what it holds -/
structure OQ where
  p : V → (Addr → Prop) → (Addr → Prop) → Hp → Prop
  loc : ∀ {v : V} {A C C' : Addr → Prop} {H H' : Hp}, (∀ a o, A a → H a = some o → H' a = some o) → (∀ a o, C a → H a = some o → H' a = some o ∧ C' a) → p v A C H → p v A C' H'
abbrev Cell := Option (OP × List Nat)
abbrev Ob := Nat × OQ × List Nat
abbrev Held := List (V × OP × List Nat)
structure Rel (Z : Hp) (ρ π : Cols) (E : List Cell) (O : List Ob) (K : Held) (σ : L2.St) (H : Hp) : Prop where
  cell : ∀ (i : Nat) P R, E[i]? = some (some (P, R)) → ∃ v, σ[i]? = some (some v) ∧ P.p v (col ρ R) H
  obj : ∀ o ∈ O, ∃ v, σ[o.1]? = some (some v) ∧ o.2.1.p v (π o.1) (col ρ o.2.2) H
  held : ∀ k ∈ K, k.2.1.p k.1 (col ρ k.2.2) H
  len : E.length = σ.length
  dj : ∀ r s a, ρ r a → ρ s a → r = s
  dp : ∀ r s a, π r a → π s a → r = s
  dx : ∀ r s a, ρ r a → π s a → False
  lr : ∀ r a, ρ r a → H a ≠ none
  lp : ∀ r a, π r a → H a ≠ none
  keep : Same Z H
  zr : ∀ r a, ρ r a → r ≠ 0 → Z a = none
  zp : ∀ r a, π r a → Z a = none
  z0 : ∀ a, ρ 0 a → Z a ≠ none
structure Go (ρ π : Cols) (H : Hp) (ρ' π' : Cols) (H' : Hp) : Prop where
  up : ∀ r a, ρ r a → ρ' r a
  kp : ∀ a o, H a = some o → (∀ s, ¬π s a) → H' a = some o
  gr : ∀ a, H' a = none → H a = none
  rn : ∀ r a, ρ' r a → ρ r a ∨ H a = none
  pn : ∀ s a, π' s a → π s a ∨ H a = none
def vis (ρ π : Cols) (R : List Nat) (H : Hp) : Addr → Prop := fun a => col ρ R a ∨ (H a = none ∧ (∀ r, ¬ρ r a) ∧ ∀ s, ¬π s a)
section
variable {Z H H0 H1 H2 H3 H' : Hp} {ρ π ρ1 π1 ρ2 π2 : Cols} {E E' : List Cell} {O O' : List Ob} {K K' : Held} {σ : L2.St} {R R' : List Nat}
theorem Go.refl (ρ π : Cols) (H : Hp) : Go ρ π H ρ π H := ⟨fun _ _ h => h, fun _ _ h _ => h, fun _ h => h, fun _ _ h => .inl h, fun _ _ h => .inl h⟩
theorem Go.trans (a : Go ρ π H ρ1 π1 H1) (b : Go ρ1 π1 H1 ρ2 π2 H2) : Go ρ π H ρ2 π2 H2 where
  up := fun r x h => b.up r x (a.up r x h)
  kp := fun x o h hn => b.kp x o (a.kp x o h hn) fun s hs => (a.pn s x hs).elim (hn s) fun z => by rw [z] at h; cases h
  gr := fun x h => a.gr x (b.gr x h)
  rn := fun r x h => (b.rn r x h).elim (a.rn r x) fun z => .inr (a.gr x z)
  pn := fun s x h => (b.pn s x h).elim (a.pn s x) fun z => .inr (a.gr x z)
theorem Go.same (s : Same H H') : Go ρ π H ρ π H' := ⟨fun _ _ h => h, fun a o h _ => s a o h, fun a h => s.free h, fun _ _ h => .inl h, fun _ _ h => .inl h⟩
theorem Rel.same (h : Rel Z ρ π E O K σ H) (s : Same H H') : Rel Z ρ π E O K σ H' where
  cell := fun i P R e => by obtain ⟨v, e1, q⟩ := h.cell i P R e; exact ⟨v, e1, P.loc (fun a o ha e => ⟨s _ _ e, ha⟩) q⟩
  obj := fun o ho => by obtain ⟨v, e1, q⟩ := h.obj o ho; exact ⟨v, e1, o.2.1.loc (fun a o _ e => s _ _ e) (fun a o ha e => ⟨s _ _ e, ha⟩) q⟩
  held := fun k hk => k.2.1.loc (fun a o ha e => ⟨s _ _ e, ha⟩) (h.held k hk)
  len := h.len
  dj := h.dj
  dp := h.dp
  dx := h.dx
  lr := fun r a hr e => h.lr r a hr (s.free e)
  lp := fun r a hr e => h.lp r a hr (s.free e)
  keep := h.keep.trans s
  zr := h.zr
  zp := h.zp
  z0 := h.z0
theorem vis_keep (h : Rel Z ρ1 π1 E O K σ H1) (g : Go ρ1 π1 H1 ρ2 π2 H2) {a : Addr} {o : HO} (v : vis ρ1 π1 R H0 a) (e : H1 a = some o) : H2 a = some o ∧ vis ρ2 π2 R H0 a := by
  rcases v with ⟨r, hr, c⟩ | ⟨z, c1, c2⟩
  · exact ⟨g.kp a o e fun s q => h.dx r s a c q, .inl ⟨r, hr, g.up r a c⟩⟩
  · refine ⟨g.kp a o e c2, .inr ⟨z, fun r q => ?_, fun s q => ?_⟩⟩
    · rcases g.rn r a q with x | x
      · exact c1 r x
      · rw [x] at e; cases e
    · rcases g.pn s a q with x | x
      · exact c2 s x
      · rw [x] at e; cases e
theorem vis_from (g : Go ρ π H ρ1 π1 H1) {a : Addr} (v : vis ρ2 π2 R H1 a) : vis ρ2 π2 R H a := v.elim .inl fun z => .inr ⟨g.gr a z.1, z.2⟩
theorem vis_sub (hs : ∀ r ∈ R, r ∈ R') {a : Addr} (v : vis ρ π R H a) : vis ρ π R' H a := v.elim (fun ⟨r, hr, c⟩ => .inl ⟨r, hs r hr, c⟩) .inr
/-- what is quite new -/
theorem vis_new (h : Rel Z ρ1 π1 E O K σ H1) (g : Go ρ π H ρ1 π1 H1) {a : Addr} (e : H1 a = none) : vis ρ1 π1 R H a := .inr ⟨g.gr a e, fun r q => h.lr r a q e, fun s q => h.lp s a q e⟩
theorem Rel.hm (H : Hp) : HM (fun a => H a = none) H [] H := ⟨Same.refl _, fun m hm => absurd hm (by simp), List.nodup_nil, fun a ha => ha⟩
/-- a new colour for what is new and has none -/
def paint (ρ π : Cols) (w : Nat) (H H' : Hp) : Cols := fun r a => ρ r a ∨ (r = w ∧ H a = none ∧ H' a ≠ none ∧ (∀ r, ¬ρ r a) ∧ ∀ s, ¬π s a)
theorem col_up (hu : ∀ r a, ρ r a → ρ1 r a) {a : Addr} (h : col ρ R a) : col ρ1 R a := let ⟨r, hr, c⟩ := h; ⟨r, hr, hu r a c⟩
theorem Rel.paint {w : Nat} (h : Rel Z ρ π E O K σ H') (hw : w ≠ 0) (hz : ∀ a, H a = none → Z a = none) : Rel Z (paint ρ π w H H') π E O K σ H' where
  cell := fun i P R e => by obtain ⟨v, e1, q⟩ := h.cell i P R e; exact ⟨v, e1, P.loc (fun a o ha e => ⟨e, col_up (fun _ _ h => .inl h) ha⟩) q⟩
  obj := fun o ho => by obtain ⟨v, e1, q⟩ := h.obj o ho; exact ⟨v, e1, o.2.1.loc (fun a o _ e => e) (fun a o ha e => ⟨e, col_up (fun _ _ h => .inl h) ha⟩) q⟩
  held := fun k hk => k.2.1.loc (fun a o ha e => ⟨e, col_up (fun _ _ h => .inl h) ha⟩) (h.held k hk)
  len := h.len
  dj := fun r s a h1 h2 => by
    rcases h1 with h1 | ⟨rfl, _, _, n1, _⟩
    · rcases h2 with h2 | ⟨rfl, _, _, n1, _⟩
      · exact h.dj r s a h1 h2
      · exact absurd h1 (n1 r)
    · rcases h2 with h2 | ⟨rfl, _⟩
      · exact absurd h2 (n1 s)
      · rfl
  dp := h.dp
  dx := fun r s a h1 h2 => by
    rcases h1 with h1 | ⟨_, _, _, _, n2⟩
    · exact h.dx r s a h1 h2
    · exact n2 s h2
  lr := fun r a h1 => by
    rcases h1 with h1 | ⟨_, _, n, _⟩
    · exact h.lr r a h1
    · exact n
  lp := h.lp
  keep := h.keep
  zr := fun r a h1 hr => by
    rcases h1 with h1 | ⟨_, n, _⟩
    · exact h.zr r a h1 hr
    · exact hz a n
  zp := h.zp
  z0 := fun a h1 => by
    rcases h1 with h1 | ⟨e, _⟩
    · exact h.z0 a h1
    · exact absurd e.symm hw
theorem Go.paint {w : Nat} (g : Go ρ π H ρ1 π1 H1) : Go ρ π H (paint ρ1 π1 w H H1) π1 H1 where
  up := fun r a h => .inl (g.up r a h)
  kp := g.kp
  gr := g.gr
  rn := fun r a h => by
    rcases h with h | ⟨_, n, _⟩
    · exact g.rn r a h
    · exact .inr n
  pn := g.pn
theorem vis_paint {w : Nat} {a : Addr} {o : HO} (v : vis ρ1 π1 R H a) (e : H1 a = some o) : col (G.paint ρ1 π1 w H H1) (w :: R) a := by
  rcases v with ⟨r, hr, c⟩ | ⟨z, c1, c2⟩
  · exact ⟨r, List.mem_cons_of_mem _ hr, .inl c⟩
  · exact ⟨w, List.mem_cons_self, .inr ⟨rfl, z, (by rw [e]; exact fun z => nomatch z), c1, c2⟩⟩
end
/-- the colours of a cell: none where no place is looked at -/
def rOf (d : PyData) (R : List Nat) : List Nat := if flatD d = true then [] else R
abbrev dc (d : PyData) (R : List Nat) : Cell := some (dP d, R)
theorem dP_rOf {d : PyData} {R : List Nat} {ρ : Cols} {H : Hp} {v : V} (h : Fd (col ρ R) H v d) (hw : wfD d) : (dP d).p v (col ρ (rOf d R)) H := by
  unfold rOf
  split
  · next c => exact ⟨h.flat c, hw⟩
  · exact ⟨h, hw⟩
/-! ### judgements -/
section
variable {J : Type}
def EE (X : J → Cx) (Z : Hp) (E : List Cell) (O : List Ob) (e : Expr) (P : OP) (R : List Nat) (O' : List Ob) : Prop :=
  ∀ ρ π K σ H, Rel Z ρ π E O K σ H → ∀ Q : VK, (∀ v ρ' π' H', Rel Z ρ' π' E O' K σ H' → Go ρ π H ρ' π' H' → P.p v (vis ρ' π' R H) H' → Q v H') → wE X e σ H Q
abbrev ED (X : J → Cx) (Z : Hp) (E : List Cell) (O : List Ob) (e : Expr) (d : PyData) (R : List Nat) (O' : List Ob) : Prop := EE X Z E O e (dP d) R O'
def ET (X : J → Cx) (Z : Hp) (E : List Cell) (O : List Ob) (e : Expr) (b : Bool) (O' : List Ob) : Prop :=
  ∀ ρ π K σ H, Rel Z ρ π E O K σ H → ∀ Q : Bool → Hp → Prop, (∀ ρ' π' H', Rel Z ρ' π' E O' K σ H' → Go ρ π H ρ' π' H' → Q b H') → wT X e σ H Q
def EW (X : J → Cx) (Z : Hp) (E : List Cell) (O : List Ob) (e : Expr) (b : Bool) (O' : List Ob) : Prop :=
  ∀ ρ π K σ H, Rel Z ρ π E O K σ H → ∀ Q : Bool → Hp → Prop, (∀ ρ' π' H', Rel Z ρ' π' E O' K σ H' → Go ρ π H ρ' π' H' → Q b H') → wW X e σ H Q
def EA (X : J → Cx) (Z : Hp) (E : List Cell) (O : List Ob) (es : List Expr) (ds : List PyData) (R : List Nat) (O' : List Ob) : Prop :=
  ∀ ρ π K σ H, Rel Z ρ π E O K σ H → ∀ Q : List V → Hp → Prop, (∀ vs ρ' π' H', Rel Z ρ' π' E O' K σ H' → Go ρ π H ρ' π' H' → FdA (vis ρ' π' R H) H' vs ds → wfA ds → Q vs H') → wA X es σ H Q
/-- an operation on values that comes to something new -/
def OpF (X : J → Cx) (f : OpK) (d1 d2 d : PyData) : Prop := wfD d1 → wfD d2 → wfD d ∧ ∀ S T : Addr → Prop, (∀ a, S a → T a) → OpD X f S d1 d2 T d
def CbF (X : J → Cx) (f : Value) (ds : List PyData) (d : PyData) : Prop := wfA ds → wfD d ∧ ∀ S T : Addr → Prop, (∀ a, S a → T a) → CbD X f S [] ds T d
variable {X : J → Cx} {Z : Hp} {E E' : List Cell} {O O1 O2 O3 O' : List Ob} {e a b c : Expr} {es : List Expr} {P : OP} {R R1 R2 R3 R' : List Nat} {d d1 d2 d3 : PyData} {ds : List PyData} {pos : Pos} {k k1 k2 : Bool}
theorem EE.to (h : ED X Z E O e d1 R O') (q : d1 = d2) : ED X Z E O e d2 R O' := q ▸ h
theorem ET.to {c : Bool} (h : ET X Z E O e k O') (q : k = c) : ET X Z E O e c O' := q ▸ h
theorem EE.sub (h : EE X Z E O e P R O') (hs : ∀ r ∈ R, r ∈ R') : EE X Z E O e P R' O' := fun ρ π K σ H hr Q q => h ρ π K σ H hr Q fun v ρ' π' H' h1 g r => q v ρ' π' H' h1 g (P.loc (fun a o ha e => ⟨e, vis_sub hs ha⟩) r)
theorem EE.flat (h : ED X Z E O e d R O') (f : flatD d = true) : ED X Z E O e d R' O' := fun ρ π K σ H hr Q q => h ρ π K σ H hr Q fun v ρ' π' H' h1 g r => q v ρ' π' H' h1 g ⟨r.1.flat f, r.2⟩
/-- new values behind an expression -/
theorem newly {ρ π ρ1 π1 : Cols} {K : Held} {σ : L2.St} {H H1 H2 : Hp} {v : V} (h : Rel Z ρ1 π1 E O K σ H1) (g : Go ρ π H ρ1 π1 H1) (s : Same H1 H2) (r : Fd (fun a => H1 a = none) H2 v d) :
    Rel Z ρ1 π1 E O K σ H2 ∧ Go ρ π H ρ1 π1 H2 ∧ Fd (vis ρ1 π1 R H) H2 v d :=
  ⟨h.same s, g.trans (Go.same s), r.mono (fun a e => vis_new h g e) (Same.refl _)⟩
theorem OpF.run {f : OpK} (ho : OpF X f d1 d2 d) {v1 v2 : V} {A B : Addr → Prop} {H : Hp} (r1 : Fd A H v1 d1) (w1 : wfD d1) (r2 : Fd B H v2 d2) (w2 : wfD d2) (Q : VK) (q : ∀ v H', Same H H' → Fd (fun a => H a = none) H' v d → wfD d → Q v H') : wO X f.fn v1 v2 H Q := by
  obtain ⟨wd, hh⟩ := ho w1 w2
  exact hh (fun a => H a = none) (fun a => H a = none) (fun _ h => h) v1 v2 H H [] (Rel.hm H) (r1.mono (fun _ _ => trivial) (Same.refl _)) (r2.mono (fun _ _ => trivial) (Same.refl _)) Q fun v F' H' hm s g r =>
    q v H' (s.trans hm.fa) (r.mono (fun _ h => h) hm.fa) wd
theorem ee_int {n : Int} {j : Nat} : ED X Z E O (.Constant (.int n) j pos) (.int n) [] O := fun ρ π K σ H h Q q => ⟨_, fun i => pe_int, q _ ρ π H h (Go.refl _ _ _) ⟨.int n, trivial⟩⟩
theorem ee_bl {n : Bool} {j : Nat} : ED X Z E O (.Constant (.bool n) j pos) (.bool n) [] O := fun ρ π K σ H h Q q => ⟨_, fun i => pe_bl, q _ ρ π H h (Go.refl _ _ _) ⟨.bl n, trivial⟩⟩
theorem ee_non {j : Nat} : ED X Z E O (.Constant .none j pos) .none [] O := fun ρ π K σ H h Q q => ⟨_, fun i => pe_non, q _ ρ π H h (Go.refl _ _ _) ⟨.non, trivial⟩⟩
def okLit (s : Str) : Bool := s.cps.toList.all (fun c => decide (c < 1114112)) && decide (s.cps.size ≤ 16777216)
theorem okLit.wf {s : Str} (h : okLit s = true) : wfD (dS s.cps.toList) := by
  unfold okLit at h
  rw [Bool.and_eq_true, decide_eq_true_eq, List.all_eq_true] at h
  refine wfD.mkS (fun c hc => of_decide_eq_true (h.1 c hc)) ?_
  rw [sizeLine_eq]
  have : s.cps.toList.length = s.cps.size := Array.length_toList
  omega
theorem ee_str {n : Str} {j : Nat} (hl : okLit n = true) : ED X Z E O (.Constant (.str n) j pos) (dS n.cps.toList) [] O := fun ρ π K σ H h Q q => ⟨_, fun i => pe_str, q _ ρ π H h (Go.refl _ _ _) ⟨by
  show Fd _ H (.str n) (.str (tx n.cps.toList))
  rw [tx_tl]; exact .str n, okLit.wf hl⟩⟩
theorem ee_bin {op : Operator} (ha : ED X Z E O a d1 R1 O1) (hb : ED X Z E O1 b d2 R2 O2) (ho : OpF X (.bin op) d1 d2 d) : ED X Z E O (.BinOp a op b pos) d [] O2 := fun ρ π K σ H h Q q =>
  ⟨_, fun i => pe_op (op_w _ i) (pe_w a i) (pe_w b i), ha ρ π K σ H h _ fun v1 ρ1 π1 H1 h1 g1 r1 => hb ρ1 π1 K σ H1 h1 _ fun v2 ρ2 π2 H2 h2 g2 r2 =>
    ho.run (r1.1.cut fun a o ha e => vis_keep h1 g2 ha e) r1.2 r2.1 r2.2 Q fun v H3 s r w => by
      obtain ⟨x, y, z⟩ := newly h2 (g1.trans g2) s r
      exact q v ρ2 π2 H3 x y ⟨z, w⟩⟩
theorem ee_cmp {op : CmpOp} (ha : ED X Z E O a d1 R1 O1) (hb : ED X Z E O1 b d2 R2 O2) (ho : OpF X (.cmp op) d1 d2 d) (hm : behindInMarks op b = false) : ED X Z E O (.Compare a [op] [b] pos) d [] O2 := fun ρ π K σ H h Q q =>
  ⟨_, fun i => pe_cmpR (op_w _ i) (pe_w a i) (pe_w b i) hm, ha ρ π K σ H h _ fun v1 ρ1 π1 H1 h1 g1 r1 => hb ρ1 π1 K σ H1 h1 _ fun v2 ρ2 π2 H2 h2 g2 r2 =>
    ho.run (r1.1.cut fun a o ha e => vis_keep h1 g2 ha e) r1.2 r2.1 r2.2 Q fun v H3 s r w => by
      obtain ⟨x, y, z⟩ := newly h2 (g1.trans g2) s r
      exact q v ρ2 π2 H3 x y ⟨z, w⟩⟩
theorem et_cmp' {op : CmpOp} (ha : ED X Z E O a d1 R1 O1) (hb : ED X Z E O1 b d2 R2 O2) (ho : OpF X (.cmp op) d1 d2 (.bool k)) (hm : behindInMarks op b = false) : ET X Z E O (.Compare a [op] [b] pos) k O2 := fun ρ π K σ H h Q q =>
  ⟨_, fun i => pt_cmpR (op_w _ i) (pe_w a i) (pe_w b i) hm, ha ρ π K σ H h _ fun v1 ρ1 π1 H1 h1 g1 r1 => hb ρ1 π1 K σ H1 h1 _ fun v2 ρ2 π2 H2 h2 g2 r2 =>
    ho.run (r1.1.cut fun a o ha e => vis_keep h1 g2 ha e) r1.2 r2.1 r2.2 _ fun v H3 s r w => by
      cases r
      exact ⟨k, rfl, q ρ2 π2 H3 (h2.same s) ((g1.trans g2).trans (Go.same s))⟩⟩
theorem ee_chain {op op2 : CmpOp} (ha : ED X Z E O a d1 R1 O1) (hb : ED X Z E O1 b d2 R2 O1) (hc : ED X Z E O1 c d3 R3 O1) (ho : OpF X (.cmp op) d1 d2 (.bool k1)) (ho2 : OpF X (.cmp op2) d2 d3 (.bool k2))
    (hm : lastMarks [op, op2] [b, c] = false) : ED X Z E O (.Compare a [op, op2] [b, c] pos) (.bool (k1 && k2)) [] O1 := fun ρ π K σ H h Q q =>
  ⟨_, fun i => pe_chain (op_w _ i) (op_w _ i) (pe_w a i) (pe_w b i) (pe_w c i) hm, ha ρ π K σ H h _ fun v1 ρ1 π1 H1 h1 g1 r1 => hb ρ1 π1 K σ H1 h1 _ fun v2 ρ2 π2 H2 h2 g2 r2 =>
    ho.run (r1.1.cut fun a o ha e => vis_keep h1 g2 ha e) r1.2 r2.1 r2.2 _ fun v H3 s r w => by
      cases r
      refine ⟨k1, rfl, ?_⟩
      have h3 := h2.same s
      have g3 := (g1.trans g2).trans (Go.same s)
      cases k1 with
      | false => exact iteF (q _ ρ2 π2 H3 h3 g3 ⟨.bl _, trivial⟩)
      | true =>
        refine iteT ?_
        refine hc ρ2 π2 K σ H3 h3 _ fun v3 ρ4 π4 H4 h4 g4 r4 => ?_
        refine ho2.run ((r2.1.mono (fun _ h => h) s).cut fun a o ha e => vis_keep h3 g4 ha e) r2.2 r4.1 r4.2 _ fun v H5 s5 r w => ?_
        cases r
        exact q _ ρ4 π4 H5 (h4.same s5) ((g3.trans g4).trans (Go.same s5)) ⟨.bl _, trivial⟩⟩
theorem et_chain' {op op2 : CmpOp} (ha : ED X Z E O a d1 R1 O1) (hb : ED X Z E O1 b d2 R2 O1) (hc : ED X Z E O1 c d3 R3 O1) (ho : OpF X (.cmp op) d1 d2 (.bool k1)) (ho2 : OpF X (.cmp op2) d2 d3 (.bool k2))
    (hm : lastMarks [op, op2] [b, c] = false) : ET X Z E O (.Compare a [op, op2] [b, c] pos) (k1 && k2) O1 := fun ρ π K σ H h Q q =>
  ⟨_, fun i => pt_chain (op_w _ i) (op_w _ i) (pe_w a i) (pe_w b i) (pe_w c i) hm, ha ρ π K σ H h _ fun v1 ρ1 π1 H1 h1 g1 r1 => hb ρ1 π1 K σ H1 h1 _ fun v2 ρ2 π2 H2 h2 g2 r2 =>
    ho.run (r1.1.cut fun a o ha e => vis_keep h1 g2 ha e) r1.2 r2.1 r2.2 _ fun v H3 s r w => by
      cases r
      refine ⟨k1, rfl, ?_⟩
      have h3 := h2.same s
      have g3 := (g1.trans g2).trans (Go.same s)
      cases k1 with
      | false => exact iteF ⟨_, rfl, q ρ2 π2 H3 h3 g3⟩
      | true =>
        refine iteT ?_
        refine hc ρ2 π2 K σ H3 h3 _ fun v3 ρ4 π4 H4 h4 g4 r4 => ?_
        refine ho2.run ((r2.1.mono (fun _ h => h) s).cut fun a o ha e => vis_keep h3 g4 ha e) r2.2 r4.1 r4.2 _ fun v H5 s5 r w => ?_
        cases r
        exact ⟨_, rfl, q ρ4 π4 H5 (h4.same s5) ((g3.trans g4).trans (Go.same s5))⟩⟩
theorem et_val' (ha : ED X Z E O e (.bool k) R O1) (he : ∀ i whole, isTrue e (X i).env whole = (do let v ← whole; standAt e.pos; holding [v] (truthy v))) : ET X Z E O e k O1 := fun ρ π K σ H h Q q =>
  ⟨_, fun i => pt_val (pe_w e i) (he i), ha ρ π K σ H h _ fun v ρ1 π1 H1 h1 g1 r => by cases r.1; exact ⟨k, rfl, q ρ1 π1 H1 h1 g1⟩⟩
theorem et_not' (ha : ET X Z E O a k O1) : ET X Z E O (.UnaryOp .Not a pos) (!k) O1 := fun ρ π K σ H h Q q => ⟨_, fun i => pt_not (pt_w a i), ha ρ π K σ H h _ q⟩
theorem ee_not (ha : ED X Z E O a (.bool k) R O1) : ED X Z E O (.UnaryOp .Not a pos) (.bool (!k)) [] O1 := fun ρ π K σ H h Q q =>
  ⟨_, fun i => pe_not (pe_w a i), ha ρ π K σ H h _ fun v ρ1 π1 H1 h1 g1 r => by cases r.1; exact ⟨k, rfl, q _ ρ1 π1 H1 h1 g1 ⟨.bl _, trivial⟩⟩⟩
theorem ee_neg {n : Int} (ha : ED X Z E O a (.int n) R O1) : ED X Z E O (.UnaryOp .USub a pos) (.int (-n)) [] O1 := fun ρ π K σ H h Q q =>
  ⟨_, fun i => pe_un un_neg (pe_w a i), ha ρ π K σ H h _ fun v ρ1 π1 H1 h1 g1 r => by cases r.1; exact ⟨n, rfl, q _ ρ1 π1 H1 h1 g1 ⟨.int _, trivial⟩⟩⟩
theorem et_w' (ha : EW X Z E O e k O1) : ET X Z E O e k O1 := fun ρ π K σ H h Q q => by
  obtain ⟨t, ht, r⟩ := ha ρ π K σ H h Q q
  exact ⟨t, fun i => (ht i).pt, r⟩
theorem ew_and1' (ha : ET X Z E O a k O1) : EW X Z E O (.BoolOp .And [a] pos) k O1 := fun ρ π K σ H h Q q => by
  obtain ⟨t, ht, r⟩ := ha ρ π K σ H h Q q
  exact ⟨t, fun i => pw_and1 (ht i), r⟩
theorem ew_or1' (ha : ET X Z E O a k O1) : EW X Z E O (.BoolOp .Or [a] pos) k O1 := fun ρ π K σ H h Q q => by
  obtain ⟨t, ht, r⟩ := ha ρ π K σ H h Q q
  exact ⟨t, fun i => pw_or1 (ht i), r⟩
theorem ew_and' (ha : ET X Z E O a k O1) (hb : k = true → EW X Z E O1 (.BoolOp .And (b :: es) pos) k2 O1) : EW X Z E O (.BoolOp .And (a :: b :: es) pos) (k && k2) O1 := fun ρ π K σ H h Q q =>
  ⟨_, fun i => pw_and (pt_w a i) (pw_w _ i), ha ρ π K σ H h _ fun ρ1 π1 H1 h1 g1 => by
    cases k with
    | false => exact iteF (q ρ1 π1 H1 h1 g1)
    | true => exact iteT (hb rfl ρ1 π1 K σ H1 h1 _ fun ρ2 π2 H2 h2 g2 => q ρ2 π2 H2 h2 (g1.trans g2))⟩
theorem ew_or' (ha : ET X Z E O a k O1) (hb : k = false → EW X Z E O1 (.BoolOp .Or (b :: es) pos) k2 O1) : EW X Z E O (.BoolOp .Or (a :: b :: es) pos) (k || k2) O1 := fun ρ π K σ H h Q q =>
  ⟨_, fun i => pw_or (pt_w a i) (pw_w _ i), ha ρ π K σ H h _ fun ρ1 π1 H1 h1 g1 => by
    cases k with
    | true => exact iteT (q ρ1 π1 H1 h1 g1)
    | false => exact iteF (hb rfl ρ1 π1 K σ H1 h1 _ fun ρ2 π2 H2 h2 g2 => q ρ2 π2 H2 h2 (g1.trans g2))⟩
theorem ee_one {op : BoolOp} (ha : EE X Z E O a P R O1) : EE X Z E O (.BoolOp op [a] pos) P R O1 := fun ρ π K σ H h Q q => by
  obtain ⟨t, ht, r⟩ := ha ρ π K σ H h Q q
  exact ⟨t, fun i => pe_one (ht i), r⟩
theorem ee_and (ha : ED X Z E O a (.bool k) R O1) (hb : k = true → ED X Z E O1 (.BoolOp .And (b :: es) pos) (.bool k2) R2 O1) : ED X Z E O (.BoolOp .And (a :: b :: es) pos) (.bool (k && k2)) [] O1 := fun ρ π K σ H h Q q =>
  ⟨_, fun i => pe_and (pe_w a i) (pe_w _ i), ha ρ π K σ H h _ fun v ρ1 π1 H1 h1 g1 r => by
    cases r.1
    refine ⟨k, rfl, ?_⟩
    cases k with
    | false => exact iteF (q _ ρ1 π1 H1 h1 g1 ⟨.bl _, trivial⟩)
    | true => exact iteT (hb rfl ρ1 π1 K σ H1 h1 _ fun v ρ2 π2 H2 h2 g2 r => by cases r.1; exact q _ ρ2 π2 H2 h2 (g1.trans g2) ⟨.bl _, trivial⟩)⟩
theorem ee_or (ha : ED X Z E O a (.bool k) R O1) (hb : k = false → ED X Z E O1 (.BoolOp .Or (b :: es) pos) (.bool k2) R2 O1) : ED X Z E O (.BoolOp .Or (a :: b :: es) pos) (.bool (k || k2)) [] O1 := fun ρ π K σ H h Q q =>
  ⟨_, fun i => pe_or (pe_w a i) (pe_w _ i), ha ρ π K σ H h _ fun v ρ1 π1 H1 h1 g1 r => by
    cases r.1
    refine ⟨k, rfl, ?_⟩
    cases k with
    | true => exact iteT (q _ ρ1 π1 H1 h1 g1 ⟨.bl _, trivial⟩)
    | false => exact iteF (hb rfl ρ1 π1 K σ H1 h1 _ fun v ρ2 π2 H2 h2 g2 r => by cases r.1; exact q _ ρ2 π2 H2 h2 (g1.trans g2) ⟨.bl _, trivial⟩)⟩
theorem ee_if (hc : ET X Z E O c k O1) (ha : k = true → EE X Z E O1 a P R O2) (hb : k = false → EE X Z E O1 b P R O2) : EE X Z E O (.IfExp c a b pos) P R O2 := fun ρ π K σ H h Q q =>
  ⟨_, fun i => pe_ifExp (pt_w c i) (pe_w a i) (pe_w b i), hc ρ π K σ H h _ fun ρ1 π1 H1 h1 g1 => by
    have fin : ∀ v ρ' π' H', Rel Z ρ' π' E O2 K σ H' → Go ρ1 π1 H1 ρ' π' H' → P.p v (vis ρ' π' R H1) H' → Q v H' := fun v ρ' π' H' h' g' r => q v ρ' π' H' h' (g1.trans g') (P.loc (fun a o ha e => ⟨e, vis_from g1 ha⟩) r)
    cases k with
    | true => exact iteT (ha rfl ρ1 π1 K σ H1 h1 _ fin)
    | false => exact iteF (hb rfl ρ1 π1 K σ H1 h1 _ fin)⟩
theorem ea_nil' : EA X Z E O [] [] [] O := fun ρ π K σ H h Q q => ⟨_, fun i => pa_nil, q _ ρ π H h (Go.refl _ _ _) .nil trivial⟩
theorem ea_cons' (ha : ED X Z E O e d R1 O1) (hb : EA X Z E O1 es ds R2 O2) (hs : ∀ i, starEach (e :: es) (X i).env = (false, eval e (X i).env) :: starEach es (X i).env) : EA X Z E O (e :: es) (d :: ds) (rOf d R1 ++ R2) O2 := fun ρ π K σ H h Q q =>
  ⟨_, fun i => pa_cons (pe_w e i) (pa_w es i) (hs i), ha ρ π K σ H h _ fun v ρ1 π1 H1 h1 g1 r1 => hb ρ1 π1 K σ H1 h1 _ fun vs ρ2 π2 H2 h2 g2 rs ws => by
    refine q _ ρ2 π2 H2 h2 (g1.trans g2) (.cons ?_ (rs.mono (fun a ha => vis_sub (fun r hr => List.mem_append_right _ hr) (vis_from g1 ha)) (Same.refl _))) ⟨r1.2, ws⟩
    unfold rOf
    split
    · next c => exact r1.1.flat c
    · exact r1.1.cut fun a o ha e => ⟨(vis_keep h1 g2 ha e).1, vis_sub (fun r hr => List.mem_append_left _ hr) (vis_keep h1 g2 ha e).2⟩⟩
theorem EA.sub (h : EA X Z E O es ds R O') (hs : ∀ r ∈ R, r ∈ R') : EA X Z E O es ds R' O' := fun ρ π K σ H hr Q q => h ρ π K σ H hr Q fun v ρ' π' H' h1 g r w => q v ρ' π' H' h1 g (r.mono (fun a ha => vis_sub hs ha) (Same.refl _)) w
theorem ee_list (ha : EA X Z E O es ds R O1) (hz : ds.length < sizeLine) : ED X Z E O (.List es pos) (.list ds) R O1 := fun ρ π K σ H h Q q =>
  ⟨_, fun i => pe_lst (pa_w es i), ha ρ π K σ H h _ fun vs ρ1 π1 H1 h1 g1 rs ws => ⟨by rw [rs.length]; omega, fun p hp =>
    have s : Same H1 (upd H1 p (.lst vs)) := same_new hp
    q _ ρ1 π1 _ (h1.same s) (g1.trans (Go.same s)) ⟨.lst (vis_new h1 g1 hp) upd_same (rs.mono (fun _ h => h) s), hz, ws⟩⟩⟩
theorem ee_tup {j : Nat} (ha : EA X Z E O es ds R O1) (hz : ds.length < sizeLine) : ED X Z E O (.Tuple es j pos) (.tuple ds) R O1 := fun ρ π K σ H h Q q =>
  ⟨_, fun i => pe_tup (pa_w es i), ha ρ π K σ H h _ fun vs ρ1 π1 H1 h1 g1 rs ws => ⟨by rw [rs.length]; omega, fun p hp =>
    have s : Same H1 (upd H1 p (.tup vs)) := same_new hp
    q _ ρ1 π1 _ (h1.same s) (g1.trans (Go.same s)) ⟨.tup (vis_new h1 g1 hp) upd_same (rs.mono (fun _ h => h) s), hz, ws⟩⟩⟩
end
section
variable {C : Ctx} {N : List Str} {sc : Scope} {fn : Str → Bool} {k : Nat} {J : Type} {X : J → Cx}
variable {Z : Hp} {E E' : List Cell} {O O1 O2 O3 O' : List Ob} {e a b c : Expr} {es : List Expr} {P : OP} {R R1 R2 R3 R' : List Nat} {d d1 d2 d3 : PyData} {ds : List PyData} {pos p p2 pos' : Pos}
theorem ee_name {x : Str} {j : Nat} (hx : SX C N sc fn k X) (nm : Nm N j x) (hv : Vis sc x) (hs : E[j]? = some (some (P, R))) : EE X Z E O (.Name x pos) P R O := fun ρ π K σ H h Q q => by
  obtain ⟨v, e1, r⟩ := h.cell j P R hs
  exact ⟨_, fun i => pe_var (by rw [hx.Nx i]; exact nm.at_) (by rw [hx.scx i]; exact hv) nm.d1 nm.d2, v, e1, q v ρ π H h (Go.refl _ _ _) (P.loc (fun a o ha e => ⟨e, .inl ha⟩) r)⟩
theorem ee_globS {x s : Str} {t : Tok} (hx : SX C N sc fn k X) (hg : Gb sc x) (hm : C.mg x = some (.str s t)) (hd : (x == ("__debug__" : Str)) = false) (hl : okLit s = true) : ED X Z E O (.Name x pos) (dS s.cps.toList) [] O := fun ρ π K σ H h Q q =>
  ⟨_, fun i => pe_glob (v := .str s) (gl_of hx hg i) (by rw [hx.mg i]; exact hm) ⟨_, rfl⟩ hd, q _ ρ π H h (Go.refl _ _ _) ⟨by
    show Fd _ H (.str s) (.str (tx s.cps.toList))
    rw [tx_tl]; exact .str s, okLit.wf hl⟩⟩
theorem ee_globI {x : Str} {n : Int} {t : Tok} (hx : SX C N sc fn k X) (hg : Gb sc x) (hm : C.mg x = some (.int n t)) (hd : (x == ("__debug__" : Str)) = false) : ED X Z E O (.Name x pos) (.int n) [] O := fun ρ π K σ H h Q q =>
  ⟨_, fun i => pe_glob (v := .int n) (gl_of hx hg i) (by rw [hx.mg i]; exact hm) ⟨_, rfl⟩ hd, q _ ρ π H h (Go.refl _ _ _) ⟨.int n, trivial⟩⟩
theorem atI_mem {α : Type} {l : List α} {i : Int} {x : α} (h : atI l i = some x) : x ∈ l := by
  obtain ⟨j, hj, hdj, _⟩ := atI_get h
  exact List.mem_of_getElem? hdj
theorem FdA.at_ {A : Addr → Prop} {H : Hp} {xs : List V} {i : Int} (q1 : FdA A H xs ds) (hd : atI ds i = some d) : ∃ v, atI xs i = some v ∧ Fd A H v d := by
  obtain ⟨j, hj, hdj, hlt, _, _⟩ := atI_get hd
  obtain ⟨v, hv, r⟩ := q1.get hdj
  refine ⟨v, ?_, r⟩
  unfold atI at hd ⊢
  rw [q1.length]
  cases hh : ixN ds.length i with
  | none => rw [hh] at hd; cases hd
  | some m =>
    have e := (ixN_seq hh).1
    rw [hj] at e
    cases e
    exact hv
theorem ee_ixL {i : Int} (hx : SX C N sc fn k X) (ha : ED X Z E O a (.list ds) R O1) (hb : ED X Z E O1 b (.int i) R2 O2) (hd : atI ds i = some d) (hs : PlainIx b) : ED X Z E O (.Subscript a b pos) d R O2 := fun ρ π K σ H h Q q =>
  ⟨_, fun n => pe_ix (r := rIxL C.K) (by rw [← hx.K n]; exact ix_list) (pe_w a n) (pe_w b n) hs, ha ρ π K σ H h _ fun v1 ρ1 π1 H1 h1 g1 r1 => hb ρ1 π1 K σ H1 h1 _ fun v2 ρ2 π2 H2 h2 g2 r2 => by
    cases r2.1
    have r1' := r1.1.cut fun a o ha e => vis_keep h1 g2 ha e
    have w1 := r1.2
    cases r1' with
    | @lst p xs _ _ e1 q1 =>
      obtain ⟨v, ha', r⟩ := q1.at_ hd
      exact ⟨p, xs, i, v, rfl, rfl, SqL.of e1, ha', q v ρ2 π2 H2 h2 (g1.trans g2) ⟨r, wfA_iff.mp w1.2 d (atI_mem hd)⟩⟩⟩
theorem ee_ixT {i : Int} (hx : SX C N sc fn k X) (ha : ED X Z E O a (.tuple ds) R O1) (hb : ED X Z E O1 b (.int i) R2 O2) (hd : atI ds i = some d) (hs : PlainIx b) : ED X Z E O (.Subscript a b pos) d R O2 := fun ρ π K σ H h Q q =>
  ⟨_, fun n => pe_ix (r := rIxT C.K) (by rw [← hx.K n]; exact ix_tup) (pe_w a n) (pe_w b n) hs, ha ρ π K σ H h _ fun v1 ρ1 π1 H1 h1 g1 r1 => hb ρ1 π1 K σ H1 h1 _ fun v2 ρ2 π2 H2 h2 g2 r2 => by
    cases r2.1
    have r1' := r1.1.cut fun a o ha e => vis_keep h1 g2 ha e
    have w1 := r1.2
    cases r1' with
    | @tup p xs _ _ e1 q1 =>
      obtain ⟨v, ha', r⟩ := q1.at_ hd
      exact ⟨p, xs, i, v, rfl, rfl, SqT.of e1, ha', q v ρ2 π2 H2 h2 (g1.trans g2) ⟨r, wfA_iff.mp w1.2 d (atI_mem hd)⟩⟩⟩
theorem ee_ixS {i : Int} {w : List Nat} {s : Nat} (ha : ED X Z E O a (dS w) R1 O1) (hb : ED X Z E O1 b (.int i) R2 O2) (hd : atI w i = some s) (hs : PlainIx b) : ED X Z E O (.Subscript a b pos) (dS [s]) [] O2 := fun ρ π K σ H h Q q =>
  ⟨_, fun n => pe_ix ix_str (pe_w a n) (pe_w b n) hs, ha ρ π K σ H h _ fun v1 ρ1 π1 H1 h1 g1 r1 => hb ρ1 π1 K σ H1 h1 _ fun v2 ρ2 π2 H2 h2 g2 r2 => by
    have w1 := r1.2.s
    cases r2.1
    cases r1.1
    exact ⟨_, i, s, rfl, rfl, by rw [tx_len]; exact w1.2, hd, q _ ρ2 π2 H2 h2 (g1.trans g2) ⟨.str _, wfD.mkS (fun c hc => by
      have : c = s := by simpa using hc
      subst this; exact w1.1 c (atI_mem hd)) (by rw [sizeLine_eq]; exact (by decide : 1 ≤ 16777216))⟩⟩⟩
/-- a slice's part -/
def EO (X : J → Cx) (Z : Hp) (E : List Cell) (O : List Ob) (e : Option Expr) (o : Option Int) (O' : List Ob) : Prop :=
  match e with
  | none => o = none ∧ O' = O
  | some e => ∃ i : Int, o = some i ∧ ED X Z E O e (.int i) [] O'
theorem eo_none' : EO X Z E O none none O := ⟨rfl, rfl⟩
theorem eo_some' {i : Int} (h : ED X Z E O e (.int i) R O1) : EO X Z E O (some e) (some i) O1 := ⟨i, rfl, h.flat rfl⟩
theorem EO.run {e : Option Expr} {o : Option Int} {ρ π : Cols} {K : Held} {σ : L2.St} {H : Hp} (h : EO X Z E O e o O') (hm : Rel Z ρ π E O K σ H) {Q : Option Int → Hp → Prop} (q : ∀ ρ' π' H', Rel Z ρ' π' E O' K σ H' → Go ρ π H ρ' π' H' → Q o H') : wPart X e σ H Q := by
  cases e with
  | none => obtain ⟨rfl, rfl⟩ := h; exact q ρ π H hm (Go.refl _ _ _)
  | some e =>
    obtain ⟨i, rfl, h⟩ := h
    exact h ρ π K σ H hm _ fun v ρ1 π1 H1 h1 g1 r => by cases r.1; exact ⟨i, rfl, q ρ1 π1 H1 h1 g1⟩
theorem ee_slS {lo hi : Option Expr} {l u : Option Int} {w : List Nat} (ha : ED X Z E O a (dS w) R1 O1) (hl : EO X Z E O1 lo l O2) (hu : EO X Z E O2 hi u O3) :
    ED X Z E O (.Subscript a (.Slice lo hi none pos') pos) (dS (cutL w l u)) [] O3 := fun ρ π K σ H h Q q =>
  ⟨_, fun n => pe_slice sl_str (pe_w a n) (po_w lo n) (po_w hi n), ha ρ π K σ H h _ fun v1 ρ1 π1 H1 h1 g1 r1 => hl.run h1 fun ρ2 π2 H2 h2 g2 => hu.run h2 fun ρ3 π3 H3 h3 g3 => by
    have w1 := r1.2.s
    cases r1.1
    exact ⟨_, rfl, by rw [tx_len]; exact w1.2, q _ ρ3 π3 H3 h3 ((g1.trans g2).trans g3) ⟨by rw [cutS_tx]; exact .str _, wfD.mkS (w1.1.cut _ _) (Nat.le_trans (cutL_le _ _ _) w1.2)⟩⟩⟩
theorem ee_slL {lo hi : Option Expr} {l u : Option Int} (hx : SX C N sc fn k X) (ha : ED X Z E O a (.list ds) R O1) (hl : EO X Z E O1 lo l O2) (hu : EO X Z E O2 hi u O3) :
    ED X Z E O (.Subscript a (.Slice lo hi none pos') pos) (.list (cutL ds l u)) R O3 := fun ρ π K σ H h Q q =>
  ⟨_, fun n => pe_slice (r := rSlL C.K) (by rw [← hx.K n]; exact sl_list) (pe_w a n) (po_w lo n) (po_w hi n), ha ρ π K σ H h _ fun v1 ρ1 π1 H1 h1 g1 r1 => hl.run h1 fun ρ2 π2 H2 h2 g2 => hu.run h2 fun ρ3 π3 H3 h3 g3 => by
    have r1' := r1.1.cut fun a o ha e => vis_keep h1 (g2.trans g3) ha e
    have w1 := r1.2
    have g := (g1.trans g2).trans g3
    cases r1' with
    | @lst p xs _ _ e1 q1 =>
      refine ⟨p, xs, rfl, SqL.of e1, fun z hz => ?_⟩
      have s : Same H3 (upd H3 z (.lst (cutV xs l u))) := same_new hz
      exact q _ ρ3 π3 _ (h3.same s) (g.trans (Go.same s)) ⟨.lst (vis_new h3 g hz) upd_same ((q1.cut' l u).mono (fun _ h => h) s), Nat.lt_of_le_of_lt (cutL_le _ _ _) w1.1, w1.2.sub fun _ hd => cutL_mem hd⟩⟩
theorem ee_slLF {lo hi : Option Expr} {l u : Option Int} (hx : SX C N sc fn k X) (ha : ED X Z E O a (.list ds) R O1) (hl : EO X Z E O1 lo l O2) (hu : EO X Z E O2 hi u O3) (hf : ds.all flatD = true) :
    ED X Z E O (.Subscript a (.Slice lo hi none pos') pos) (.list (cutL ds l u)) [] O3 := fun ρ π K σ H h Q q =>
  ⟨_, fun n => pe_slice (r := rSlL C.K) (by rw [← hx.K n]; exact sl_list) (pe_w a n) (po_w lo n) (po_w hi n), ha ρ π K σ H h _ fun v1 ρ1 π1 H1 h1 g1 r1 => hl.run h1 fun ρ2 π2 H2 h2 g2 => hu.run h2 fun ρ3 π3 H3 h3 g3 => by
    have r1' := r1.1.cut fun a o ha e => vis_keep h1 (g2.trans g3) ha e
    have w1 := r1.2
    have g := (g1.trans g2).trans g3
    cases r1' with
    | @lst p xs _ _ e1 q1 =>
      refine ⟨p, xs, rfl, SqL.of e1, fun z hz => ?_⟩
      have s : Same H3 (upd H3 z (.lst (cutV xs l u))) := same_new hz
      exact q _ ρ3 π3 _ (h3.same s) (g.trans (Go.same s)) ⟨.lst (vis_new h3 g hz) upd_same ((q1.cut' l u).flat (List.all_eq_true.mpr fun d hd => List.all_eq_true.mp hf d (cutL_mem hd))), Nat.lt_of_le_of_lt (cutL_le _ _ _) w1.1, w1.2.sub fun _ hd => cutL_mem hd⟩⟩
/-! ### calls -/
/-- a promise of data of data; what comes is new through and through -/
def spW (A : List PyData → PyData → Prop) : Sp := fun vs H Q _ => ∃ ds d, FdA Any H vs ds ∧ wfA ds ∧ A ds d ∧ ∀ v H', Same H H' → Fd (fun a => H a = none) H' v d → wfD d → Q v H'
theorem Ok.imp {kk : Nat} {x : Str} {ps : List Str} {sp sp' : Sp} (ok : Ok C kk x ps sp) (h : ∀ vs H Q E, sp' vs H Q E → sp vs H Q E) : Ok C kk x ps sp' := by
  obtain ⟨f, fd, hm, hk, hb, G⟩ := ok.ex
  exact ⟨f, fd, hm, hk, hb, G.imp h⟩
/-- an old promise as a new one -/
theorem Ok.toW {kk : Nat} {x : Str} {ps : List Str} {A B : List PyData → PyData → Prop} (ok : Ok C kk x ps (spP A)) (h : ∀ ds d, wfA ds → B ds d → A ds d ∧ wfD d) : Ok C kk x ps (spW B) :=
  ok.imp fun vs H Q E ⟨ds, d, hd, hw, hb, q⟩ => ⟨ds, d, hd, (h ds d hw hb).1, fun v H' s r => q v H' s r (h ds d hw hb).2⟩
theorem ee_call {x : Str} {ps : List Str} {A : List PyData → PyData → Prop} {kk : Nat} (hx : SX C N sc fn k X) (ok : Ok C kk x ps (spW A)) (hk : kk ≤ k) (hg : Gb sc x) (ha : EA X Z E O (e :: es) ds R O1) (hA : wfA ds → A ds d)
    (hdb : (x == ("__debug__" : Str)) = false) (he : ∀ i, starEach (e :: es) (X i).env = (false, eval e (X i).env) :: starEach es (X i).env) (hpl : ∀ i, (backTo pos (starEach es (X i).env)).any (·.1) = false) :
    ED X Z E O (.Call (.Name x p) (e :: es) [] pos) d [] O1 := fun ρ π K σ H h Q q => by
  obtain ⟨g, fd, hm, hkp, hb, G⟩ := ok.ex
  refine ⟨_, fun i => pe_call (E := E0) (dvs := []) (ds := []) (f := g) (fd := fd) (ps := ps) (sp := spW A) (k := kk) (CX := CX0) ?_ ((hx.room i).mono hk) (gl_of hx hg i) ?_ ?_ ?_ .nil pass0 (pa_w (e :: es) i) hdb (he i) (hpl i), ha ρ π K σ H h _ fun vs ρ1 π1 H1 h1 g1 rs ws => ?_⟩
  · rw [hx.P i, hx.w i, hx.K i, hx.mg i, hx.base i]; exact G
  · rw [hx.mg i]; exact hm
  · rw [hx.K i]; exact hkp
  · rw [hx.K i]; exact hb
  · show spW A (vs ++ []) H1 Q E0
    rw [List.append_nil]
    refine ⟨ds, d, rs.mono (fun _ _ => trivial) (Same.refl _), ws, hA ws, fun v H2 s r w => ?_⟩
    obtain ⟨x, y, z⟩ := newly h1 g1 s r
    exact q v ρ1 π1 H2 x y ⟨z, w⟩
theorem CbF.run {f : Value} (hc : CbF X f ds d) (ws : wfA ds) : ∃ r, (∀ i, CallR (X i) f r) ∧ ∀ vs H (B : Addr → Prop), FdA B H vs ds → ∀ Q : VK, (∀ v H', Same H H' → Fd (fun a => H a = none) H' v d → wfD d → Q v H') → r vs H Q := by
  obtain ⟨wd, hh⟩ := hc ws
  obtain ⟨r, hr, _⟩ := hh Any Any (fun _ h => h)
  refine ⟨fun vs H Q => ∃ r' : List V → Hp → VK → Prop, (∀ i, CallR (X i) f r') ∧ r' vs H Q, fun i pins s σ H vs us Q I rv hq => ?_, fun vs H B rs Q q => ?_⟩
  · obtain ⟨r', h', hq⟩ := hq
    exact h' i pins s σ H vs us Q I rv hq
  · obtain ⟨r', h', hq⟩ := hh (fun a => H a = none) (fun a => H a = none) (fun _ h => h)
    exact ⟨r', h', hq H H vs (Rel.hm H) (rs.mono (fun _ _ => trivial) (Same.refl _)) Q fun v F' H' hm s g r => q v H' (s.trans hm.fa) (r.mono (fun _ h => h) hm.fa) wd⟩
end
end G

namespace G
open PySem PySem.Spec PyProof.Rows L2
section
variable {C : Ctx} {N : List Str} {sc : Scope} {fn : Str → Bool} {k : Nat} {J : Type} {X : J → Cx}
variable {Z : Hp} {E E' : List Cell} {O O1 O2 O3 O' : List Ob} {e a b c : Expr} {es : List Expr} {P : OP} {R R1 R2 R3 R' : List Nat} {d d1 d2 d3 : PyData} {ds : List PyData} {pos p p2 pos' : Pos}
theorem ee_cb {id : String} (hx : SX C N sc fn k X) (hm : C.mg (Str.ofString id) = none) (hg : Gb sc (Str.ofString id)) (hv : bootBuiltins (Str.ofString id) = some (.builtin id)) (ha : EA X Z E O (e :: es) ds R O1) (hc : CbF X (.builtin id) ds d)
    (hn : Str.ofString id ≠ "__name__") (hdb : (Str.ofString id == ("__debug__" : Str)) = false) (he : ∀ i, starEach (e :: es) (X i).env = (false, eval e (X i).env) :: starEach es (X i).env) (hpl : ∀ i, (backTo pos (starEach es (X i).env)).any (·.1) = false) :
    ED X Z E O (.Call (.Name (Str.ofString id) p) (e :: es) [] pos) d [] O1 := fun ρ π K σ H h Q q =>
  ⟨tCB (fun vs H Q => ∃ r : List V → Hp → VK → Prop, (∀ i, CallR (X i) (.builtin id) r) ∧ r vs H Q) (wA X (e :: es)), fun i => pe_callB (fun pins s σ H vs us Q I rv ⟨r, hr, hq⟩ => hr i pins s σ H vs us Q I rv hq) (gl_of hx hg i) (by rw [hx.mg i]; exact hm) hv (pa_w (e :: es) i) hn hdb (he i) (hpl i),
    ha ρ π K σ H h _ fun vs ρ1 π1 H1 h1 g1 rs ws => by
      obtain ⟨wd, hh⟩ := hc ws
      obtain ⟨r, hr, hq⟩ := hh (fun a => H1 a = none) (fun a => H1 a = none) (fun _ h => h)
      refine ⟨r, hr, hq H1 H1 vs (Rel.hm H1) (rs.mono (fun _ _ => trivial) (Same.refl _)) Q fun v F' H2 hm s g r => ?_⟩
      obtain ⟨x, y, z⟩ := newly h1 g1 (s.trans hm.fa) (r.mono (fun _ h => h) hm.fa)
      exact q v ρ1 π1 H2 x y ⟨z, wd⟩⟩
theorem ee_ct {id : String} (hx : SX C N sc fn k X) (hm : C.mg (Str.ofString id) = none) (hg : Gb sc (Str.ofString id)) (hv : bootBuiltins (Str.ofString id) = some (.type id)) (ha : EA X Z E O (e :: es) ds R O1) (hc : CbF X (.type id) ds d)
    (hn : Str.ofString id ≠ "__name__") (hdb : (Str.ofString id == ("__debug__" : Str)) = false) (he : ∀ i, starEach (e :: es) (X i).env = (false, eval e (X i).env) :: starEach es (X i).env) (hpl : ∀ i, (backTo pos (starEach es (X i).env)).any (·.1) = false) :
    ED X Z E O (.Call (.Name (Str.ofString id) p) (e :: es) [] pos) d [] O1 := fun ρ π K σ H h Q q =>
  ⟨tCB (fun vs H Q => ∃ r : List V → Hp → VK → Prop, (∀ i, CallR (X i) (.type id) r) ∧ r vs H Q) (wA X (e :: es)), fun i => pe_callTy (fun pins s σ H vs us Q I rv ⟨r, hr, hq⟩ => hr i pins s σ H vs us Q I rv hq) (gl_of hx hg i) (by rw [hx.mg i]; exact hm) hv (pa_w (e :: es) i) hn hdb (he i) (hpl i),
    ha ρ π K σ H h _ fun vs ρ1 π1 H1 h1 g1 rs ws => by
      obtain ⟨wd, hh⟩ := hc ws
      obtain ⟨r, hr, hq⟩ := hh (fun a => H1 a = none) (fun a => H1 a = none) (fun _ h => h)
      refine ⟨r, hr, hq H1 H1 vs (Rel.hm H1) (rs.mono (fun _ _ => trivial) (Same.refl _)) Q fun v F' H2 hm s g r => ?_⟩
      obtain ⟨x, y, z⟩ := newly h1 g1 (s.trans hm.fa) (r.mono (fun _ h => h) hm.fa)
      exact q v ρ1 π1 H2 x y ⟨z, wd⟩⟩
/-! values of built-ins -/
section
variable {α : Type} {l l2 : List α} {g : α → PyData} {i j : Int} {u w : List Nat} {q : Bool}
theorem cf_lenS : CbF X (.builtin "len") [dS w] (.int w.length) := fun h => ⟨trivial, fun S T _ => cb_lenS h.1.s.2⟩
theorem cf_lenM (hx : SX C N sc fn k X) : CbF X (.builtin "len") [.list (l.map g)] (.int l.length) := fun _ => ⟨trivial, fun S T _ => cb_lenM hx⟩
theorem cf_lenMT (hx : SX C N sc fn k X) : CbF X (.builtin "len") [.tuple (l.map g)] (.int l.length) := fun _ => ⟨trivial, fun S T _ => cb_lenMT hx⟩
theorem cf_lenL (hx : SX C N sc fn k X) : CbF X (.builtin "len") [.list ds] (.int ds.length) := fun _ => ⟨trivial, fun S T _ => cb_lenL hx⟩
theorem cf_lenT (hx : SX C N sc fn k X) : CbF X (.builtin "len") [.tuple ds] (.int ds.length) := fun _ => ⟨trivial, fun S T _ => cb_lenT hx⟩
theorem cf_min2 (hx : SX C N sc fn k X) : CbF X (.builtin "min") [.int i, .int j] (.int (min i j)) := fun _ => ⟨trivial, fun S T _ => cb_min2 hx⟩
theorem cf_max2 (hx : SX C N sc fn k X) : CbF X (.builtin "max") [.int i, .int j] (.int (max i j)) := fun _ => ⟨trivial, fun S T _ => cb_max2 hx⟩
theorem cf_sum (hx : SX C N sc fn k X) {ns : List Int} : CbF X (.builtin "sum") [.list (ns.map .int)] (.int ns.sum) := fun _ => ⟨trivial, fun S T _ => cb_sum hx⟩
theorem cf_all (hx : SX C N sc fn k X) {bs : List Bool} : CbF X (.builtin "all") [.list (bs.map .bool)] (.bool (bs.all id)) := fun _ => ⟨trivial, fun S T _ => cb_all hx⟩
theorem cf_int {n : Int} : CbF X (.type "int") [.int n] (.int n) := fun _ => ⟨trivial, fun S T _ => cb_int⟩
theorem cf_intB : CbF X (.type "int") [.bool q] (.int (if q then 1 else 0)) := fun _ => ⟨trivial, fun S T _ => cb_intB⟩
theorem cf_listF (hx : SX C N sc fn k X) (hf : ds.all flatD = true) : CbF X (.type "list") [.list ds] (.list ds) := fun h => ⟨h.1, fun S T hT => cb_listF hx hf hT⟩
theorem cf_listT (hx : SX C N sc fn k X) (hf : ds.all flatD = true) : CbF X (.type "list") [.tuple ds] (.list ds) := fun h => ⟨h.1, fun S T hT => cb_listT hx hf hT⟩
theorem cf_tupleF (hx : SX C N sc fn k X) (hf : ds.all flatD = true) : CbF X (.type "tuple") [.list ds] (.tuple ds) := fun h => ⟨h.1, fun S T hT => cb_tupleF hx hf hT⟩
theorem cf_sorted {ns ms : List Int} (hx : SX C N sc fn k X) (hp : ms.Perm ns) (hs : ms.Pairwise (· ≤ ·)) : CbF X (.builtin "sorted") [.list (ns.map .int)] (.list (ms.map .int)) := fun h => ⟨⟨by rw [List.length_map, hp.length_eq]; have := h.1.1; rwa [List.length_map] at this, wfA_iff.mpr fun d hd => by
  obtain ⟨i, _, rfl⟩ := List.mem_map.mp hd; trivial⟩, fun S T hT => cb_sorted hx hp hs hT⟩
/-! values of operators -/
theorem of_add : OpF X (.bin .Add) (.int i) (.int j) (.int (i + j)) := fun _ _ => ⟨trivial, fun _ _ _ => od_add⟩
theorem of_sub : OpF X (.bin .Sub) (.int i) (.int j) (.int (i - j)) := fun _ _ => ⟨trivial, fun _ _ _ => od_sub⟩
theorem of_mul (h : CMul i j) : OpF X (.bin .Mult) (.int i) (.int j) (.int (i * j)) := fun _ _ => ⟨trivial, fun _ _ _ => od_mul h⟩
theorem of_pow (h : CPow i j) : OpF X (.bin .Pow) (.int i) (.int j) (.int (i ^ j.toNat)) := fun _ _ => ⟨trivial, fun _ _ _ => od_pow h⟩
theorem of_fdiv (h : CDiv i j) : OpF X (.bin .FloorDiv) (.int i) (.int j) (.int (i / j)) := fun _ _ => ⟨trivial, fun _ _ _ => od_fdiv h⟩
theorem of_mod (h : 0 < j) : OpF X (.bin .Mod) (.int i) (.int j) (.int (i % j)) := fun _ _ => ⟨trivial, fun _ _ _ => od_mod h⟩
theorem of_lt : OpF X (.cmp .Lt) (.int i) (.int j) (.bool (decide (i < j))) := fun _ _ => ⟨trivial, fun _ _ _ => od_lt⟩
theorem of_le : OpF X (.cmp .LtE) (.int i) (.int j) (.bool (decide (i ≤ j))) := fun _ _ => ⟨trivial, fun _ _ _ => od_le⟩
theorem of_gt : OpF X (.cmp .Gt) (.int i) (.int j) (.bool (decide (j < i))) := fun _ _ => ⟨trivial, fun _ _ _ => od_gt⟩
theorem of_ge : OpF X (.cmp .GtE) (.int i) (.int j) (.bool (decide (j ≤ i))) := fun _ _ => ⟨trivial, fun _ _ _ => od_ge⟩
theorem of_adds (hz : u.length + w.length ≤ sizeLine) : OpF X (.bin .Add) (dS u) (dS w) (dS (u ++ w)) := fun h1 h2 => ⟨wfD.mkS (h1.s.1.app h2.s.1) (by rw [List.length_append]; exact hz), fun _ _ _ => od_adds hz⟩
theorem of_catMF (hz : l.length + l2.length < sizeLine) (hg : ∀ a, flatD (g a) = true) : OpF X (.bin .Add) (.list (l.map g)) (.list (l2.map g)) (.list ((l ++ l2).map g)) := fun h1 h2 =>
  ⟨⟨by rw [List.length_map, List.length_append]; exact hz, by rw [List.map_append]; exact h1.2.app h2.2⟩, fun _ _ hT => od_catMF (Nat.le_of_lt hz) hg hT⟩
theorem of_catF {es1 es2 : List PyData} (hz : es1.length + es2.length < sizeLine) (hf : (es1 ++ es2).all flatD = true) : OpF X (.bin .Add) (.list es1) (.list es2) (.list (es1 ++ es2)) := fun h1 h2 =>
  ⟨⟨by rw [List.length_append]; exact hz, h1.2.app h2.2⟩, fun _ _ hT => od_catF (Nat.le_of_lt hz) hf hT⟩
theorem of_rep {n : Int} {es1 : List PyData} (h1 : -(2 ^ 63) ≤ n) (h2 : n < 2 ^ 63) (hz : es1.length * n.toNat < sizeLine) (hf : es1.all flatD = true) : OpF X (.bin .Mult) (.list es1) (.int n) (.list (List.replicate n.toNat es1).flatten) := fun w1 w2 =>
  ⟨⟨by rw [List.length_flatten, List.map_replicate, List.sum_replicate_nat, Nat.mul_comm]; exact hz, wfA_iff.mpr fun d hd => by
    obtain ⟨l, hl, hdl⟩ := List.mem_flatten.mp hd
    rw [(List.mem_replicate.mp hl).2] at hdl
    exact wfA_iff.mp w1.2 d hdl⟩, fun _ _ hT => od_rep h1 h2 (Nat.le_of_lt hz) hf hT⟩
/-- data of a small depth -/
theorem of_eq (hx : SX C N sc fn k X) (h1 : PyData.depth d1 ≤ 64) (h2 : PyData.depth d2 ≤ 64) : OpF X (.cmp .Eq) d1 d2 (.bool (PyData.eqv d1 d2)) := fun w1 w2 => ⟨trivial, fun _ _ _ => od_eq hx (w1.shaped h1) (w2.shaped h2)⟩
theorem of_ne (hx : SX C N sc fn k X) (h1 : PyData.depth d1 ≤ 64) (h2 : PyData.depth d2 ≤ 64) : OpF X (.cmp .NotEq) d1 d2 (.bool (!PyData.eqv d1 d2)) := fun w1 w2 => ⟨trivial, fun _ _ _ => od_ne hx (w1.shaped h1) (w2.shaped h2)⟩
theorem OpF.to {f : OpK} (h : OpF X f d1 d2 d) (e : d = d3) : OpF X f d1 d2 d3 := e ▸ h
theorem of_eqI (hx : SX C N sc fn k X) : OpF X (.cmp .Eq) (.int i) (.int j) (.bool (decide (i = j))) := fun _ _ => ⟨trivial, fun _ _ _ => od_eqI hx⟩
theorem of_neI (hx : SX C N sc fn k X) : OpF X (.cmp .NotEq) (.int i) (.int j) (.bool (!decide (i = j))) := fun _ _ => ⟨trivial, fun _ _ _ => od_neI hx⟩
theorem of_eqS (hx : SX C N sc fn k X) : OpF X (.cmp .Eq) (dS u) (dS w) (.bool (u == w)) := fun h1 h2 => ⟨trivial, fun _ _ _ => od_eqS hx h1.s.1 h2.s.1⟩
theorem of_neS (hx : SX C N sc fn k X) : OpF X (.cmp .NotEq) (dS u) (dS w) (.bool (!(u == w))) := fun h1 h2 => ⟨trivial, fun _ _ _ => od_neS hx h1.s.1 h2.s.1⟩
theorem dep_flat {l : List PyData} (h : l.all flatD = true) : PyData.depthAll l ≤ 0 := depAll fun d hd => by
  have := List.all_eq_true.mp h d hd
  cases d <;> first | exact Nat.le_refl _ | exact nomatch this
theorem depL {l : List PyData} {n : Nat} (h : ∀ d ∈ l, PyData.depth d ≤ n) : PyData.depth (.list l) ≤ n + 1 := Nat.succ_le_succ (depAll h)
theorem depT {l : List PyData} {n : Nat} (h : ∀ d ∈ l, PyData.depth d ≤ n) : PyData.depth (.tuple l) ≤ n + 1 := Nat.succ_le_succ (depAll h)
theorem depF {d : PyData} (h : flatD d = true) : PyData.depth d ≤ 0 := by cases d <;> first | exact Nat.le_refl _ | exact nomatch h
theorem depLM {l : List α} {n : Nat} (h : ∀ a, PyData.depth (g a) ≤ n) : PyData.depth (.list (l.map g)) ≤ n + 1 := depL fun d hd => by obtain ⟨a, _, rfl⟩ := List.mem_map.mp hd; exact h a
theorem of_eqN (hx : SX C N sc fn k X) (h : PyData.depth (.list ds) ≤ 64) : OpF X (.cmp .Eq) (.list ds) (.list []) (.bool ds.isEmpty) := (of_eq hx h (by decide)).to (by rw [eqv_nil])
theorem of_neN (hx : SX C N sc fn k X) (h : PyData.depth (.list ds) ≤ 64) : OpF X (.cmp .NotEq) (.list ds) (.list []) (.bool (!ds.isEmpty)) := (of_ne hx h (by decide)).to (by rw [eqv_nil])
theorem of_eqNM (hx : SX C N sc fn k X) (hg : ∀ a, flatD (g a) = true) : OpF X (.cmp .Eq) (.list (l.map g)) (.list []) (.bool l.isEmpty) := (of_eqN hx (Nat.le_trans (depLM fun a => depF (hg a)) (by decide))).to (by rw [List.isEmpty_map])
theorem of_neNM (hx : SX C N sc fn k X) (hg : ∀ a, flatD (g a) = true) : OpF X (.cmp .NotEq) (.list (l.map g)) (.list []) (.bool (!l.isEmpty)) := (of_neN hx (Nat.le_trans (depLM fun a => depF (hg a)) (by decide))).to (by rw [List.isEmpty_map])
theorem of_eqLI (hx : SX C N sc fn k X) {u w : List Int} : OpF X (.cmp .Eq) (.list (u.map .int)) (.list (w.map .int)) (.bool (u == w)) := fun _ _ => ⟨trivial, fun _ _ _ => od_eqLI hx⟩
theorem of_neLI (hx : SX C N sc fn k X) {u w : List Int} : OpF X (.cmp .NotEq) (.list (u.map .int)) (.list (w.map .int)) (.bool (!(u == w))) := fun _ _ => ⟨trivial, fun _ _ _ => od_neLI hx⟩
theorem of_eqLS (hx : SX C N sc fn k X) {u w : List (List Nat)} : OpF X (.cmp .Eq) (.list (u.map dS)) (.list (w.map dS)) (.bool (u == w)) := (of_eq hx (Nat.le_trans (depLM fun a => depF rfl) (by decide)) (Nat.le_trans (depLM fun a => depF rfl) (by decide))).to (by show PyData.bool (PyData.eqvAll _ _) = _; rw [eqvAll_map eqv_S])
theorem of_neLS (hx : SX C N sc fn k X) {u w : List (List Nat)} : OpF X (.cmp .NotEq) (.list (u.map dS)) (.list (w.map dS)) (.bool (!(u == w))) := (of_ne hx (Nat.le_trans (depLM fun a => depF rfl) (by decide)) (Nat.le_trans (depLM fun a => depF rfl) (by decide))).to (by show PyData.bool (!PyData.eqvAll _ _) = _; rw [eqvAll_map eqv_S])
theorem of_is {c : Bool} (hc : (match d1 with | .none => true | _ => false) = c) : OpF X (.cmp .Is) d1 .none (.bool c) := fun _ _ => ⟨trivial, fun _ _ _ => od_is hc⟩
theorem of_isnot {c : Bool} (hc : (match d1 with | .none => true | _ => false) = c) : OpF X (.cmp .IsNot) d1 .none (.bool (!c)) := fun _ _ => ⟨trivial, fun _ _ _ => od_isnot hc⟩
theorem of_isB {x y : Bool} : OpF X (.cmp .Is) (.bool x) (.bool y) (.bool (decide (x = y))) := fun _ _ => ⟨trivial, fun _ _ _ => od_isB⟩
theorem of_isnotB {x y : Bool} : OpF X (.cmp .IsNot) (.bool x) (.bool y) (.bool (!decide (x = y))) := fun _ _ => ⟨trivial, fun _ _ _ => od_isnotB⟩
theorem of_inLS (hx : SX C N sc fn k X) {l : List (List Nat)} : OpF X (.cmp .In) (dS w) (.list (l.map dS)) (.bool (l.contains w)) := fun _ _ => ⟨trivial, fun _ _ _ => od_inLS hx⟩
theorem of_notinLS (hx : SX C N sc fn k X) {l : List (List Nat)} : OpF X (.cmp .NotIn) (dS w) (.list (l.map dS)) (.bool (!l.contains w)) := fun _ _ => ⟨trivial, fun _ _ _ => od_notinLS hx⟩
theorem of_inLI (hx : SX C N sc fn k X) {l : List Int} : OpF X (.cmp .In) (.int i) (.list (l.map .int)) (.bool (l.contains i)) := fun _ _ => ⟨trivial, fun _ _ _ => od_inLI hx⟩
theorem of_notinLI (hx : SX C N sc fn k X) {l : List Int} : OpF X (.cmp .NotIn) (.int i) (.list (l.map .int)) (.bool (!l.contains i)) := fun _ _ => ⟨trivial, fun _ _ _ => od_notinLI hx⟩
theorem of_inTI (hx : SX C N sc fn k X) {l : List Int} : OpF X (.cmp .In) (.int i) (.tuple (l.map .int)) (.bool (l.contains i)) := fun _ _ => ⟨trivial, fun _ _ _ => od_inTI hx⟩
theorem of_notinTI (hx : SX C N sc fn k X) {l : List Int} : OpF X (.cmp .NotIn) (.int i) (.tuple (l.map .int)) (.bool (!l.contains i)) := fun _ _ => ⟨trivial, fun _ _ _ => od_notinTI hx⟩
theorem of_inS : OpF X (.cmp .In) (dS u) (dS w) (.bool (inS u w)) := fun _ _ => ⟨trivial, fun _ _ _ => od_inS⟩
theorem of_notinS : OpF X (.cmp .NotIn) (dS u) (dS w) (.bool (!inS u w)) := fun _ _ => ⟨trivial, fun _ _ _ => od_notinS⟩
theorem of_in1 {s : Nat} : OpF X (.cmp .In) (dS [s]) (dS w) (.bool (w.contains s)) := fun _ _ => ⟨trivial, fun _ _ _ => od_in1⟩
theorem of_notin1 {s : Nat} : OpF X (.cmp .NotIn) (dS [s]) (dS w) (.bool (!w.contains s)) := fun _ _ => ⟨trivial, fun _ _ _ => od_notin1⟩
theorem of_ltS : OpF X (.cmp .Lt) (dS u) (dS w) (.bool (decide (u < w))) := fun _ _ => ⟨trivial, fun _ _ _ => od_ltS⟩
theorem of_gtS : OpF X (.cmp .Gt) (dS u) (dS w) (.bool (decide (w < u))) := fun _ _ => ⟨trivial, fun _ _ _ => od_gtS⟩
end
/-! lists put together, of any data -/
theorem ee_cat {es1 es2 : List PyData} (ha : ED X Z E O a (.list es1) R1 O1) (hb : ED X Z E O1 b (.list es2) R2 O2) (hz : es1.length + es2.length < sizeLine) : ED X Z E O (.BinOp a .Add b pos) (.list (es1 ++ es2)) (R1 ++ R2) O2 := fun ρ π K σ H h Q q =>
  ⟨_, fun i => pe_op op_cat (pe_w a i) (pe_w b i), ha ρ π K σ H h _ fun v1 ρ1 π1 H1 h1 g1 r1 => hb ρ1 π1 K σ H1 h1 _ fun v2 ρ2 π2 H2 h2 g2 r2 => by
    have r1' := r1.1.cut fun a o ha e => vis_keep h1 g2 ha e
    have w1 := r1.2
    have w2 := r2.2
    have g := g1.trans g2
    have r2' := r2.1
    cases r1' with
    | @lst _ xs _ _ e1 q1 =>
      cases r2' with
      | @lst _ ys _ _ e2 q2 =>
        refine ⟨_, _, _, _, rfl, rfl, e1, e2, by rw [q1.length, q2.length]; omega, fun p hp => ?_⟩
        have s : Same H2 (upd H2 p (.lst (xs ++ ys))) := same_new hp
        exact q _ ρ2 π2 _ (h2.same s) (g.trans (Go.same s)) ⟨.lst (vis_new h2 g hp) upd_same ((q1.mono (fun a ha => vis_sub (fun r hr => List.mem_append_left _ hr) ha) s).app (q2.mono (fun a ha => vis_sub (fun r hr => List.mem_append_right _ hr) (vis_from g1 ha)) s)), by rw [List.length_append]; exact hz, w1.2.app w2.2⟩⟩
theorem ee_catT {es1 es2 : List PyData} (hx : SX C N sc fn k X) (ha : ED X Z E O a (.tuple es1) R1 O1) (hb : ED X Z E O1 b (.tuple es2) R2 O2) (hz : es1.length + es2.length < sizeLine) : ED X Z E O (.BinOp a .Add b pos) (.tuple (es1 ++ es2)) (R1 ++ R2) O2 := fun ρ π K σ H h Q q =>
  ⟨tOp (rCatA C.K) (wE X a) (wE X b), fun i => pe_op (by rw [← hx.K i]; exact op_catA) (pe_w a i) (pe_w b i), ha ρ π K σ H h _ fun v1 ρ1 π1 H1 h1 g1 r1 => hb ρ1 π1 K σ H1 h1 _ fun v2 ρ2 π2 H2 h2 g2 r2 => by
    have r1' := r1.1.cut fun a o ha e => vis_keep h1 g2 ha e
    have w1 := r1.2
    have w2 := r2.2
    have g := g1.trans g2
    have r2' := r2.1
    have w : wfD (.tuple (es1 ++ es2)) := ⟨by rw [List.length_append]; exact hz, w1.2.app w2.2⟩
    cases r1' with
    | @tup a1 xs _ v1 e1 q1 =>
      cases r2' with
      | @tup a2 ys _ v2 e2 q2 =>
        refine ⟨_, _, _, _, rfl, rfl, SqT.of e1, SqT.of e2, by rw [q1.length, q2.length]; omega, ?_, ?_, ?_⟩
        · intro z
          subst z
          cases q1
          exact q _ ρ2 π2 H2 h2 g ⟨.tup (vis_sub (fun r hr => List.mem_append_right _ hr) (vis_from g1 v2)) e2 (q2.mono (fun a ha => vis_sub (fun r hr => List.mem_append_right _ hr) (vis_from g1 ha)) (Same.refl _)), w⟩
        · intro _ z
          subst z
          cases q2
          rw [List.append_nil] at q w
          exact q _ ρ2 π2 H2 h2 g ⟨.tup (vis_sub (fun r hr => List.mem_append_left _ hr) v1) e1 (q1.mono (fun a ha => vis_sub (fun r hr => List.mem_append_left _ hr) ha) (Same.refl _)), w⟩
        · intro _ _ p hp
          have s : Same H2 (upd H2 p (.tup (xs ++ ys))) := same_new hp
          exact q _ ρ2 π2 _ (h2.same s) (g.trans (Go.same s)) ⟨.tup (vis_new h2 g hp) upd_same ((q1.mono (fun a ha => vis_sub (fun r hr => List.mem_append_left _ hr) ha) s).app (q2.mono (fun a ha => vis_sub (fun r hr => List.mem_append_right _ hr) (vis_from g1 ha)) s)), w⟩⟩
/-! methods of texts -/
theorem ee_m1 {m : Str} {id : String} {r : V → List V → Hp → VK → Prop} {apos : Pos} {x y : PyData} (slot : Slot "str" m id) (ty : typeOf (.builtin id) = pure (.type "method_descriptor")) (rule : ∀ i, MtR (X i) id r) (ha : ED X Z E O a x R1 O1) (hb : ED X Z E O1 b y R2 O2)
    (hxs : ∃ w, x = .str w) (hq : wfD x → wfD y → wfD d ∧ ∀ v u H A, Fd Any H v x → Fd A H u y → ∀ Q : VK, (∀ v' H', Same H H' → Fd (fun a => H a = none) H' v' d → Q v' H') → r v [u] H Q)
    (hs : ∀ i, starEach [b] (X i).env = [(false, eval b (X i).env)]) (hbase : ∀ i, attributeBase a m (X i).env (eval a (X i).env) = eval a (X i).env) (hline : (apos.endLine == pos.line) = true) :
    ED X Z E O (.Call (.Attribute a m apos) [b] [] pos) d [] O2 := fun ρ π K σ H h Q q => by
  refine ⟨_, fun i => pe_m1 slot ty (rule i) (pe_w a i) (pe_w b i) (hs i) (hbase i) hline, ha ρ π K σ H h _ fun v1 ρ1 π1 H1 h1 g1 r1 => ?_⟩
  obtain ⟨w, rfl⟩ := hxs
  have w1 := r1.2
  cases r1.1
  refine ⟨⟨w, rfl⟩, hb ρ1 π1 K σ H1 h1 _ fun v2 ρ2 π2 H2 h2 g2 r2 => ?_⟩
  obtain ⟨wd, hh⟩ := hq w1 r2.2
  refine hh _ _ H2 _ (.str _) r2.1 Q fun v H3 s r => ?_
  obtain ⟨x, y, z⟩ := newly h2 (g1.trans g2) s r
  exact q v ρ2 π2 H3 x y ⟨z, wd⟩
theorem ee_endswith {apos : Pos} {u w : List Nat} (ha : ED X Z E O a (dS u) R1 O1) (hb : ED X Z E O1 b (dS w) R2 O2)
    (hs : ∀ i, starEach [b] (X i).env = [(false, eval b (X i).env)]) (hbase : ∀ i, attributeBase a "endswith" (X i).env (eval a (X i).env) = eval a (X i).env) (hline : (apos.endLine == pos.line) = true) :
    ED X Z E O (.Call (.Attribute a "endswith" apos) [b] [] pos) (.bool (Txt.endswith (tx u) (tx w))) [] O2 :=
  ee_m1 PySem.F.slot_str_endswith PySem.F.type_str_endswith (fun _ => mt_endswith) ha hb ⟨_, rfl⟩ (fun _ _ => ⟨trivial, fun v u H A r1 r2 Q q => by cases r1; cases r2; exact ⟨_, _, rfl, rfl, q _ H (Same.refl _) (.bl _)⟩⟩) hs hbase hline
theorem ee_find {apos : Pos} {u w : List Nat} (ha : ED X Z E O a (dS u) R1 O1) (hb : ED X Z E O1 b (dS w) R2 O2)
    (hs : ∀ i, starEach [b] (X i).env = [(false, eval b (X i).env)]) (hbase : ∀ i, attributeBase a "find" (X i).env (eval a (X i).env) = eval a (X i).env) (hline : (apos.endLine == pos.line) = true) :
    ED X Z E O (.Call (.Attribute a "find" apos) [b] [] pos) (.int (Txt.find (tx u) (tx w))) [] O2 :=
  ee_m1 PySem.F.slot_str_find PySem.F.type_str_find (fun _ => mt_find) ha hb ⟨_, rfl⟩ (fun _ _ => ⟨trivial, fun v u H A r1 r2 Q q => by cases r1; cases r2; exact ⟨_, _, rfl, rfl, q _ H (Same.refl _) (.int _)⟩⟩) hs hbase hline
theorem ee_isi {n tn : String} {b : Bool} (hx : SX C N sc fn k X) (hm : C.mg "isinstance" = none) (hg : Gb sc "isinstance") (hm2 : C.mg (Str.ofString n) = none) (hg2 : Gb sc (Str.ofString n)) (ha : ED X Z E O a d R O1) (hty : tyD d = tn)
    (hv : bootBuiltins "isinstance" = some (.builtin "isinstance")) (hv2 : bootBuiltins (Str.ofString n) = some (.type n)) (hb : PySem.W.kitOne C.K (.type tn) (.type n) = some b) (hn : ("isinstance" : Str) ≠ "__name__") (hdb : (("isinstance" : Str) == ("__debug__" : Str)) = false) (hn2 : Str.ofString n ≠ "__name__") (hdb2 : (Str.ofString n == ("__debug__" : Str)) = false)
    (hs : ∀ i, starEach [a, .Name (Str.ofString n) p2] (X i).env = (false, eval a (X i).env) :: starEach [.Name (Str.ofString n) p2] (X i).env) (hpl : ∀ i, (backTo pos (starEach [.Name (Str.ofString n) p2] (X i).env)).any (·.1) = false) :
    ED X Z E O (.Call (.Name "isinstance" p) [a, .Name (Str.ofString n) p2] [] pos) (.bool b) [] O1 := fun ρ π K σ H h Q q =>
  ⟨tCB (rIsi C.K) (tCons (wE X a) (tCons (tC (.ty n)) tNil)), fun i => by
    rw [← hx.K i]
    exact pe_callB call_isi (gl_of hx hg i) (by rw [hx.mg i]; exact hm) hv (pa_cons (pe_w a i) (pa_cons (pe_bltn (v := .ty n) (gl_of hx hg2 i) (by rw [hx.mg i]; exact hm2) hv2 rfl hn2 hdb2) pa_nil rfl) (hs i)) hn hdb (hs i) (hpl i),
    ha ρ π K σ H h _ fun v ρ1 π1 H1 h1 g1 r => ⟨v, .ty n, .type tn, .type n, b, rfl, .ty n, by rw [← hty]; exact r.1.ty (Same.refl _), hb, q _ ρ1 π1 H1 h1 g1 ⟨.bl b, trivial⟩⟩⟩
end
/-! ### sets of cells -/
def setC (R : List Nat) : List Cell → List Nat → List PyData → List Cell
  | E, i :: is, d :: ds => setC R (E.set i (dc d (rOf d R))) is ds
  | E, _, _ => E
def wipeC (E : List Cell) : List Nat → List Cell
  | [] => E
  | i :: is => (wipeC E is).set i none
def noOb (O : List Ob) (is : List Nat) : Bool := O.all fun o => !is.contains o.1
section
variable {Z H H' : Hp} {ρ π : Cols} {E : List Cell} {O : List Ob} {K : Held} {σ : L2.St} {R : List Nat} {v : V}
theorem noOb.ne {is : List Nat} (h : noOb O is = true) {o : Ob} (ho : o ∈ O) : o.1 ∉ is := by
  have := List.all_eq_true.mp h o ho
  simpa using this
theorem Rel.set {P : OP} {i : Nat} (h : Rel Z ρ π E O K σ H) (hi : ∀ o ∈ O, o.1 ≠ i) (hv : P.p v (col ρ R) H) : Rel Z ρ π (E.set i (some (P, R))) O K (σ.set i (some v)) H where
  cell := fun n P' R' e => by
    rw [List.getElem?_set] at e ⊢
    by_cases c : i = n
    · rw [if_pos c] at e ⊢
      split at e
      · next hl =>
        cases e
        rw [if_pos (by rw [← h.len]; exact hl)]
        exact ⟨v, rfl, hv⟩
      · cases e
    · rw [if_neg c] at e ⊢
      exact h.cell n P' R' e
  obj := fun o ho => by
    rw [List.getElem?_set_ne (Ne.symm (hi o ho))]
    exact h.obj o ho
  held := h.held
  len := by rw [List.length_set, List.length_set]; exact h.len
  dj := h.dj
  dp := h.dp
  dx := h.dx
  lr := h.lr
  lp := h.lp
  keep := h.keep
  zr := h.zr
  zp := h.zp
  z0 := h.z0
theorem Rel.unset {i : Nat} {u : Option V} (h : Rel Z ρ π E O K σ H) (hi : ∀ o ∈ O, o.1 ≠ i) : Rel Z ρ π (E.set i none) O K (σ.set i u) H where
  cell := fun n P' R' e => by
    rw [List.getElem?_set] at e ⊢
    by_cases c : i = n
    · rw [if_pos c] at e
      split at e <;> cases e
    · rw [if_neg c] at e ⊢
      exact h.cell n P' R' e
  obj := fun o ho => by
    rw [List.getElem?_set_ne (Ne.symm (hi o ho))]
    exact h.obj o ho
  held := h.held
  len := by rw [List.length_set, List.length_set]; exact h.len
  dj := h.dj
  dp := h.dp
  dx := h.dx
  lr := h.lr
  lp := h.lp
  keep := h.keep
  zr := h.zr
  zp := h.zp
  z0 := h.z0
theorem Rel.setC : ∀ {is : List Nat} {ds : List PyData} {vs : List V} {E : List Cell} {σ : L2.St}, Rel Z ρ π E O K σ H → (∀ o ∈ O, o.1 ∉ is) → FdA (col ρ R) H vs ds → wfA ds → Rel Z ρ π (setC R E is ds) O K (setAll σ is vs) H
  | [], _, _, _, _, h, _, _, _ => h
  | _ :: _, [], _, _, _, h, _, r, _ => by cases r; exact h
  | i :: is, d :: ds, _, E, σ, h, hi, r, w => by
    obtain ⟨v, us, rfl, r1, r2⟩ := r.inv
    exact Rel.setC (is := is) (ds := ds) (vs := us) (E := E.set i (dc d (rOf d R))) (σ := σ.set i (some v)) (h.set (fun o ho c => hi o ho (c ▸ List.mem_cons_self)) (dP_rOf r1 w.1)) (fun o ho c => hi o ho (List.mem_cons_of_mem _ c)) r2 w.2
theorem Rel.wipe : ∀ {is : List Nat}, Rel Z ρ π E O K σ H → (∀ o ∈ O, o.1 ∉ is) → Rel Z ρ π (wipeC E is) O K (wipe σ is) H
  | [], h, _ => h
  | i :: is, h, hi => Rel.unset (Rel.wipe h fun o ho c => hi o ho (List.mem_cons_of_mem _ c)) fun o ho c => hi o ho (c ▸ List.mem_cons_self)
theorem Rel.hold {P : OP} (h : Rel Z ρ π E O K σ H) (hv : P.p v (col ρ R) H) : Rel Z ρ π E O ((v, P, R) :: K) σ H where
  cell := h.cell
  obj := h.obj
  held := fun k hk => (List.mem_cons.mp hk).elim (fun e => e ▸ hv) (h.held k)
  len := h.len
  dj := h.dj
  dp := h.dp
  dx := h.dx
  lr := h.lr
  lp := h.lp
  keep := h.keep
  zr := h.zr
  zp := h.zp
  z0 := h.z0
theorem Rel.drop {k : V × OP × List Nat} (h : Rel Z ρ π E O (k :: K) σ H) : Rel Z ρ π E O K σ H where
  cell := h.cell
  obj := h.obj
  held := fun k hk => h.held k (List.mem_cons_of_mem _ hk)
  len := h.len
  dj := h.dj
  dp := h.dp
  dx := h.dx
  lr := h.lr
  lp := h.lp
  keep := h.keep
  zr := h.zr
  zp := h.zp
  z0 := h.z0
/-- a place that no one looks at changes -/
theorem Rel.poke {q : Addr} {o : HO} (h : Rel Z ρ π E O K σ H) (h1 : ∀ r, ¬ρ r q) (h2 : ∀ s, ¬π s q) (h3 : Z q = none) : Rel Z ρ π E O K σ (upd H q o) := by
  have hc : ∀ R a u, col ρ R a → H a = some u → upd H q o a = some u ∧ col ρ R a := fun R a u ha e => by
    obtain ⟨r, hr, c⟩ := ha
    exact ⟨by rw [upd_ne (fun z => by subst z; exact h1 r c)]; exact e, r, hr, c⟩
  have hp : ∀ s a u, π s a → H a = some u → upd H q o a = some u := fun s a u ha e => by rw [upd_ne (fun z => by subst z; exact h2 s ha)]; exact e
  exact {
    cell := fun i P R e => by obtain ⟨v, e1, q⟩ := h.cell i P R e; exact ⟨v, e1, P.loc (hc R) q⟩
    obj := fun o ho => by obtain ⟨v, e1, q⟩ := h.obj o ho; exact ⟨v, e1, o.2.1.loc (hp o.1) (hc _) q⟩
    held := fun k hk => k.2.1.loc (hc _) (h.held k hk)
    len := h.len
    dj := h.dj
    dp := h.dp
    dx := h.dx
    lr := fun r a hr e => h.lr r a hr (grow_upd a e)
    lp := fun r a hr e => h.lp r a hr (grow_upd a e)
    keep := fun a u e => by rw [upd_ne (fun z => by rw [z, h3] at e; cases e)]; exact h.keep a u e
    zr := h.zr
    zp := h.zp
    z0 := h.z0 }
end
/-! ### what is walked -/
def Src2 (Jt : It) (src : List PyData) (v : V) (P : OP) : Prop := ∀ (A : Addr → Prop) H i, P.p v A H → (i < src.length → Jt.go i H) ∧ (src.length ≤ i → Jt.stop i H) ∧
  ∀ x H', i < src.length → Jt.yld i H x H' → Same H H' ∧ ∃ d, src[i]? = some d ∧ Fd (fun a => A a ∨ H a = none) H' x d ∧ wfD d
def EI {J : Type} (X : J → Cx) (Z : Hp) (E : List Cell) (O : List Ob) (tg it : Expr) (src : List PyData) (R : List Nat) (O' : List Ob) : Prop :=
  ∀ ρ π K σ H, Rel Z ρ π E O K σ H → ∀ Rr : It → Hp → Prop, (∀ Jt v P ρ' π' H', Rel Z ρ' π' E O' K σ H' → Go ρ π H ρ' π' H' → P.p v (vis ρ' π' R H) H' → Src2 Jt src v P → Rr Jt H') → wI X tg it σ H Rr
def triv : OP := ⟨fun _ _ _ => True, fun _ h => h⟩
section
variable {C : Ctx} {N : List Str} {sc : Scope} {fn : Str → Bool} {k : Nat} {J : Type} {X : J → Cx}
variable {Z : Hp} {E E' : List Cell} {O O1 O2 O3 O' : List Ob} {e a b c tg it : Expr} {es ifs : List Expr} {P : OP} {R R1 R2 R3 R' : List Nat} {d d1 d2 d3 : PyData} {ds es1 src : List PyData} {pos p p2 pos' : Pos}
theorem EI.to {s1 s2 : List PyData} (h : EI X Z E O tg it s1 R O1) (q : s1 = s2) : EI X Z E O tg it s2 R O1 := q ▸ h
theorem ei_list (hx : SX C N sc fn k X) (he : ED X Z E O it (.list ds) R O1) : EI X Z E O tg it ds R O1 := fun ρ π K σ H h Rr q =>
  ⟨iList C.K (wE X it), fun i => by rw [← hx.K i]; exact pi_list (pe_w it i), he ρ π K σ H h _ fun v ρ1 π1 H1 h1 g1 r => by
    have w := r.2
    have r' := r.1
    cases r' with
    | @lst x xs _ hv e1 q1 =>
      refine ⟨_, rfl, ⟨_, SqL.of e1⟩, q _ (.ref x) (dP (.list ds)) ρ1 π1 H1 h1 g1 r fun A H2 i r2 => ?_⟩
      have w2 := r2.2
      have r3 := r2.1
      cases r3 with
      | @lst _ ys _ _ e2 q2 =>
        refine ⟨fun hi => ?_, fun hi => ⟨ys, SqL.of e2, by rw [q2.length]; exact hi⟩, fun x' H' hlt hy => ?_⟩
        · have : i < ys.length := by rw [q2.length]; exact hi
          exact ⟨ys, _, SqL.of e2, List.getElem?_eq_getElem this⟩
        · obtain ⟨rfl, hy⟩ := hy
          obtain ⟨d, hd, rd⟩ := q2.getV (hy ys (SqL.of e2))
          exact ⟨Same.refl _, d, hd, rd.mono (fun _ h => .inl h) (Same.refl _), wfA_iff.mp w2.2 d (List.mem_of_getElem? hd)⟩⟩
theorem ei_tup (hx : SX C N sc fn k X) (he : ED X Z E O it (.tuple ds) R O1) : EI X Z E O tg it ds R O1 := fun ρ π K σ H h Rr q =>
  ⟨iTup C.K (wE X it), fun i => by rw [← hx.K i]; exact pi_tup (pe_w it i), he ρ π K σ H h _ fun v ρ1 π1 H1 h1 g1 r => by
    have w := r.2
    have r' := r.1
    cases r' with
    | @tup x xs _ hv e1 q1 =>
      refine ⟨_, rfl, ⟨_, SqT.of e1⟩, q _ (.ref x) (dP (.tuple ds)) ρ1 π1 H1 h1 g1 r fun A H2 i r2 => ?_⟩
      have w2 := r2.2
      have r3 := r2.1
      cases r3 with
      | @tup _ ys _ _ e2 q2 =>
        refine ⟨fun hi => ?_, fun hi => ⟨ys, SqT.of e2, by rw [q2.length]; exact hi⟩, fun x' H' hlt hy => ?_⟩
        · have : i < ys.length := by rw [q2.length]; exact hi
          exact ⟨ys, _, SqT.of e2, List.getElem?_eq_getElem this⟩
        · obtain ⟨rfl, hy⟩ := hy
          obtain ⟨d, hd, rd⟩ := q2.getV (hy ys (SqT.of e2))
          exact ⟨Same.refl _, d, hd, rd.mono (fun _ h => .inl h) (Same.refl _), wfA_iff.mp w2.2 d (List.mem_of_getElem? hd)⟩⟩
theorem ei_str {w : List Nat} (he : ED X Z E O it (dS w) R O1) : EI X Z E O tg it (w.map fun c => dS [c]) [] O1 := fun ρ π K σ H h Rr q =>
  ⟨_, fun i => pi_str (pe_w it i), he ρ π K σ H h _ fun v ρ1 π1 H1 h1 g1 r => by
    have hw := r.2.s
    cases r.1
    refine ⟨_, rfl, q _ .non triv ρ1 π1 H1 h1 g1 trivial fun A H2 i _ => ⟨fun hi => ?_, fun hi => ?_, fun v H' hlt hy => ?_⟩⟩
    · rw [List.length_map] at hi
      show i < (tx w).cps.size
      have : (tx w).cps.size = w.length := tx_len w
      omega
    · rw [List.length_map] at hi
      show (tx w).cps.size ≤ i
      have : (tx w).cps.size = w.length := tx_len w
      omega
    · obtain ⟨rfl, c, hc, rfl⟩ := hy
      have hc' : w[i]? = some c := by simpa using hc
      exact ⟨Same.refl _, _, by rw [List.getElem?_map, hc']; rfl, .str _, wfD.mkS (fun x hx => by
        have : x = c := by simpa using hx
        subst this; exact hw.1 x (List.mem_of_getElem? hc')) (by rw [sizeLine_eq]; exact (by decide : 1 ≤ 16777216))⟩⟩
theorem src2_range {lo : Int} {n : Nat} : Src2 (Itr lo n) ((List.range n).map fun i : Nat => .int (lo + i)) .non triv := fun A H i _ => by
  rw [List.length_map, List.length_range]
  refine ⟨fun hi => hi, fun hi => hi, fun v H' hlt hy => ?_⟩
  obtain ⟨rfl, rfl⟩ := hy
  exact ⟨Same.refl _, _, by rw [List.getElem?_map, List.getElem?_range hlt]; rfl, .int _, trivial⟩
end
end G

namespace G
open PySem PySem.Spec PyProof.Rows L2
section
variable {C : Ctx} {N : List Str} {sc : Scope} {fn : Str → Bool} {k : Nat} {J : Type} {X : J → Cx}
variable {Z : Hp} {E E' : List Cell} {O O1 O2 O3 O' : List Ob} {e a b c tg it : Expr} {es ifs : List Expr} {P : OP} {R R1 R2 R3 R' Ri Re : List Nat} {d d1 d2 d3 : PyData} {ds es1 src : List PyData} {pos p p2 pos' tp : Pos}
theorem ei_range1 {n : Int} (hx : SX C N sc fn k X) (hm : C.mg "range" = none) (hg : Gb sc "range") (he : ED X Z E O a (.int n) R O1) (h1 : -(2 ^ 62) ≤ n) (h2 : n < 2 ^ 62)
    (hs : ∀ i, starEach [a] (X i).env = [(false, eval a (X i).env)]) : EI X Z E O tg (.Call (.Name "range" p) [a] [] pos) ((List.range n.toNat).map fun i : Nat => .int i) [] O1 := fun ρ π K σ H h Rr q =>
  ⟨_, fun i => pi_range1 (gl_of hx hg i) (by rw [hx.mg i]; exact hm) (pa_cons (pe_w a i) pa_nil (hs i)) (hs i), he ρ π K σ H h _ fun v ρ1 π1 H1 hh1 g1 r => by
    cases r.1
    refine ⟨n, rfl, h1, h2, q _ .non triv ρ1 π1 H1 hh1 g1 trivial ?_⟩
    have := src2_range (lo := 0) (n := n.toNat)
    simpa using this⟩
theorem ei_range2 {n m : Int} (hx : SX C N sc fn k X) (hm : C.mg "range" = none) (hg : Gb sc "range") (he : ED X Z E O a (.int n) R O1) (he2 : ED X Z E O1 b (.int m) R2 O2)
    (hb : -(2 ^ 62) ≤ n ∧ n < 2 ^ 62 ∧ -(2 ^ 62) ≤ m ∧ m < 2 ^ 62)
    (hs : ∀ i, starEach [a, b] (X i).env = [(false, eval a (X i).env), (false, eval b (X i).env)]) (hs2 : ∀ i, starEach [b] (X i).env = [(false, eval b (X i).env)]) :
    EI X Z E O tg (.Call (.Name "range" p) [a, b] [] pos) ((List.range (m - n).toNat).map fun i : Nat => .int (n + i)) [] O2 := fun ρ π K σ H h Rr q =>
  ⟨_, fun i => pi_range2 (gl_of hx hg i) (by rw [hx.mg i]; exact hm) (pa_cons (pe_w a i) (pa_cons (pe_w b i) pa_nil (hs2 i)) (by rw [hs i, hs2 i])) (hs i) (hs2 i), he ρ π K σ H h _ fun v ρ1 π1 H1 hh1 g1 r => he2 ρ1 π1 K σ H1 hh1 _ fun u ρ2 π2 H2 hh2 g2 r2 => by
    cases r.1
    cases r2.1
    exact ⟨n, m, rfl, hb, q _ .non triv ρ2 π2 H2 hh2 (g1.trans g2) trivial src2_range⟩⟩
/-- enumerate -/
theorem enumM_eq {α : Type} (l : List α) (g : α → PyData) : enumD (l.map g) = l.zipIdx.map fun q => .tuple [.int (q.2 : Nat), g q.1] := by
  refine List.ext_getElem? fun n => ?_
  rw [List.getElem?_map, List.getElem?_zipIdx]
  cases h : l[n]? with
  | none =>
    have : l.length ≤ n := List.getElem?_eq_none_iff.mp h
    refine List.getElem?_eq_none ?_
    unfold enumD
    rw [List.length_map, List.length_range, List.length_map]; exact this
  | some a =>
    rw [enumD_get (d := g a) (by rw [List.getElem?_map, h]; rfl)]
    show some _ = some (PyData.tuple [.int ((0 + n : Nat) : Int), g a])
    rw [Nat.zero_add]
theorem ei_enum {kk : Nat} (hx : SX C N sc fn k X) (hm : C.mg "enumerate" = none) (hg : Gb sc "enumerate") (he : ED X Z E O a (.list ds) R O1)
    (hs : ∀ i, starEach [a] (X i).env = [(false, eval a (X i).env)]) : EI X Z E O (.Tuple es kk tp) (.Call (.Name "enumerate" p) [a] [] pos) (enumD ds) R O1 := fun ρ π K σ H h Rr q =>
  ⟨iEnum C.K (tCons (wE X a) tNil), fun i => by rw [← hx.K i]; exact pi_enum (gl_of hx hg i) (by rw [hx.mg i]; exact hm) (pa_cons (pe_w a i) pa_nil (hs i)) (hs i), he ρ π K σ H h _ fun v ρ1 π1 H1 h1 g1 r => by
    have w := r.2
    have r' := r.1
    cases r' with
    | @lst x xs _ hv e1 q1 =>
      refine ⟨x, xs, rfl, SqL.of e1, q _ (.ref x) (dP (.list ds)) ρ1 π1 H1 h1 g1 r fun A H2 i r2 => ?_⟩
      have w2 := r2.2
      have r3 := r2.1
      have hl : (enumD ds).length = ds.length := by unfold enumD; rw [List.length_map, List.length_range]
      cases r3 with
      | @lst _ ys _ _ e2 q2 =>
        rw [hl]
        refine ⟨fun hi => ?_, fun hi => ⟨ys, SqL.of e2, by rw [q2.length]; exact hi⟩, fun x' H' hlt hy => ?_⟩
        · have : i < ys.length := by rw [q2.length]; exact hi
          exact ⟨ys, _, SqL.of e2, List.getElem?_eq_getElem this⟩
        · obtain ⟨t, y, rfl, ht, rfl, hy⟩ := hy
          obtain ⟨d, hd, rd⟩ := q2.getV (hy ys (SqL.of e2))
          have s : Same H2 (upd H2 t (.tup [.int i, y])) := same_new ht
          exact ⟨s, _, enumD_get hd, .tup (.inr ht) upd_same (.cons (.int _) (.cons (rd.mono (fun _ h => .inl h) s) .nil)), by rw [sizeLine_eq]; exact (by decide : 2 < 16777216), trivial, wfA_iff.mp w2.2 d (List.mem_of_getElem? hd), trivial⟩⟩
theorem ei_enumM {α : Type} {l : List α} {g : α → PyData} {kk : Nat} (hx : SX C N sc fn k X) (hm : C.mg "enumerate" = none) (hg : Gb sc "enumerate") (he : ED X Z E O a (.list (l.map g)) R O1)
    (hs : ∀ i, starEach [a] (X i).env = [(false, eval a (X i).env)]) : EI X Z E O (.Tuple es kk tp) (.Call (.Name "enumerate" p) [a] [] pos) (l.zipIdx.map fun q => .tuple [.int (q.2 : Nat), g q.1]) R O1 :=
  (ei_enum hx hm hg he hs).to (enumM_eq l g)
/-- zip of two lists of one length -/
def zipP (v1 v2 : V) (ds es : List PyData) : OP := ⟨fun _ A H => (Fd A H v1 (.list ds) ∧ wfD (.list ds)) ∧ Fd A H v2 (.list es) ∧ wfD (.list es), fun h r => ⟨⟨r.1.1.cut h, r.1.2⟩, r.2.1.cut h, r.2.2⟩⟩
theorem zipM_eq {α β : Type} (l : List α) (m : List β) (g1 : α → PyData) (g2 : β → PyData) (hl : l.length = m.length) : zipD (l.map g1) (m.map g2) = (l.zip m).map fun q => .tuple [g1 q.1, g2 q.2] := by
  refine List.ext_getElem? fun n => ?_
  rw [List.getElem?_map]
  by_cases h : n < l.length
  · have h2 : n < m.length := by omega
    rw [zipD_get (d := g1 l[n]) (d2 := g2 m[n]) (by rw [List.getElem?_map, List.getElem?_eq_getElem h]; rfl) (by rw [List.getElem?_map, List.getElem?_eq_getElem h2]; rfl)]
    rw [List.getElem?_eq_getElem (by rw [List.length_zip]; omega), List.getElem_zip]; rfl
  · have z : (l.zip m)[n]? = none := List.getElem?_eq_none (by rw [List.length_zip]; omega)
    rw [z]
    refine List.getElem?_eq_none ?_
    unfold zipD
    rw [List.length_map, List.length_range, List.length_map, List.length_map]; omega
theorem ei_zip {kk : Nat} (hx : SX C N sc fn k X) (hm : C.mg "zip" = none) (hg : Gb sc "zip") (he : ED X Z E O a (.list ds) R1 O1) (he2 : ED X Z E O1 b (.list es1) R2 O2) (hl : ds.length = es1.length)
    (hs : ∀ i, starEach [a, b] (X i).env = (false, eval a (X i).env) :: starEach [b] (X i).env) (hs2 : ∀ i, starEach [b] (X i).env = [(false, eval b (X i).env)]) (hpl : ∀ i, (backTo pos (starEach [b] (X i).env)).any (·.1) = false) :
    EI X Z E O (.Tuple es kk tp) (.Call (.Name "zip" p) [a, b] [] pos) (zipD ds es1) (R1 ++ R2) O2 := fun ρ π K σ H h Rr q =>
  ⟨iZip C.K (tCons (wE X a) (tCons (wE X b) tNil)), fun i => by rw [← hx.K i]; exact pi_zip (gl_of hx hg i) (by rw [hx.mg i]; exact hm) (pa_cons (pe_w a i) (pa_cons (pe_w b i) pa_nil (hs2 i)) (hs i)) (hs i) (hpl i),
    he ρ π K σ H h _ fun v ρ1 π1 H1 h1 g1 r => he2 ρ1 π1 K σ H1 h1 _ fun u ρ2 π2 H2 h2 g2 r2 => by
    have r1' := r.1.cut fun a o ha e => vis_keep h1 g2 ha e
    have w1 := r.2
    have w2 := r2.2
    have r2' := r2.1
    have ra := r1'
    have rb := r2'
    cases r1' with
    | @lst x xs _ hv1 e1 q1 =>
      cases r2' with
      | @lst y ys _ hv2 e2 q2 =>
        refine ⟨x, y, xs, ys, rfl, SqL.of e1, SqL.of e2, q _ .non (zipP (.ref x) (.ref y) ds es1) ρ2 π2 H2 h2 (g1.trans g2) ⟨⟨ra.mono (fun a ha => vis_sub (fun r hr => List.mem_append_left _ hr) ha) (Same.refl _), w1⟩, rb.mono (fun a ha => vis_sub (fun r hr => List.mem_append_right _ hr) (vis_from g1 ha)) (Same.refl _), w2⟩ fun A H3 i r3 => ?_⟩
        obtain ⟨⟨r4, w4⟩, r5, w5⟩ := r3
        have hz : (zipD ds es1).length = ds.length := by unfold zipD; rw [List.length_map, List.length_range]; omega
        cases r4 with
        | @lst _ xs' _ _ e4 q4 =>
          cases r5 with
          | @lst _ ys' _ _ e5 q5 =>
            have l1 := q4.length
            have l2 := q5.length
            rw [hz]
            refine ⟨fun hi => ?_, fun hi => ⟨xs', ys', SqL.of e4, SqL.of e5, .inl (by omega)⟩, fun x' H' hlt hy => ?_⟩
            · have h1 : i < xs'.length := by omega
              have h2 : i < ys'.length := by omega
              exact ⟨xs', ys', _, _, SqL.of e4, SqL.of e5, List.getElem?_eq_getElem h1, List.getElem?_eq_getElem h2⟩
            · obtain ⟨t, u, w, rfl, ht, rfl, hu, hw⟩ := hy
              obtain ⟨d, hd, rd⟩ := q4.getV (hu xs' (SqL.of e4))
              obtain ⟨d', hd', rd'⟩ := q5.getV (hw ys' (SqL.of e5))
              have s : Same H3 (upd H3 t (.tup [u, w])) := same_new ht
              exact ⟨s, _, zipD_get hd hd', .tup (.inr ht) upd_same (.cons (rd.mono (fun _ h => .inl h) s) (.cons (rd'.mono (fun _ h => .inl h) s) .nil)), by rw [sizeLine_eq]; exact (by decide : 2 < 16777216), wfA_iff.mp w4.2 d (List.mem_of_getElem? hd), wfA_iff.mp w5.2 d' (List.mem_of_getElem? hd'), trivial⟩⟩
theorem ei_zipM {α β : Type} {l : List α} {m : List β} {g1 : α → PyData} {g2 : β → PyData} {kk : Nat} (hx : SX C N sc fn k X) (hm : C.mg "zip" = none) (hg : Gb sc "zip") (he : ED X Z E O a (.list (l.map g1)) R1 O1) (he2 : ED X Z E O1 b (.list (m.map g2)) R2 O2) (hl : l.length = m.length)
    (hs : ∀ i, starEach [a, b] (X i).env = (false, eval a (X i).env) :: starEach [b] (X i).env) (hs2 : ∀ i, starEach [b] (X i).env = [(false, eval b (X i).env)]) (hpl : ∀ i, (backTo pos (starEach [b] (X i).env)).any (·.1) = false) :
    EI X Z E O (.Tuple es kk tp) (.Call (.Name "zip" p) [a, b] [] pos) ((l.zip m).map fun q => .tuple [g1 q.1, g2 q.2]) (R1 ++ R2) O2 :=
  (ei_zip hx hm hg he he2 (by rw [List.length_map, List.length_map]; exact hl) hs hs2 hpl).to (zipM_eq l m g1 g2 hl)
/-! ### comprehensions -/
def ETs {J : Type} (X : J → Cx) (Z : Hp) (E : List Cell) (O : List Ob) (ifs : List Expr) (b : Bool) (O' : List Ob) : Prop :=
  ∀ ρ π K σ H, Rel Z ρ π E O K σ H → ∀ Q : Bool → Hp → Prop, (∀ ρ' π' H', Rel Z ρ' π' E O' K σ H' → Go ρ π H ρ' π' H' → Q b H') → wTs X ifs σ H Q
theorem ets_nil' : ETs X Z E O [] true O := fun ρ π K σ H h Q q => ⟨_, fun i => pts_nil, q ρ π H h (Go.refl _ _ _)⟩
theorem ets_one' {b : Bool} (h : ET X Z E O c b O1) : ETs X Z E O [c] b O1 := fun ρ π K σ H hm Q q => by
  obtain ⟨t, ht, r⟩ := h ρ π K σ H hm Q q
  exact ⟨t, fun i => pts_one (ht i), r⟩
theorem kept_mem {p : Nat → Bool} {f : Nat → PyData} {d : PyData} : ∀ {n : Nat}, d ∈ kept p f n → ∃ m, m < n ∧ p m = true ∧ d = f m
  | 0, h => by cases h
  | n + 1, h => by
    rcases List.mem_append.mp (show d ∈ kept p f n ++ (if p n = true then [f n] else []) from h) with z | z
    · obtain ⟨m, h1, h2⟩ := kept_mem z
      exact ⟨m, by omega, h2⟩
    · split at z
      · next c => exact ⟨n, by omega, c, by simpa using z⟩
      · cases z
theorem lc_core2 {scope : Scope} {own : List (Str × Nat)} {un : PyData → Option (List PyData)} {pr : Nat → Bool} {f : Nat → PyData} {w : Nat} (hw0 : w ≠ 0)
    (hx : SX C N sc fn k X) (hi : EI X Z E O tg it src Ri O1) (ok : blkC N sc scope own = true) (tgd : TgD (Xb X scope) tg (own.map (·.2)) un)
    (hun : ∀ (n : Nat) d, src[n]? = some d → ∃ es, un d = some es ∧ es.length = (own.map (·.2)).length ∧ (wfD d → wfA es)) (hO : noOb O1 (own.map (·.2)) = true) (hz : src.length < sizeLine)
    (ht : ∀ (n : Nat) d es, src[n]? = some d → un d = some es → wfA es → ETs (Xb X scope) Z (setC (w :: Ri) (wipeC E (own.map (·.2))) (own.map (·.2)) es) O1 ifs (pr n) O1)
    (he : ∀ (n : Nat) d es, src[n]? = some d → un d = some es → wfA es → pr n = true → ED (Xb X scope) Z (setC (w :: Ri) (wipeC E (own.map (·.2))) (own.map (·.2)) es) O1 e (f n) Re O1) :
    ∀ ρ π K σ H, Rel Z ρ π E O K σ H → ∀ Q : VK, (∀ v ρ' π' H', Rel Z ρ' π' E O1 K σ H' → Go ρ π H ρ' π' H' → Fd (vis ρ' π' Re H) H' v (.list (kept pr f src.length)) → wfD (.list (kept pr f src.length)) → Q v H') →
      tLc (wI X tg it) (wG (Xb X scope) tg) (wTs (Xb X scope) ifs) (wE (Xb X scope) e) (own.map (·.2)) σ H Q := by
  intro ρ π K σ H h Q q
  refine hi ρ π K σ H h _ fun Jt sv SP ρ1 π1 H1 h1 g1 rs hsrc => ?_
  have h2 := h1.paint (w := w) (H := H) hw0 fun a e => h.keep.free e
  have g2 : Go ρ π H (paint ρ1 π1 w H H1) π1 H1 := g1.paint
  have rs2 : SP.p sv (col (paint ρ1 π1 w H H1) (w :: Ri)) H1 := SP.loc (fun a o ha e => ⟨e, vis_paint ha e⟩) rs
  generalize paint ρ1 π1 w H H1 = ρ2 at h2 g2 rs2
  clear h1 g1 rs ρ1
  have h3 := h2.hold rs2
  have hno : ∀ o ∈ O1, o.1 ∉ own.map (·.2) := fun o ho => noOb.ne hO ho
  intro D hD
  have hDs : Same H1 (upd H1 D (.lst [])) := same_new hD
  have hDc : ∀ r, ¬ρ2 r D := fun r c => h2.lr r D c hD
  have hDp : ∀ s, ¬π1 s D := fun s c => h2.lp s D c hD
  have hZD : Z D = none := h2.keep.free hD
  have hHD : H D = none := g2.gr D hD
  have Wdef : ∃ W : Nat → Hp → Prop, W = fun i H' => ∃ ρ' π' acc, Rel Z ρ' π' E O1 ((sv, SP, w :: Ri) :: K) σ H' ∧ Go ρ π H ρ' π' H' ∧ (∀ r, ¬ρ' r D) ∧ (∀ s, ¬π' s D) ∧ H' D = some (.lst acc) ∧
      FdA (fun a => vis ρ' π' Re H a ∧ a ≠ D) H' acc (kept pr f i) ∧ wfA (kept pr f i) := ⟨_, rfl⟩
  obtain ⟨W, hW⟩ := Wdef
  refine ⟨fun i m H' => m = src.length - i ∧ i ≤ src.length ∧ W i H', ⟨src.length, by simp, Nat.zero_le _, by
    rw [hW]; exact ⟨ρ2, π1, [], h3.same hDs, g2.trans (Go.same hDs), hDc, hDp, upd_same, .nil, trivial⟩⟩, ?_⟩
  rintro i m H3 ⟨rfl, hi', hw⟩
  rw [hW] at hw
  obtain ⟨ρ3, π3, acc, r3, g3, c3, p3, e3, a3, w3⟩ := hw
  have hold3 := r3.held (sv, SP, w :: Ri) List.mem_cons_self
  obtain ⟨s1, s2, s3⟩ := hsrc _ H3 i hold3
  by_cases hlt : i < src.length
  · refine .inr ⟨s1 hlt, fun H' => W (i + 1) H', fun H' hh => ⟨src.length - (i + 1), by omega, rfl, hlt, hh⟩, fun x H4 hy => ?_⟩
    obtain ⟨sm, d, hd, rx, wd⟩ := s3 x H4 hlt hy
    obtain ⟨es, hu, hl, hwf⟩ := hun i d hd
    have we := hwf wd
    have r4 := r3.same sm
    have g4 : Go ρ3 π3 H3 ρ3 π3 H4 := Go.same sm
    -- the item's new places get the colour w
    have r5 := r4.paint (w := w) (H := H3) hw0 fun a e => r3.keep.free e
    have g5 : Go ρ3 π3 H3 (paint ρ3 π3 w H3 H4) π3 H4 := g4.paint
    have rx5 : Fd (col (paint ρ3 π3 w H3 H4) (w :: Ri)) H4 x d := rx.cut fun a o ha e => ⟨e, by
      rcases ha with ha | ha
      · exact col_up (fun _ _ h => .inl h) ha
      · exact ⟨w, List.mem_cons_self, .inr ⟨rfl, ha, (by rw [e]; exact fun z => nomatch z), fun r c => r3.lr r a c ha, fun s c => r3.lp s a c ha⟩⟩⟩
    have e4 : H4 D = some (.lst acc) := sm _ _ e3
    have c5 : ∀ r, ¬paint ρ3 π3 w H3 H4 r D := fun r c => by
      rcases c with c | ⟨_, c, _⟩
      · exact c3 r c
      · rw [e3] at c; cases c
    generalize paint ρ3 π3 w H3 H4 = ρ5 at r5 g5 rx5 c5
    refine tgd _ H4 H4 x d es _ _ (Same.refl _) rx5 hu hl fun vs rv => ⟨wipe_setAll _ _ _, ?_⟩
    have r6 : Rel Z ρ5 π3 (setC (w :: Ri) (wipeC E (own.map (·.2))) (own.map (·.2)) es) O1 ((sv, SP, w :: Ri) :: K) (setAll (wipe σ (own.map (·.2))) (own.map (·.2)) vs) H4 := Rel.setC (Rel.wipe r5 hno) hno rv we
    have back : ∀ {ρ' π' : Cols} {H' : Hp}, Rel Z ρ' π' (setC (w :: Ri) (wipeC E (own.map (·.2))) (own.map (·.2)) es) O1 ((sv, SP, w :: Ri) :: K) (setAll (wipe σ (own.map (·.2))) (own.map (·.2)) vs) H' → Go ρ5 π3 H4 ρ' π' H' → Rel Z ρ' π' E O1 ((sv, SP, w :: Ri) :: K) σ H' := fun {ρ' π' H'} rr gg => {
      cell := fun n P R ec => by
        obtain ⟨v, e1, qq⟩ := r5.cell n P R ec
        refine ⟨v, e1, P.loc (fun a o ha e => ?_) qq⟩
        obtain ⟨r, hr, c⟩ := ha
        exact ⟨gg.kp a o e fun s z => r5.dx r s a c z, r, hr, gg.up r a c⟩
      obj := fun o ho => by
        obtain ⟨v, e1, qq⟩ := rr.obj o ho
        have : σ[o.1]? = some (some v) := by
          rw [setAll_out _ _ _ (hno o ho), wipe_get, if_neg (hno o ho)] at e1
          exact e1
        exact ⟨v, this, qq⟩
      held := rr.held
      len := r5.len
      dj := rr.dj
      dp := rr.dp
      dx := rr.dx
      lr := rr.lr
      lp := rr.lp
      keep := rr.keep
      zr := rr.zr
      zp := rr.zp
      z0 := rr.z0 }
    have a5 : FdA (fun a => vis ρ5 π3 Re H a ∧ a ≠ D) H4 acc (kept pr f i) := a3.cut fun a o ha e => ⟨sm _ _ e, (vis_keep r3 g5 ha.1 e).2, ha.2⟩
    have g35 : Go ρ π H ρ5 π3 H4 := g3.trans g5
    refine ht i d es hd hu we ρ5 π3 _ _ H4 r6 _ fun ρ6 π6 H6 r7 g6 => ?_
    have keepA : ∀ {ρ' π' : Cols} {H' : Hp}, Go ρ5 π3 H4 ρ' π' H' → H' D = some (.lst acc) ∧ (∀ r, ¬ρ' r D) ∧ (∀ s, ¬π' s D) ∧ FdA (fun a => vis ρ' π' Re H a ∧ a ≠ D) H' acc (kept pr f i) := fun {ρ' π' H'} gg =>
      ⟨gg.kp _ _ e4 p3, fun r c => (gg.rn r D c).elim (c5 r) (fun z => by rw [e4] at z; cases z), fun s c => (gg.pn s D c).elim (p3 s) (fun z => by rw [e4] at z; cases z),
        a5.cut fun a o ha e => ⟨(vis_keep r5 gg ha.1 e).1, (vis_keep r5 gg ha.1 e).2, ha.2⟩⟩
    cases hp : pr i with
    | false =>
      obtain ⟨k1, k2, k3, k4⟩ := keepA g6
      refine iteF ?_
      rw [hW]
      have ek : kept pr f (i + 1) = kept pr f i := by
        show kept pr f i ++ (if pr i = true then [f i] else []) = _
        rw [hp, if_neg Bool.false_ne_true, List.append_nil]
      exact ⟨ρ6, π6, acc, back r7 g6, g35.trans g6, k2, k3, k1, by rw [ek]; exact k4, by rw [ek]; exact w3⟩
    | true =>
      refine iteT ?_
      refine he i d es hd hu we hp ρ6 π6 _ _ H6 r7 _ fun y ρ7 π7 H7 r8 g7 ry => ?_
      have g67 := g6.trans g7
      obtain ⟨k1, k2, k3, k4⟩ := keepA g67
      have k4l := k4.length
      have kl := kept_len pr f i
      refine ⟨acc, k1, by omega, ?_⟩
      rw [hW]
      have ek : kept pr f (i + 1) = kept pr f i ++ [f i] := by
        show kept pr f i ++ (if pr i = true then [f i] else []) = _
        rw [hp, if_pos rfl]
      have hDl : H6 D ≠ none := by rw [g6.kp _ _ e4 p3]; exact fun z => nomatch z
      have yD : ∀ a, vis ρ7 π7 Re H6 a → a ≠ D := fun a ha c => by
        subst c
        rcases ha with ⟨r, _, c⟩ | ⟨z, _⟩
        · exact k2 r c
        · exact hDl z
      have upD : ∀ a o, a ≠ D → H7 a = some o → upd H7 D (.lst (acc ++ [y])) a = some o := fun a o ha e => by rw [upd_ne ha]; exact e
      refine ⟨ρ7, π7, acc ++ [y], (back r8 g67).poke k2 k3 hZD, ?_, k2, k3, upd_same, ?_, ?_⟩
      · have gg := g35.trans g67
        exact { up := gg.up, kp := fun a o e hn => by rw [upd_ne (fun z => by rw [z, hHD] at e; cases e)]; exact gg.kp a o e hn, gr := fun a e => gg.gr a (grow_upd a e), rn := gg.rn, pn := gg.pn }
      · rw [ek]
        refine (k4.cut fun a o ha e => ⟨upD a o ha.2 e, ha⟩).app (.cons (ry.1.cut fun a o ha e => ⟨upD a o (yD a ha) e, vis_from (g35.trans g6) ha, yD a ha⟩) .nil)
      · rw [ek]; exact w3.app ⟨ry.2, trivial⟩
  · have he' : i = src.length := by omega
    subst he'
    refine .inl ⟨s2 (Nat.le_refl _), q _ ρ3 π3 H3 r3.drop g3 (.lst (.inr ⟨hHD, c3, p3⟩) e3 (a3.mono (fun _ h => h.1) (Same.refl _))) ⟨Nat.lt_of_le_of_lt (kept_len _ _ _) hz, w3⟩⟩
end
end G

namespace G
open PySem PySem.Spec PyProof.Rows L2
section
variable {C : Ctx} {N : List Str} {sc : Scope} {fn : Str → Bool} {k : Nat} {J : Type} {X : J → Cx}
variable {Z : Hp} {E E' : List Cell} {O O1 O2 O3 O' : List Ob} {e a b c tg it : Expr} {es ifs : List Expr} {P : OP} {R R1 R2 R3 R' Ri Re : List Nat} {d d1 d2 d3 : PyData} {ds es1 src : List PyData} {pos p p2 pos' tp : Pos}
/-! ### comprehensions over one name, over two -/
def ER (Z : Hp) (E : List Cell) (O : List Ob) (te : TE) (d : PyData) (R : List Nat) (O' : List Ob) : Prop :=
  ∀ ρ π K σ H, Rel Z ρ π E O K σ H → ∀ Q : VK, (∀ v ρ' π' H', Rel Z ρ' π' E O' K σ H' → Go ρ π H ρ' π' H' → (dP d).p v (vis ρ' π' R H) H' → Q v H') → te σ H Q
theorem er_of (h : ED X Z E O e d R O') : ER Z E O (wE X e) d R O' := h
theorem ER.to {te : TE} (h : ER Z E O te d1 R O') (q : d1 = d2) : ER Z E O te d2 R O' := q ▸ h
theorem vis_flatL {v : V} {A B : Addr → Prop} {H : Hp} (h : Fd A H v (.list ds)) (hf : ds.all flatD = true) (hB : ∀ q o, v = .ref q → A q → H q = some o → B q) : Fd B H v (.list ds) := by
  cases h with
  | @lst q xs _ hA e q1 => exact .lst (hB q _ rfl hA e) e (q1.flat hf)
variable {α : Type} {l : List α} {g g1 g2 : α → PyData}
theorem lcR' {scope : Scope} {x : Str} {j : Nat} {pr : α → Bool} {f : α → PyData} (hx : SX C N sc fn k X) (nm : Nm N j x) (hl : Loc (relabS scope sc) x) (hf : (scope.names.lookup x == some .cell) = true ∨ (relabS scope sc).names.lookup x = some .local)
    (ok : blkC N sc scope [(x, j)] = true) (hi : EI X Z E O (.Name x tp) it (l.map g) Ri O1) (hO : noOb O1 [j] = true) (hz : l.length < sizeLine)
    (ht : ∀ a ∈ l, wfD (g a) → SX C N (relabS scope sc) (fun x => scope.names.lookup x == some .cell) k (Xb X scope) → ETs (Xb X scope) Z (E.set j (dc (g a) (rOf (g a) (900 :: Ri)))) O1 ifs (pr a) O1)
    (he : ∀ a ∈ l, pr a = true → wfD (g a) → SX C N (relabS scope sc) (fun x => scope.names.lookup x == some .cell) k (Xb X scope) → ED (Xb X scope) Z (E.set j (dc (g a) (rOf (g a) (900 :: Ri)))) O1 e (f a) Re O1) :
    ER Z E O (tLc (wI X (.Name x tp) it) (wG (Xb X scope) (.Name x tp)) (wTs (Xb X scope) ifs) (wE (Xb X scope) e) [j]) (.list ((l.filter pr).map f)) Re O1 := by
  have key := kept_map (l := l) (p := pr) (f := f) (fun n => match l[n]? with | some a => pr a | none => false) (fun n => match l[n]? with | some a => f a | none => .none) (fun n a h => by simp only [h]) (fun n a h => by simp only [h]) l.length (Nat.le_refl _)
  rw [List.take_length] at key
  have hset : ∀ a, setC (900 :: Ri) (wipeC E [j]) [j] [g a] = E.set j (dc (g a) (rOf (g a) (900 :: Ri))) := fun a => by
    show (E.set j none).set j _ = _
    rw [List.set_set]
  intro ρ π K σ H h Q q
  refine lc_core2 (Re := Re) (own := [(x, j)]) (w := 900) (hw0 := by decide) (un := un1) (pr := fun n => match l[n]? with | some a => pr a | none => false) (f := fun n => match l[n]? with | some a => f a | none => .none)
    hx hi ok (tg_name (hx.blk scope) nm hl hf) (fun n d _ => ⟨[d], rfl, rfl, fun w => ⟨w, trivial⟩⟩) hO (by rw [List.length_map]; exact hz) ?_ ?_ ρ π K σ H h Q ?_
  · intro n d es hd hu hw
    obtain ⟨a, ha, rfl⟩ := mapGet hd
    cases hu
    simp only [ha]
    show ETs (Xb X scope) Z (setC (900 :: Ri) (wipeC E [j]) [j] [g a]) O1 ifs (pr a) O1
    rw [hset]
    exact ht a (List.mem_of_getElem? ha) hw.1 (hx.blk scope)
  · intro n d es hd hu hw hp
    obtain ⟨a, ha, rfl⟩ := mapGet hd
    cases hu
    simp only [ha] at hp ⊢
    show ED (Xb X scope) Z (setC (900 :: Ri) (wipeC E [j]) [j] [g a]) O1 e (f a) Re O1
    rw [hset]
    exact he a (List.mem_of_getElem? ha) hp hw.1 (hx.blk scope)
  · rw [List.length_map, key]
    exact fun v ρ' π' H' a b c d => q v ρ' π' H' a b ⟨c, d⟩
theorem ee_lc {scope : Scope} {x : Str} {j : Nat} {pr : α → Bool} {f : α → PyData} (hx : SX C N sc fn k X) (nm : Nm N j x) (hl : Loc (relabS scope sc) x) (hf : (scope.names.lookup x == some .cell) = true ∨ (relabS scope sc).names.lookup x = some .local)
    (ok : blkC N sc scope [(x, j)] = true) (hi : EI X Z E O (.Name x tp) it (l.map g) Ri O1) (hO : noOb O1 [j] = true) (hz : l.length < sizeLine)
    (ht : ∀ a ∈ l, wfD (g a) → SX C N (relabS scope sc) (fun x => scope.names.lookup x == some .cell) k (Xb X scope) → ETs (Xb X scope) Z (E.set j (dc (g a) (rOf (g a) (900 :: Ri)))) O1 ifs (pr a) O1)
    (he : ∀ a ∈ l, pr a = true → wfD (g a) → SX C N (relabS scope sc) (fun x => scope.names.lookup x == some .cell) k (Xb X scope) → ED (Xb X scope) Z (E.set j (dc (g a) (rOf (g a) (900 :: Ri)))) O1 e (f a) Re O1)
    (hs : ∀ i x, foldedSetIterable it (X i).env x = pure x) :
    ED X Z E O (.ListComp e [⟨.Name x tp, it, ifs, 0⟩] scope pos) (.list ((l.filter pr).map f)) Re O1 := fun ρ π K σ H h Q q =>
  ⟨_, fun i => pe_lc (own := [(x, j)]) (hx.calm i) (by rw [hx.Nx i]; exact hx.nd) (pi_w _ it i) (by rw [hx.Nx i, hx.scx i]; exact blkOk_by ok) (fun s H C cl fp => pg_w (X := Xb X scope) _ (i, s, H, C, cl, fp)) (fun s H C cl fp => pts_w (X := Xb X scope) ifs (i, s, H, C, cl, fp)) (fun s H C cl fp => pe_w (X := Xb X scope) e (i, s, H, C, cl, fp)) (hs i),
    lcR' hx nm hl hf ok hi hO hz ht he ρ π K σ H h Q q⟩
theorem lcR0' {scope : Scope} {x : Str} {j : Nat} {f : α → PyData} (hx : SX C N sc fn k X) (nm : Nm N j x) (hl : Loc (relabS scope sc) x) (hf : (scope.names.lookup x == some .cell) = true ∨ (relabS scope sc).names.lookup x = some .local)
    (ok : blkC N sc scope [(x, j)] = true) (hi : EI X Z E O (.Name x tp) it (l.map g) Ri O1) (hO : noOb O1 [j] = true) (hz : l.length < sizeLine)
    (he : ∀ a ∈ l, wfD (g a) → SX C N (relabS scope sc) (fun x => scope.names.lookup x == some .cell) k (Xb X scope) → ED (Xb X scope) Z (E.set j (dc (g a) (rOf (g a) (900 :: Ri)))) O1 e (f a) Re O1) :
    ER Z E O (tLc (wI X (.Name x tp) it) (wG (Xb X scope) (.Name x tp)) (wTs (Xb X scope) []) (wE (Xb X scope) e) [j]) (.list (l.map f)) Re O1 := by
  have := lcR' (pr := fun _ => true) (f := f) hx nm hl hf ok hi hO hz (fun _ _ _ _ => ets_nil') (fun a ha _ => he a ha)
  rw [filterT] at this
  exact this
theorem ee_lc0 {scope : Scope} {x : Str} {j : Nat} {f : α → PyData} (hx : SX C N sc fn k X) (nm : Nm N j x) (hl : Loc (relabS scope sc) x) (hf : (scope.names.lookup x == some .cell) = true ∨ (relabS scope sc).names.lookup x = some .local)
    (ok : blkC N sc scope [(x, j)] = true) (hi : EI X Z E O (.Name x tp) it (l.map g) Ri O1) (hO : noOb O1 [j] = true) (hz : l.length < sizeLine)
    (he : ∀ a ∈ l, wfD (g a) → SX C N (relabS scope sc) (fun x => scope.names.lookup x == some .cell) k (Xb X scope) → ED (Xb X scope) Z (E.set j (dc (g a) (rOf (g a) (900 :: Ri)))) O1 e (f a) Re O1)
    (hs : ∀ i x, foldedSetIterable it (X i).env x = pure x) :
    ED X Z E O (.ListComp e [⟨.Name x tp, it, [], 0⟩] scope pos) (.list (l.map f)) Re O1 := by
  have := ee_lc (pos := pos) (pr := fun _ => true) (f := f) hx nm hl hf ok hi hO hz (fun _ _ _ _ => ets_nil') (fun a ha _ => he a ha) hs
  rw [filterT] at this
  exact this
theorem lcR2' {scope : Scope} {x y : Str} {i j : Nat} {pr : α → Bool} {f : α → PyData} {kk : Nat} {px py : Pos} (hx : SX C N sc fn k X) (nm : Nm N i x) (nm2 : Nm N j y) (hl : Loc (relabS scope sc) x) (hl2 : Loc (relabS scope sc) y) (hf : (scope.names.lookup x == some .cell) = true ∨ (relabS scope sc).names.lookup x = some .local) (hf2 : (scope.names.lookup y == some .cell) = true ∨ (relabS scope sc).names.lookup y = some .local)
    (ok : blkC N sc scope [(x, i), (y, j)] = true) (hi : EI X Z E O (.Tuple [.Name x px, .Name y py] kk tp) it (l.map fun a => .tuple [g1 a, g2 a]) Ri O1) (hO : noOb O1 [i, j] = true) (hz : l.length < sizeLine)
    (ht : ∀ a ∈ l, wfD (g1 a) → wfD (g2 a) → SX C N (relabS scope sc) (fun x => scope.names.lookup x == some .cell) k (Xb X scope) → ETs (Xb X scope) Z ((E.set i (dc (g1 a) (rOf (g1 a) (900 :: Ri)))).set j (dc (g2 a) (rOf (g2 a) (900 :: Ri)))) O1 ifs (pr a) O1)
    (he : ∀ a ∈ l, pr a = true → wfD (g1 a) → wfD (g2 a) → SX C N (relabS scope sc) (fun x => scope.names.lookup x == some .cell) k (Xb X scope) → ED (Xb X scope) Z ((E.set i (dc (g1 a) (rOf (g1 a) (900 :: Ri)))).set j (dc (g2 a) (rOf (g2 a) (900 :: Ri)))) O1 e (f a) Re O1) :
    ER Z E O (tLc (wI X (.Tuple [.Name x px, .Name y py] kk tp) it) (wG (Xb X scope) (.Tuple [.Name x px, .Name y py] kk tp)) (wTs (Xb X scope) ifs) (wE (Xb X scope) e) [i, j]) (.list ((l.filter pr).map f)) Re O1 := by
  have key := kept_map (l := l) (p := pr) (f := f) (fun n => match l[n]? with | some a => pr a | none => false) (fun n => match l[n]? with | some a => f a | none => .none) (fun n a h => by simp only [h]) (fun n a h => by simp only [h]) l.length (Nat.le_refl _)
  rw [List.take_length] at key
  have hset : ∀ a, setC (900 :: Ri) (wipeC E [i, j]) [i, j] [g1 a, g2 a] = (E.set i (dc (g1 a) (rOf (g1 a) (900 :: Ri)))).set j (dc (g2 a) (rOf (g2 a) (900 :: Ri))) := fun a => by
    show (((E.set j none).set i none).set i _).set j _ = _
    rw [List.set_set]
    by_cases h : i = j
    · subst h; rw [List.set_set, List.set_set, List.set_set]
    · rw [List.set_comm _ _ h, List.set_set, List.set_comm _ _ (Ne.symm h)]
  intro ρ π K σ H h Q q
  refine lc_core2 (Re := Re) (own := [(x, i), (y, j)]) (w := 900) (hw0 := by decide) (un := unT) (pr := fun n => match l[n]? with | some a => pr a | none => false) (f := fun n => match l[n]? with | some a => f a | none => .none)
    hx hi ok (tg_tup (hx.blk scope) (tgs_cons (hx.blk scope) nm hl hf (tgs_cons (hx.blk scope) nm2 hl2 hf2 tgs_nil))) (fun n d hd => by
      obtain ⟨a, ha, rfl⟩ := mapGet hd
      exact ⟨_, rfl, rfl, fun w => w.2⟩) hO (by rw [List.length_map]; exact hz) ?_ ?_ ρ π K σ H h Q ?_
  · intro n d es hd hu hw
    obtain ⟨a, ha, rfl⟩ := mapGet hd
    cases hu
    simp only [ha]
    show ETs (Xb X scope) Z (setC (900 :: Ri) (wipeC E [i, j]) [i, j] [g1 a, g2 a]) O1 ifs (pr a) O1
    rw [hset]
    exact ht a (List.mem_of_getElem? ha) hw.1 hw.2.1 (hx.blk scope)
  · intro n d es hd hu hw hp
    obtain ⟨a, ha, rfl⟩ := mapGet hd
    cases hu
    simp only [ha] at hp ⊢
    show ED (Xb X scope) Z (setC (900 :: Ri) (wipeC E [i, j]) [i, j] [g1 a, g2 a]) O1 e (f a) Re O1
    rw [hset]
    exact he a (List.mem_of_getElem? ha) hp hw.1 hw.2.1 (hx.blk scope)
  · rw [List.length_map, key]
    exact fun v ρ' π' H' a b c d => q v ρ' π' H' a b ⟨c, d⟩
theorem ee_lc2 {scope : Scope} {x y : Str} {i j : Nat} {pr : α → Bool} {f : α → PyData} {kk : Nat} {px py : Pos} (hx : SX C N sc fn k X) (nm : Nm N i x) (nm2 : Nm N j y) (hl : Loc (relabS scope sc) x) (hl2 : Loc (relabS scope sc) y) (hf : (scope.names.lookup x == some .cell) = true ∨ (relabS scope sc).names.lookup x = some .local) (hf2 : (scope.names.lookup y == some .cell) = true ∨ (relabS scope sc).names.lookup y = some .local)
    (ok : blkC N sc scope [(x, i), (y, j)] = true) (hi : EI X Z E O (.Tuple [.Name x px, .Name y py] kk tp) it (l.map fun a => .tuple [g1 a, g2 a]) Ri O1) (hO : noOb O1 [i, j] = true) (hz : l.length < sizeLine)
    (ht : ∀ a ∈ l, wfD (g1 a) → wfD (g2 a) → SX C N (relabS scope sc) (fun x => scope.names.lookup x == some .cell) k (Xb X scope) → ETs (Xb X scope) Z ((E.set i (dc (g1 a) (rOf (g1 a) (900 :: Ri)))).set j (dc (g2 a) (rOf (g2 a) (900 :: Ri)))) O1 ifs (pr a) O1)
    (he : ∀ a ∈ l, pr a = true → wfD (g1 a) → wfD (g2 a) → SX C N (relabS scope sc) (fun x => scope.names.lookup x == some .cell) k (Xb X scope) → ED (Xb X scope) Z ((E.set i (dc (g1 a) (rOf (g1 a) (900 :: Ri)))).set j (dc (g2 a) (rOf (g2 a) (900 :: Ri)))) O1 e (f a) Re O1)
    (hs : ∀ i x, foldedSetIterable it (X i).env x = pure x) :
    ED X Z E O (.ListComp e [⟨.Tuple [.Name x px, .Name y py] kk tp, it, ifs, 0⟩] scope pos) (.list ((l.filter pr).map f)) Re O1 := fun ρ π K σ H h Q q =>
  ⟨_, fun n => pe_lc (own := [(x, i), (y, j)]) (hx.calm n) (by rw [hx.Nx n]; exact hx.nd) (pi_w _ it n) (by rw [hx.Nx n, hx.scx n]; exact blkOk_by ok) (fun s H C cl fp => pg_w (X := Xb X scope) _ (n, s, H, C, cl, fp)) (fun s H C cl fp => pts_w (X := Xb X scope) ifs (n, s, H, C, cl, fp)) (fun s H C cl fp => pe_w (X := Xb X scope) e (n, s, H, C, cl, fp)) (hs n),
    lcR2' hx nm nm2 hl hl2 hf hf2 ok hi hO hz ht he ρ π K σ H h Q q⟩
theorem lcR20' {scope : Scope} {x y : Str} {i j : Nat} {f : α → PyData} {kk : Nat} {px py : Pos} (hx : SX C N sc fn k X) (nm : Nm N i x) (nm2 : Nm N j y) (hl : Loc (relabS scope sc) x) (hl2 : Loc (relabS scope sc) y) (hf : (scope.names.lookup x == some .cell) = true ∨ (relabS scope sc).names.lookup x = some .local) (hf2 : (scope.names.lookup y == some .cell) = true ∨ (relabS scope sc).names.lookup y = some .local)
    (ok : blkC N sc scope [(x, i), (y, j)] = true) (hi : EI X Z E O (.Tuple [.Name x px, .Name y py] kk tp) it (l.map fun a => .tuple [g1 a, g2 a]) Ri O1) (hO : noOb O1 [i, j] = true) (hz : l.length < sizeLine)
    (he : ∀ a ∈ l, wfD (g1 a) → wfD (g2 a) → SX C N (relabS scope sc) (fun x => scope.names.lookup x == some .cell) k (Xb X scope) → ED (Xb X scope) Z ((E.set i (dc (g1 a) (rOf (g1 a) (900 :: Ri)))).set j (dc (g2 a) (rOf (g2 a) (900 :: Ri)))) O1 e (f a) Re O1) :
    ER Z E O (tLc (wI X (.Tuple [.Name x px, .Name y py] kk tp) it) (wG (Xb X scope) (.Tuple [.Name x px, .Name y py] kk tp)) (wTs (Xb X scope) []) (wE (Xb X scope) e) [i, j]) (.list (l.map f)) Re O1 := by
  have := lcR2' (pr := fun _ => true) (f := f) hx nm nm2 hl hl2 hf hf2 ok hi hO hz (fun _ _ _ _ _ => ets_nil') (fun a ha _ => he a ha)
  rw [filterT] at this
  exact this
theorem ee_lc20 {scope : Scope} {x y : Str} {i j : Nat} {f : α → PyData} {kk : Nat} {px py : Pos} (hx : SX C N sc fn k X) (nm : Nm N i x) (nm2 : Nm N j y) (hl : Loc (relabS scope sc) x) (hl2 : Loc (relabS scope sc) y) (hf : (scope.names.lookup x == some .cell) = true ∨ (relabS scope sc).names.lookup x = some .local) (hf2 : (scope.names.lookup y == some .cell) = true ∨ (relabS scope sc).names.lookup y = some .local)
    (ok : blkC N sc scope [(x, i), (y, j)] = true) (hi : EI X Z E O (.Tuple [.Name x px, .Name y py] kk tp) it (l.map fun a => .tuple [g1 a, g2 a]) Ri O1) (hO : noOb O1 [i, j] = true) (hz : l.length < sizeLine)
    (he : ∀ a ∈ l, wfD (g1 a) → wfD (g2 a) → SX C N (relabS scope sc) (fun x => scope.names.lookup x == some .cell) k (Xb X scope) → ED (Xb X scope) Z ((E.set i (dc (g1 a) (rOf (g1 a) (900 :: Ri)))).set j (dc (g2 a) (rOf (g2 a) (900 :: Ri)))) O1 e (f a) Re O1)
    (hs : ∀ i x, foldedSetIterable it (X i).env x = pure x) :
    ED X Z E O (.ListComp e [⟨.Tuple [.Name x px, .Name y py] kk tp, it, [], 0⟩] scope pos) (.list (l.map f)) Re O1 := by
  have := ee_lc2 (pos := pos) (pr := fun _ => true) (f := f) hx nm nm2 hl hl2 hf hf2 ok hi hO hz (fun _ _ _ _ _ => ets_nil') (fun a ha _ => he a ha) hs
  rw [filterT] at this
  exact this
end
/-! ### statements -/
structure Po where
  nx : List Cell → List Ob → Prop
  rt : OP → List Nat → List Cell → List Ob → Prop
  bk : List Cell → List Ob → Prop := fun _ _ => False
  ct : List Cell → List Ob → Prop := fun _ _ => False
structure Meets (Z : Hp) (K : Held) (q : Po) (D : Ends) : Prop where
  nx : ∀ σ H ρ π E O, q.nx E O → Rel Z ρ π E O K σ H → D.nx σ H
  rt : ∀ v σ H ρ π E O P R, q.rt P R E O → Rel Z ρ π E O K σ H → P.p v (fun a => col ρ R a ∨ (Z a = none ∧ (∀ r, ¬ρ r a) ∧ ∀ s, ¬π s a)) H → D.rt v H
  bk : ∀ σ H ρ π E O, q.bk E O → Rel Z ρ π E O K σ H → D.bk σ H
  ct : ∀ σ H ρ π E O, q.ct E O → Rel Z ρ π E O K σ H → D.ct σ H
def Kok (B : Nat → Bool) (K : Held) : Prop := ∀ k ∈ K, ∀ r ∈ k.2.2, B r = false
def SB {J : Type} (X : J → Cx) (Z : Hp) (B : Nat → Bool) (E : List Cell) (O : List Ob) (sts : List Stmt) (q : Po) : Prop :=
  ∀ K, Kok B K → ∀ D : Ends, Meets Z K q D → ∀ ρ π σ H, Rel Z ρ π E O K σ H → wB X sts D σ H
def bar (B : Nat → Bool) (R : List Nat) : Nat → Bool := fun r => B r && !R.contains r
theorem Kok.bar {B : Nat → Bool} {K : Held} {R : List Nat} {v : V} {P : OP} (h : Kok B K) : Kok (bar B R) ((v, P, R) :: K) := fun k hk r hr => by
  unfold G.bar
  rcases List.mem_cons.mp hk with e | hk
  · subst e
    have : R.contains r = true := by simpa using hr
    rw [this]; simp
  · rw [h k hk r hr]; rfl
theorem Meets.next {J : Type} {X : J → Cx} {Z : Hp} {B : Nat → Bool} {K : Held} {q : Po} {D : Ends} {rest : List Stmt} (hK : Kok B K) (m : Meets Z K q D) : Meets Z K { q with nx := fun E O => SB X Z B E O rest q } { D with nx := wB X rest D } :=
  ⟨fun σ H ρ π E O h r => h K hK D m ρ π σ H r, m.rt, m.bk, m.ct⟩
section
variable {C : Ctx} {N : List Str} {sc : Scope} {fn : Str → Bool} {k : Nat} {J : Type} {X : J → Cx}
variable {Z : Hp} {B : Nat → Bool} {E E' : List Cell} {O O1 O2 O3 O' : List Ob} {e a b c tg it : Expr} {es ifs : List Expr} {P : OP} {R R1 R2 R3 R' Ri Re Rs Rv : List Nat} {d d1 d2 d3 : PyData} {ds es1 src : List PyData} {pos p p2 pos' tp : Pos}
variable {q : Po} {st : Stmt} {rest body other : List Stmt} {te : TE} {j r0 w : Nat} {x : Str}
theorem sb_nil (h : q.nx E O) : SB X Z B E O [] q := fun K hK D m ρ π σ H r => ⟨_, fun i => pss_nil, m.nx σ H ρ π E O h r⟩
/-- the end of a branch -/
theorem sb_on (h : SB X Z B E O rest q) : SB X Z B E O [] { q with nx := fun E O => SB X Z B E O rest q } := sb_nil h
theorem sb_set (hps : ∀ i, PS (X i) st (tAsg te (gName j))) (he : ER Z E O te d R O') (hO : noOb O' [j] = true) (k : SB X Z B (E.set j (dc d (rOf d ((j + 1) :: R)))) O' rest q) : SB X Z B E O (st :: rest) q := fun K hK D m ρ π σ H h =>
  wB_cons ⟨_, hps, he ρ π K σ H h _ fun v ρ1 π1 H1 h1 g1 r => by
    have h2 := h1.paint (w := j + 1) (H := H) (Nat.succ_ne_zero _) fun a e => h.keep.free e
    have r2 := dP_rOf (r.1.cut fun a o ha e => ⟨e, vis_paint (w := j + 1) ha e⟩) r.2
    exact k K hK D m _ _ _ _ (h2.set (fun o ho => by have := noOb.ne hO ho; simpa using this) r2)⟩
theorem sb_ret (he : EE X Z E O e P R O') (k : q.rt P R E O') : SB X Z B E O (.Return (some e) pos :: rest) q := fun K hK D m ρ π σ H h =>
  wB_cons ⟨_, fun i => ps_ret (pe_w e i), he ρ π K σ H h _ fun v ρ1 π1 H1 h1 g1 r => m.rt v σ H1 ρ1 π1 E O' P R k h1 (P.loc (fun a o ha e => ⟨e, ha.elim .inl fun z => .inr ⟨h.keep.free z.1, z.2⟩⟩) r)⟩
theorem sb_drop (he : EE X Z E O e P R O') (hs : ∀ i, swapsWith e none pos.line (X i).env = pure false) (k : SB X Z B E O' rest q) : SB X Z B E O (.Expr e pos :: rest) q := fun K hK D m ρ π σ H h =>
  wB_cons ⟨_, fun i => ps_expr (pe_w e i) (hs i), he ρ π K σ H h _ fun v ρ1 π1 H1 h1 g1 r => k K hK D m _ _ _ _ h1⟩
theorem sb_if {b : Bool} (hc : ET X Z E O c b O1) (h1 : b = true → SB X Z B E O1 body { q with nx := fun E O => SB X Z B E O rest q }) (h2 : b = false → SB X Z B E O1 other { q with nx := fun E O => SB X Z B E O rest q }) : SB X Z B E O (.If c body other pos :: rest) q := fun K hK D m ρ π σ H h =>
  wB_cons ⟨_, fun i => ps_if (pt_w c i) (pb_w body i) (pb_w other i), hc ρ π K σ H h _ fun ρ1 π1 H1 hh1 g1 => by
    cases b with
    | true => exact iteT (h1 rfl K hK _ (m.next hK) _ _ _ _ hh1)
    | false => exact iteF (h2 rfl K hK _ (m.next hK) _ _ _ _ hh1)⟩
theorem sb_ifT {b : Bool} (hc : ET X Z E O c b O1) (hb : b = true) (h1 : SB X Z B E O1 body { q with nx := fun E O => SB X Z B E O rest q }) : SB X Z B E O (.If c body other pos :: rest) q := by
  subst hb; exact sb_if hc (fun _ => h1) fun h => nomatch h
theorem sb_ifF {b : Bool} (hc : ET X Z E O c b O1) (hb : b = false) (h1 : SB X Z B E O1 other { q with nx := fun E O => SB X Z B E O rest q }) : SB X Z B E O (.If c body other pos :: rest) q := by
  subst hb; exact sb_if hc (fun h => nomatch h) fun _ => h1
theorem sb_skip {b : Bool} (hc : ET X Z E O c b O1) (hb : b = false) (h1 : SB X Z B E O1 rest q) : SB X Z B E O (.If c body [] pos :: rest) q := sb_ifF hc hb (sb_on h1)
theorem SB.post {q' : Po} (h : SB X Z B E O body q) (h1 : ∀ E O, q.nx E O → q'.nx E O) (h2 : ∀ P R E O, q.rt P R E O → q'.rt P R E O) (h3 : ∀ E O, q.bk E O → q'.bk E O) (h4 : ∀ E O, q.ct E O → q'.ct E O) : SB X Z B E O body q' :=
  fun K hK D m => h K hK D ⟨fun σ H ρ π E O x r => m.nx σ H ρ π E O (h1 E O x) r, fun v σ H ρ π E O P R x r => m.rt v σ H ρ π E O P R (h2 P R E O x) r, fun σ H ρ π E O x r => m.bk σ H ρ π E O (h3 E O x) r, fun σ H ρ π E O x r => m.ct σ H ρ π E O (h4 E O x) r⟩
/-- an if behind which both ways meet -/
theorem sb_ifJ {b : Bool} (I : List Cell → List Ob → Prop) (hc : ET X Z E O c b O1) (h1 : b = true → SB X Z B E O1 body { q with nx := I }) (h2 : b = false → SB X Z B E O1 other { q with nx := I }) (hk : ∀ E O, I E O → SB X Z B E O rest q) : SB X Z B E O (.If c body other pos :: rest) q :=
  sb_if hc (fun h => (h1 h).post hk (fun _ _ _ _ h => h) (fun _ _ h => h) fun _ _ h => h) fun h => (h2 h).post hk (fun _ _ _ _ h => h) (fun _ _ h => h) fun _ _ h => h
theorem sb_cont (h : q.ct E O) : SB X Z B E O (.Continue pos :: rest) q := fun K hK D m ρ π σ H r => wB_cons ⟨_, fun i => ps_continue, m.ct σ H ρ π E O h r⟩
/-- a, b = e -/
theorem sb_unpack {is : List Nat} {un : PyData → Option (List PyData)} (tgd : TgD X tg is un) (he : ED X Z E O e d R O') (hu : un d = some ds) (hl : ds.length = is.length) (hw : wfD d → wfA ds) (hO : noOb O' is = true)
    (kk : SB X Z B (setC ((w + 1) :: R) E is ds) O' rest q) (hs : ∀ i, swapsWithSole [tg] e pos.line (X i).env = pure false) (hsw : ∀ i, swappedStores [tg] e (X i).env = pure none)
    (h1 : ∀ i, (assignEach [tg] (X i).env).map (·.2) = [assign tg (X i).env]) : SB X Z B E O (.Assign [tg] e pos :: rest) q := fun K hK D m ρ π σ H h =>
  wB_cons ⟨_, fun i => ps_asg (pe_w e i) (pg_w tg i) (hs i) (hsw i) (h1 i), he ρ π K σ H h _ fun v ρ1 π1 H1 hh1 g1 r => by
    have h2 := hh1.paint (w := w + 1) (H := H) (Nat.succ_ne_zero _) fun a e => h.keep.free e
    have r2 := r.1.cut fun a o ha e => ⟨e, vis_paint (w := w + 1) ha e⟩
    exact tgd _ H1 H1 v d ds σ _ (Same.refl _) r2 hu hl fun vs rv => kk K hK D m _ _ _ _ (Rel.setC h2 (fun o ho => noOb.ne hO ho) rv (hw r.2))⟩
theorem sb_unpack2 {x y : Str} {i j kk : Nat} {px py : Pos} (hx : SX C N sc fn k X) (nm : Nm N i x) (nm2 : Nm N j y) (hl : Loc sc x) (hl2 : Loc sc y) (hf : fn x = true ∨ sc.names.lookup x = some .local) (hf2 : fn y = true ∨ sc.names.lookup y = some .local) (he : ED X Z E O e (.tuple [d1, d2]) R O') (hO : noOb O' [i, j] = true)
    (kn : SB X Z B ((E.set i (dc d1 (rOf d1 ((i + 1) :: R)))).set j (dc d2 (rOf d2 ((i + 1) :: R)))) O' rest q) (hs : ∀ i', swapsWithSole [.Tuple [.Name x px, .Name y py] kk tp] e pos.line (X i').env = pure false) (hw : ∀ i', swappedStores [.Tuple [.Name x px, .Name y py] kk tp] e (X i').env = pure none)
    (h1 : ∀ i', (assignEach [.Tuple [.Name x px, .Name y py] kk tp] (X i').env).map (·.2) = [assign (.Tuple [.Name x px, .Name y py] kk tp) (X i').env]) : SB X Z B E O (.Assign [.Tuple [.Name x px, .Name y py] kk tp] e pos :: rest) q :=
  sb_unpack (w := i) (is := [i, j]) (un := unT) (tg_tup hx (tgs_cons hx nm hl hf (tgs_cons hx nm2 hl2 hf2 tgs_nil))) he rfl rfl (fun w => w.2) hO kn hs hw h1
theorem sb_unpack3 {x y z : Str} {i j m kk : Nat} {px py pz : Pos} (hx : SX C N sc fn k X) (nm : Nm N i x) (nm2 : Nm N j y) (nm3 : Nm N m z) (hl : Loc sc x) (hl2 : Loc sc y) (hl3 : Loc sc z) (hf : fn x = true ∨ sc.names.lookup x = some .local) (hf2 : fn y = true ∨ sc.names.lookup y = some .local) (hf3 : fn z = true ∨ sc.names.lookup z = some .local) (he : ED X Z E O e (.tuple [d1, d2, d3]) R O') (hO : noOb O' [i, j, m] = true)
    (kn : SB X Z B (((E.set i (dc d1 (rOf d1 ((i + 1) :: R)))).set j (dc d2 (rOf d2 ((i + 1) :: R)))).set m (dc d3 (rOf d3 ((i + 1) :: R)))) O' rest q) (hs : ∀ i', swapsWithSole [.Tuple [.Name x px, .Name y py, .Name z pz] kk tp] e pos.line (X i').env = pure false) (hw : ∀ i', swappedStores [.Tuple [.Name x px, .Name y py, .Name z pz] kk tp] e (X i').env = pure none)
    (h1 : ∀ i', (assignEach [.Tuple [.Name x px, .Name y py, .Name z pz] kk tp] (X i').env).map (·.2) = [assign (.Tuple [.Name x px, .Name y py, .Name z pz] kk tp) (X i').env]) : SB X Z B E O (.Assign [.Tuple [.Name x px, .Name y py, .Name z pz] kk tp] e pos :: rest) q :=
  sb_unpack (w := i) (is := [i, j, m]) (un := unT) (tg_tup hx (tgs_cons hx nm hl hf (tgs_cons hx nm2 hl2 hf2 (tgs_cons hx nm3 hl3 hf3 tgs_nil)))) he rfl rfl (fun w => w.2) hO kn hs hw h1
/-- a, b = e1, e2 -/
theorem sb_par {x y : Str} {i j : Nat} {px py pt : Pos} {kt k2 : Nat} {pt2 : Pos} (hx : SX C N sc fn k X) (nm : Nm N i x) (nm2 : Nm N j y) (hij : i ≠ j) (hl : sc.names.lookup x = some .local) (hl2 : sc.names.lookup y = some .local) (ha : EA X Z E O [a, b] [d1, d2] R O') (hO : noOb O' [i, j] = true)
    (kk : SB X Z B ((E.set i (dc d1 (rOf d1 ((i + 1) :: R)))).set j (dc d2 (rOf d2 ((i + 1) :: R)))) O' rest q)
    (hw : ∀ i, swappedStores [.Tuple [.Name x px, .Name y py] kt pt] (.Tuple [a, b] k2 pt2) (X i).env = pure (some [x, y]))
    (hs : ∀ i, swapsWithSole [.Tuple [.Name x px, .Name y py] kt pt] (.Tuple [a, b] k2 pt2) pos.line (X i).env = pure false) :
    SB X Z B E O (.Assign [.Tuple [.Name x px, .Name y py] kt pt] (.Tuple [a, b] k2 pt2) pos :: rest) q := fun K hK D m ρ π σ H h =>
  wB_cons ⟨_, fun n => ps_par (hx.calm n) (by rw [hx.Nx n]; exact hx.nd) (by rw [hx.Nx n]; exact nm.at_) (by rw [hx.Nx n]; exact nm2.at_) hij (by rw [hx.scx n]; exact hl) (by rw [hx.scx n]; exact hl2) (pa_w [a, b] n) (hw n) (hs n),
    ha ρ π K σ H h _ fun vs ρ1 π1 H1 h1 g1 r w => by
      have h2 := h1.paint (w := i + 1) (H := H) (Nat.succ_ne_zero _) fun a e => h.keep.free e
      have r2 := r.cut fun a o ha e => ⟨e, vis_paint (w := i + 1) ha e⟩
      obtain ⟨v1, v2, rfl, _, _⟩ := r.two
      exact ⟨v1, v2, rfl, kk K hK D m _ _ _ _ (Rel.setC (is := [i, j]) (ds := [d1, d2]) (vs := [v1, v2]) (E := E) (σ := σ) h2 (fun o ho => noOb.ne hO ho) r2 w)⟩⟩
/-! loops -/
theorem sb_for {is : List Nat} {un : PyData → Option (List PyData)} (hx : SX C N sc fn k X) (hi : EI X Z E O tg it src Ri O1) (tgd : TgD X tg is un) (hun : ∀ (n : Nat) d, src[n]? = some d → ∃ es, un d = some es ∧ es.length = is.length ∧ (wfD d → wfA es))
    (I : Nat → List Cell → List Ob → Prop) (h0 : I 0 E O1)
    (hs : ∀ (n : Nat) d es E O, src[n]? = some d → un d = some es → wfA es → I n E O → noOb O is = true ∧
      SB X Z (bar B ((w + 1) :: Ri)) (setC ((w + 1) :: Ri) E is es) O body { nx := I (n + 1), ct := I (n + 1), rt := q.rt, bk := fun E O => SB X Z B E O rest q })
    (hd : ∀ E O, I src.length E O → SB X Z B E O rest q) (hst : ∀ i x, foldedSetIterable it (X i).env x = pure x) :
    SB X Z B E O (.For tg it body [] pos :: rest) q := fun K hK D m ρ π σ H h =>
  wB_cons ⟨_, fun i => ps_for (by rw [hx.xe i]; exact PassesOwn.never) (hx.calm i) (pi_w tg it i) (pg_w tg i) (pb_w body i) (hst i), hi ρ π K σ H h _ fun Jt sv SP ρ1 π1 H1 h1 g1 rs hsrc => by
    have h2 := h1.paint (w := w + 1) (H := H) (Nat.succ_ne_zero _) fun a e => h.keep.free e
    have rs2 : SP.p sv (col (paint ρ1 π1 (w + 1) H H1) ((w + 1) :: Ri)) H1 := SP.loc (fun a o ha e => ⟨e, vis_paint ha e⟩) rs
    have h3 := h2.hold rs2
    refine ⟨fun i m σ H => m = src.length - i ∧ i ≤ src.length ∧ ∃ ρ π E O, Rel Z ρ π E O ((sv, SP, (w + 1) :: Ri) :: K) σ H ∧ I i E O, ⟨src.length, by simp, Nat.zero_le _, _, _, _, _, h3, h0⟩, ?_⟩
    rintro i mm σ H3 ⟨rfl, hi', ρ3, π3, E3, O3, r3, p3⟩
    have hold3 := r3.held (sv, SP, (w + 1) :: Ri) List.mem_cons_self
    obtain ⟨s1, s2, s3⟩ := hsrc _ H3 i hold3
    by_cases hlt : i < src.length
    · refine .inr ⟨s1 hlt, fun σ' H' => ∃ ρ π E O, Rel Z ρ π E O ((sv, SP, (w + 1) :: Ri) :: K) σ' H' ∧ I (i + 1) E O, fun σ' H' hh => ⟨src.length - (i + 1), by omega, rfl, hlt, hh⟩, fun x H4 hy => ?_⟩
      obtain ⟨sm, d, hd', rx, wd⟩ := s3 x H4 hlt hy
      obtain ⟨es, hu, hl, hwf⟩ := hun i d hd'
      obtain ⟨hO, hb⟩ := hs i d es E3 O3 hd' hu (hwf wd) p3
      have r4 := r3.same sm
      have r5 := r4.paint (w := w + 1) (H := H3) (Nat.succ_ne_zero _) fun a e => r3.keep.free e
      have rx5 : Fd (col (paint ρ3 π3 (w + 1) H3 H4) ((w + 1) :: Ri)) H4 x d := rx.cut fun a o ha e => ⟨e, by
        rcases ha with ha | ha
        · exact col_up (fun _ _ h => .inl h) ha
        · exact ⟨w + 1, List.mem_cons_self, .inr ⟨rfl, ha, (by rw [e]; exact fun z => nomatch z), fun r c => r3.lr r a c ha, fun s c => r3.lp s a c ha⟩⟩⟩
      refine tgd _ H4 H4 x d es _ _ (Same.refl _) rx5 hu hl fun vs rv => ?_
      refine hb _ hK.bar _ ⟨?_, ?_, ?_, ?_⟩ _ _ _ _ (Rel.setC r5 (fun o ho => noOb.ne hO ho) rv (hwf wd))
      · exact fun σ H ρ π E O x r => ⟨ρ, π, E, O, r, x⟩
      · exact fun v σ H ρ π E O P R x r => m.rt v σ H ρ π E O P R x r.drop
      · exact fun σ H ρ π E O x r => x K hK D m ρ π σ H r.drop
      · exact fun σ H ρ π E O x r => ⟨ρ, π, E, O, r, x⟩
    · have he' : i = src.length := by omega
      subst he'
      exact .inl ⟨s2 (Nat.le_refl _), hd E3 O3 p3 K hK D m ρ3 π3 σ H3 r3.drop⟩⟩
variable {α : Type} {l : List α} {g g1 g2 g3 : α → PyData}
theorem sb_for1 {x : Str} {j : Nat} (I : Nat → List Cell → List Ob → Prop) (hx : SX C N sc fn k X) (nm : Nm N j x) (hl : Loc sc x) (hf : fn x = true ∨ sc.names.lookup x = some .local) (hi : EI X Z E O (.Name x tp) it (l.map g) Ri O1)
    (h0 : I 0 E O1)
    (hs : ∀ (n : Nat) a E O, l[n]? = some a → wfD (g a) → I n E O → noOb O [j] = true ∧ SB X Z (bar B ((w + 1) :: Ri)) (E.set j (dc (g a) (rOf (g a) ((w + 1) :: Ri)))) O body { nx := I (n + 1), ct := I (n + 1), rt := q.rt, bk := fun E O => SB X Z B E O rest q })
    (hd : ∀ E O, I l.length E O → SB X Z B E O rest q) (hst : ∀ i x, foldedSetIterable it (X i).env x = pure x) :
    SB X Z B E O (.For (.Name x tp) it body [] pos :: rest) q := by
  refine sb_for (w := w) (is := [j]) (un := un1) hx hi (tg_name hx nm hl hf) (fun n d _ => ⟨[d], rfl, rfl, fun w => ⟨w, trivial⟩⟩) I h0 (fun n d es E O hd' hu we hp => ?_) (fun E O hp => ?_) hst
  · cases hu
    obtain ⟨a, ha, rfl⟩ := mapGet hd'
    exact hs n a E O ha we.1 hp
  · rw [List.length_map] at hp
    exact hd E O hp
theorem sb_for2 {x y : Str} {i j kk : Nat} {px py : Pos} (I : Nat → List Cell → List Ob → Prop) (hx : SX C N sc fn k X) (nm : Nm N i x) (nm2 : Nm N j y) (hl : Loc sc x) (hl2 : Loc sc y) (hf : fn x = true ∨ sc.names.lookup x = some .local) (hf2 : fn y = true ∨ sc.names.lookup y = some .local)
    (hi : EI X Z E O (.Tuple [.Name x px, .Name y py] kk tp) it (l.map fun a => .tuple [g1 a, g2 a]) Ri O1)
    (h0 : I 0 E O1)
    (hs : ∀ (n : Nat) a E O, l[n]? = some a → wfD (g1 a) → wfD (g2 a) → I n E O → noOb O [i, j] = true ∧ SB X Z (bar B ((w + 1) :: Ri)) ((E.set i (dc (g1 a) (rOf (g1 a) ((w + 1) :: Ri)))).set j (dc (g2 a) (rOf (g2 a) ((w + 1) :: Ri)))) O body { nx := I (n + 1), ct := I (n + 1), rt := q.rt, bk := fun E O => SB X Z B E O rest q })
    (hd : ∀ E O, I l.length E O → SB X Z B E O rest q) (hst : ∀ i x, foldedSetIterable it (X i).env x = pure x) :
    SB X Z B E O (.For (.Tuple [.Name x px, .Name y py] kk tp) it body [] pos :: rest) q := by
  refine sb_for (w := w) (is := [i, j]) (un := unT) hx hi (tg_tup hx (tgs_cons hx nm hl hf (tgs_cons hx nm2 hl2 hf2 tgs_nil))) (fun n d hd => ?_) I h0 (fun n d es E O hd' hu we hp => ?_) (fun E O hp => ?_) hst
  · obtain ⟨a, _, rfl⟩ := mapGet hd
    exact ⟨_, rfl, rfl, fun w => w.2⟩
  · obtain ⟨a, ha, rfl⟩ := mapGet hd'
    cases hu
    exact hs n a E O ha we.1 we.2.1 hp
  · rw [List.length_map] at hp
    exact hd E O hp
theorem sb_for3 {x y z : Str} {i j m kk : Nat} {px py pz : Pos} (I : Nat → List Cell → List Ob → Prop) (hx : SX C N sc fn k X) (nm : Nm N i x) (nm2 : Nm N j y) (nm3 : Nm N m z) (hl : Loc sc x) (hl2 : Loc sc y) (hl3 : Loc sc z) (hf : fn x = true ∨ sc.names.lookup x = some .local) (hf2 : fn y = true ∨ sc.names.lookup y = some .local) (hf3 : fn z = true ∨ sc.names.lookup z = some .local)
    (hi : EI X Z E O (.Tuple [.Name x px, .Name y py, .Name z pz] kk tp) it (l.map fun a => .tuple [g1 a, g2 a, g3 a]) Ri O1)
    (h0 : I 0 E O1)
    (hs : ∀ (n : Nat) a E O, l[n]? = some a → wfD (g1 a) → wfD (g2 a) → wfD (g3 a) → I n E O → noOb O [i, j, m] = true ∧ SB X Z (bar B ((w + 1) :: Ri)) (((E.set i (dc (g1 a) (rOf (g1 a) ((w + 1) :: Ri)))).set j (dc (g2 a) (rOf (g2 a) ((w + 1) :: Ri)))).set m (dc (g3 a) (rOf (g3 a) ((w + 1) :: Ri)))) O body { nx := I (n + 1), ct := I (n + 1), rt := q.rt, bk := fun E O => SB X Z B E O rest q })
    (hd : ∀ E O, I l.length E O → SB X Z B E O rest q) (hst : ∀ i x, foldedSetIterable it (X i).env x = pure x) :
    SB X Z B E O (.For (.Tuple [.Name x px, .Name y py, .Name z pz] kk tp) it body [] pos :: rest) q := by
  refine sb_for (w := w) (is := [i, j, m]) (un := unT) hx hi (tg_tup hx (tgs_cons hx nm hl hf (tgs_cons hx nm2 hl2 hf2 (tgs_cons hx nm3 hl3 hf3 tgs_nil)))) (fun n d hd => ?_) I h0 (fun n d es E O hd' hu we hp => ?_) (fun E O hp => ?_) hst
  · obtain ⟨a, _, rfl⟩ := mapGet hd
    exact ⟨_, rfl, rfl, fun w => w.2⟩
  · obtain ⟨a, ha, rfl⟩ := mapGet hd'
    cases hu
    exact hs n a E O ha we.1 we.2.1 we.2.2.1 hp
  · rw [List.length_map] at hp
    exact hd E O hp
theorem sb_while (hx : SX C N sc fn k X) (I : Nat → List Cell → List Ob → Prop) {m0 : Nat} (h0 : I m0 E O)
    (hs : ∀ m E O, I m E O → ∃ b O2, ET X Z E O c b O2 ∧ (b = true → SB X Z B E O2 body { nx := fun E O => ∃ m', m' < m ∧ I m' E O, ct := fun E O => ∃ m', m' < m ∧ I m' E O, rt := q.rt, bk := fun E O => SB X Z B E O rest q }) ∧ (b = false → SB X Z B E O2 rest q)) :
    SB X Z B E O (.While c body [] pos :: rest) q := fun K hK D m ρ π σ H h =>
  wB_cons ⟨_, fun i => ps_while (by rw [hx.xe i]; exact PassesOwn.never) (pt_w c i) (pb_w body i), by
    refine ⟨fun n σ H => ∃ ρ π E O, Rel Z ρ π E O K σ H ∧ I n E O, ⟨m0, ρ, π, E, O, h, h0⟩, ?_⟩
    rintro n σ H3 ⟨ρ3, π3, E3, O3, r3, p3⟩
    obtain ⟨b, O2, hc, ht, hf⟩ := hs n E3 O3 p3
    refine hc ρ3 π3 K σ H3 r3 _ fun ρ4 π4 H4 r4 g4 => ?_
    cases b with
    | false => exact iteF (hf rfl K hK D m _ _ _ _ r4)
    | true =>
      refine iteT ⟨fun σ' H' => ∃ ρ π E O, Rel Z ρ π E O K σ' H' ∧ ∃ m', m' < n ∧ I m' E O, fun σ' H' hh => ?_, ht rfl K hK _ ⟨?_, ?_, ?_, ?_⟩ _ _ _ _ r4⟩
      · obtain ⟨ρ, π, E, O, r, m', hlt, p⟩ := hh
        exact ⟨m', hlt, ρ, π, E, O, r, p⟩
      · exact fun σ H ρ π E O x r => ⟨ρ, π, E, O, r, x⟩
      · exact m.rt
      · exact fun σ H ρ π E O x r => x K hK D m ρ π σ H r
      · exact fun σ H ρ π E O x r => ⟨ρ, π, E, O, r, x⟩⟩
end
end G

namespace G
open PySem PySem.Spec PyProof.Rows L2
/-! ### lists that change -/
mutual
theorem Fd.func {A B : Addr → Prop} {H : Hp} : ∀ {v : V} {d e : PyData}, Fd A H v d → Fd B H v e → d = e
  | _, _, _, .non, h => by cases h; rfl
  | _, _, _, .bl b, h => by cases h; rfl
  | _, _, _, .int b, h => by cases h; rfl
  | _, _, _, .str b, h => by cases h; rfl
  | _, _, _, .lst _ e r, h => by
    cases h with
    | lst _ e2 r2 => rw [e] at e2; cases e2; rw [FdA.func r r2]
    | tup _ e2 r2 => rw [e] at e2; cases e2
  | _, _, _, .tup _ e r, h => by
    cases h with
    | lst _ e2 r2 => rw [e] at e2; cases e2
    | tup _ e2 r2 => rw [e] at e2; cases e2; rw [FdA.func r r2]
theorem FdA.func {A B : Addr → Prop} {H : Hp} : ∀ {vs : List V} {ds es : List PyData}, FdA A H vs ds → FdA B H vs es → ds = es
  | _, _, _, .nil, h => by cases h; rfl
  | _, _, _, .cons a r, h => by
    cases h with
    | cons a2 r2 => rw [Fd.func a a2, FdA.func r r2]
end
section
variable {A B : Addr → Prop} {H : Hp} {q : Addr} {xs0 : List V} {ds0 : List PyData}
mutual
theorem Fd.avoid (hq : H q = some (.lst xs0)) (r0 : FdA B H xs0 ds0) : ∀ {v : V} {d : PyData}, Fd A H v d → sizeOf d < sizeOf (PyData.list ds0) → Fd (fun a => A a ∧ a ≠ q) H v d
  | _, _, .non, _ => .non
  | _, _, .bl b, _ => .bl b
  | _, _, .int b, _ => .int b
  | _, _, .str b, _ => .str b
  | _, _, @Fd.lst _ _ a xs ds hA e r, hs => by
    have hne : a ≠ q := fun c => by
      subst c
      rw [hq] at e
      cases e
      rw [FdA.func r r0] at hs
      omega
    refine .lst ⟨hA, hne⟩ e (FdA.avoid hq r0 r ?_)
    have : sizeOf (PyData.list ds) = 1 + sizeOf ds := PyData.list.sizeOf_spec ds
    have : sizeOf (PyData.list ds0) = 1 + sizeOf ds0 := PyData.list.sizeOf_spec ds0
    omega
  | _, _, @Fd.tup _ _ a xs ds hA e r, hs => by
    have hne : a ≠ q := fun c => by
      subst c
      rw [hq] at e
      cases e
    refine .tup ⟨hA, hne⟩ e (FdA.avoid hq r0 r ?_)
    have : sizeOf (PyData.tuple ds) = 1 + sizeOf ds := PyData.tuple.sizeOf_spec ds
    have : sizeOf (PyData.list ds0) = 1 + sizeOf ds0 := PyData.list.sizeOf_spec ds0
    omega
theorem FdA.avoid (hq : H q = some (.lst xs0)) (r0 : FdA B H xs0 ds0) : ∀ {vs : List V} {ds : List PyData}, FdA A H vs ds → sizeOf ds ≤ sizeOf ds0 → FdA (fun a => A a ∧ a ≠ q) H vs ds
  | _, _, .nil, _ => .nil
  | _, _, @FdA.cons _ _ v vs d ds a r, hs => by
    have : sizeOf (d :: ds) = 1 + sizeOf d + sizeOf ds := List.cons.sizeOf_spec d ds
    have : sizeOf (PyData.list ds0) = 1 + sizeOf ds0 := PyData.list.sizeOf_spec ds0
    exact .cons (Fd.avoid hq r0 a (by omega)) (FdA.avoid hq r0 r (by omega))
end
end
def killC (Rx : List Nat) (c : Cell) : Cell := match c with
  | none => none
  | some (P, R) => if R.any (fun r => Rx.contains r) = true then none else some (P, R)
theorem killC_some {Rx : List Nat} {c : Cell} {P : OP} {R : List Nat} (h : killC Rx c = some (P, R)) : c = some (P, R) ∧ ∀ r ∈ R, r ∉ Rx := by
  cases c with
  | none => cases h
  | some pr =>
    obtain ⟨P', R'⟩ := pr
    have h : (if R'.any (fun r => Rx.contains r) = true then none else some (P', R')) = some (P, R) := h
    by_cases hc : R'.any (fun r => Rx.contains r) = true
    · rw [if_pos hc] at h; cases h
    · rw [if_neg hc] at h
      cases h
      refine ⟨rfl, fun r hr hx => hc ?_⟩
      rw [List.any_eq_true]
      exact ⟨r, hr, by simpa using hx⟩
def offR (R Rx : List Nat) : Bool := R.all fun r => !Rx.contains r
theorem offR.not {R Rx : List Nat} (h : offR R Rx = true) {r : Nat} (hr : r ∈ R) : r ∉ Rx := by
  have := List.all_eq_true.mp h r hr
  simpa using this
section
variable {Z H H' : Hp} {ρ π : Cols} {E : List Cell} {O : List Ob} {K : Held} {σ : L2.St} {R Rx : List Nat} {v : V} {B : Nat → Bool}
/-- the object at q, of the colours Rx, is another from here on -/
theorem Rel.strike {q : Addr} {o : HO} {r1 : Nat} (h : Rel Z ρ π E O K σ H) (hr1 : r1 ∈ Rx) (hq : ρ r1 q) (hB : ∀ r ∈ Rx, B r = true ∧ r ≠ 0) (hK : Kok B K) (hO : ∀ o ∈ O, offR o.2.2 Rx = true) :
    Rel Z ρ π (E.map (killC Rx)) O K σ (upd H q o) := by
  have hc : ∀ R, (∀ r ∈ R, r ∉ Rx) → ∀ a u, col ρ R a → H a = some u → upd H q o a = some u ∧ col ρ R a := fun R hR a u ha e => by
    obtain ⟨r, hr, c⟩ := ha
    refine ⟨?_, r, hr, c⟩
    rw [upd_ne ?_]; · exact e
    intro z
    subst z
    exact hR r hr (h.dj r r1 a c hq ▸ hr1)
  have hp : ∀ s a u, π s a → H a = some u → upd H q o a = some u := fun s a u ha e => by
    rw [upd_ne (fun z => by subst z; exact h.dx r1 s a hq ha)]; exact e
  exact {
    cell := fun i P R e => by
      rw [List.getElem?_map] at e
      cases hh : E[i]? with
      | none => rw [hh] at e; cases e
      | some c =>
        rw [hh] at e
        obtain ⟨e1, e2⟩ := killC_some (Option.some.inj e)
        subst e1
        obtain ⟨v, e3, qq⟩ := h.cell i P R hh
        exact ⟨v, e3, P.loc (hc R e2) qq⟩
    obj := fun o' ho => by
      obtain ⟨v, e1, qq⟩ := h.obj o' ho
      exact ⟨v, e1, o'.2.1.loc (hp o'.1) (hc _ fun r hr => offR.not (hO o' ho) hr) qq⟩
    held := fun k hk => k.2.1.loc (hc _ fun r hr hx => by have := hK k hk r hr; rw [(hB r hx).1] at this; cases this) (h.held k hk)
    len := by rw [List.length_map]; exact h.len
    dj := h.dj
    dp := h.dp
    dx := h.dx
    lr := fun r a hr e => h.lr r a hr (grow_upd a e)
    lp := fun r a hr e => h.lp r a hr (grow_upd a e)
    keep := fun a u e => by
      rw [upd_ne (fun z => by rw [z, h.zr r1 q hq (hB r1 hr1).2] at e; cases e)]; exact h.keep a u e
    zr := h.zr
    zp := h.zp
    z0 := h.z0 }
end
def okMut (B : Nat → Bool) (Rx : List Nat) : Bool := Rx.all fun r => B r && r != 0
theorem okMut.at {B : Nat → Bool} {Rx : List Nat} (h : okMut B Rx = true) : ∀ r ∈ Rx, B r = true ∧ r ≠ 0 := fun r hr => by
  have := List.all_eq_true.mp h r hr
  rw [Bool.and_eq_true] at this
  exact ⟨this.1, by simpa using this.2⟩
def okObs (O : List Ob) (Rx : List Nat) : Bool := O.all fun o => offR o.2.2 Rx
theorem okObs.at {O : List Ob} {Rx : List Nat} (h : okObs O Rx = true) : ∀ o ∈ O, offR o.2.2 Rx = true := List.all_eq_true.mp h
section
variable {C : Ctx} {N : List Str} {sc : Scope} {fn : Str → Bool} {k : Nat} {J : Type} {X : J → Cx}
variable {Z : Hp} {B : Nat → Bool} {E E' : List Cell} {O O1 O2 O3 O' : List Ob} {e a b c tg it : Expr} {es ifs : List Expr} {P : OP} {R R1 R2 R3 R' Ri Re Rs Rv Rx : List Nat} {d d1 d2 d3 : PyData} {ds es1 src : List PyData} {pos p p2 pos' tp : Pos}
variable {q : Po} {st : Stmt} {rest body other : List Stmt} {te : TE} {j r0 w : Nat} {x : Str}
/-- the heart of append, extend: a list of ours gets more items -/
theorem grow_list {ρ π ρ1 π1 : Cols} {K : Held} {σ : L2.St} {H H1 : Hp} {v : V} {us : List V} {es : List PyData} (h : Rel Z ρ π E O K σ H) (h1 : Rel Z ρ1 π1 E O1 K σ H1) (g1 : Go ρ π H ρ1 π1 H1) (hc : E[j]? = some (dc (.list ds) (r0 :: Rs)))
    (hM : okMut B (r0 :: Rs) = true) (hK : Kok B K) (hO : okObs O1 (r0 :: Rs) = true) (rv : FdA (vis ρ1 π1 Rv H) H1 us es) (wv : wfA es) (hd : es.all flatD = true ∨ offR Rv (r0 :: Rs) = true) (hR : (∀ r ∈ r0 :: Rs, r ∈ R') ∧ (es.all flatD = true ∨ ∀ r ∈ Rv, r ∈ R')) (hz : ds.length + es.length < sizeLine)
    (hj : noOb O1 [j] = true) (hsl : σ[j]? = some (some v)) :
    ∃ q xs, v = .ref q ∧ H1 q = some (.lst xs) ∧ xs.length = ds.length ∧ Rel Z (paint ρ1 π1 r0 H H1) π1 ((E.map (killC (r0 :: Rs))).set j (dc (.list (ds ++ es)) R')) O1 K σ (upd H1 q (.lst (xs ++ us))) := by
  obtain ⟨v0, e0, q0⟩ := h.cell j _ _ hc
  rw [hsl] at e0
  cases e0
  obtain ⟨v1, e1, q1, w1⟩ := h1.cell j _ _ hc
  rw [hsl] at e1
  cases e1
  cases q1 with
  | @lst q xs _ hA eq1 r1 =>
    have hq0 : H q ≠ none := by
      cases q0.1 with
      | lst _ e _ => rw [e]; exact fun z => nomatch z
    obtain ⟨rq, hrq, cq⟩ := hA
    have rp := h1.paint (w := r0) (H := H) (okMut.at hM r0 List.mem_cons_self).2 fun a e => h.keep.free e
    have hqp : paint ρ1 π1 r0 H H1 rq q := .inl cq
    have rr := rp.strike (q := q) (o := .lst (xs ++ us)) hrq hqp (okMut.at hM) hK (okObs.at hO)
    have r1' : FdA (fun a => col ρ1 (r0 :: Rs) a ∧ a ≠ q) H1 xs ds := FdA.avoid eq1 r1 r1 (Nat.le_refl _)
    have upv : ∀ a o, a ≠ q → H1 a = some o → upd H1 q (.lst (xs ++ us)) a = some o := fun a o ha e => by rw [upd_ne ha]; exact e
    have ra : FdA (col (paint ρ1 π1 r0 H H1) R') (upd H1 q (.lst (xs ++ us))) xs ds := r1'.cut fun a o ha e => ⟨upv a o ha.2 e, let ⟨r, hr, c⟩ := ha.1; ⟨r, hR.1 r hr, .inl c⟩⟩
    have rb : FdA (col (paint ρ1 π1 r0 H H1) R') (upd H1 q (.lst (xs ++ us))) us es := by
      by_cases hf : es.all flatD = true
      · exact rv.flat hf
      · have hd' := hd.resolve_left hf
        have hR' := hR.2.resolve_left hf
        refine rv.cut fun a o ha e => ?_
        rcases ha with ⟨r, hr, c⟩ | ⟨n, c1, c2⟩
        · exact ⟨upv a o (fun z => by subst z; exact offR.not hd' hr (h1.dj r rq a c cq ▸ hrq)) e, r, hR' r hr, .inl c⟩
        · exact ⟨upv a o (fun z => by subst z; exact hq0 n) e, r0, hR.1 r0 List.mem_cons_self, .inr ⟨rfl, n, (by rw [e]; exact fun z => nomatch z), c1, c2⟩⟩
    refine ⟨q, xs, rfl, eq1, r1.length, ?_⟩
    have hset : σ.set j (some (.ref q)) = σ := by
      refine List.ext_getElem? fun n => ?_
      rw [List.getElem?_set]
      by_cases c : j = n
      · subst c
        rw [if_pos rfl]
        split
        · exact hsl.symm
        · next hh => rw [List.getElem?_eq_none (by omega)]
      · rw [if_neg c]
    have := rr.set (i := j) (P := dP (.list (ds ++ es))) (R := R') (v := .ref q) (fun o ho => by have := noOb.ne hj ho; simpa using this)
      ⟨.lst ⟨rq, hR.1 rq hrq, hqp⟩ upd_same (ra.app rb), by rw [List.length_append]; exact hz, w1.2.app wv⟩
    rw [hset] at this
    exact this
theorem sb_append {apos cpos : Pos} {p0 : Pos} (hx : SX C N sc fn k X) (nm : Nm N j x) (hv : Vis sc x) (hc : E[j]? = some (dc (.list ds) (r0 :: Rs))) (he : ED X Z E O e d Rv O') (hM : okMut B (r0 :: Rs) = true) (hO : okObs O' (r0 :: Rs) = true) (hj : noOb O' [j] = true)
    (hR : flatD d = true ∨ offR Rv (r0 :: Rs) = true) (hR' : (if flatD d = true then r0 :: Rs else r0 :: (Rs ++ Rv)) = R') (hz : ds.length + 1 < sizeLine)
    (kk : SB X Z B ((E.map (killC (r0 :: Rs))).set j (dc (.list (ds ++ [d])) R')) O' rest q)
    (hbase : ∀ i, attributeBase (.Name x p0) "append" (X i).env (eval (.Name x p0) (X i).env) = eval (.Name x p0) (X i).env)
    (hfew : ∀ i, ((backTo cpos (starEach [e] (X i).env)).all (fun x => !x.1) && (backToKw cpos (keywordEach [] (X i).env)).all (fun x => x.1.isSome)
      && decide ([e].length + ([] : List Keyword).length + (if ([] : List Keyword).isEmpty then 0 else 1) < 30)) = true)
    (hline : (apos.endLine == cpos.line) = true) (hst : ∀ i, starEach [e] (X i).env = (false, eval e (X i).env) :: starEach [] (X i).env) (hplain : ∀ i, (backTo cpos (starEach [] (X i).env)).any (·.1) = false) :
    SB X Z B E O (.Expr (.Call (.Attribute (.Name x p0) "append" apos) [e] [] cpos) pos :: rest) q := fun K hK D m ρ π σ H h => by
  obtain ⟨v, hsl, qv⟩ := h.cell j _ _ hc
  refine wB_cons ⟨tDrop (tBM C.K "list" rAppend (tVar j) (tCons (wE X e) tNil)), fun i => by rw [← hx.K i]; exact ps_expr (pe_bm PySem.F.plainAttrs_list PySem.F.slot_list_append PySem.F.type_list_append mt_append (pe_var (by rw [hx.Nx i]; exact nm.at_) (by rw [hx.scx i]; exact hv) nm.d1 nm.d2) (pa_cons (pe_w e i) pa_nil (hst i)) (hbase i) (hfew i) hline (hst i) (hplain i)) rfl, ?_⟩
  refine ⟨v, hsl, ?_⟩
  cases qv.1 with
  | @lst q0 xs0 _ _ eq0 _ =>
    refine ⟨.inl ⟨rfl, _, SqL.of eq0⟩, he ρ π K σ H h _ fun u ρ1 π1 H1 h1 g1 r => ?_⟩
    have cond : (∀ r ∈ r0 :: Rs, r ∈ R') ∧ ([d].all flatD = true ∨ ∀ r ∈ Rv, r ∈ R') := by
      subst hR'
      split
      · next hf => exact ⟨fun r hr => hr, .inl (by simp [hf])⟩
      · exact ⟨fun r hr => (List.mem_cons.mp hr).elim (fun e => e ▸ List.mem_cons_self) fun hr => List.mem_cons_of_mem _ (List.mem_append_left _ hr), .inr fun r hr => List.mem_cons_of_mem _ (List.mem_append_right _ hr)⟩
    obtain ⟨q1, xs, e1, e2, e3, rr⟩ := grow_list (us := [u]) (es := [d]) h h1 g1 hc hM hK hO (.cons r.1 .nil) ⟨r.2, trivial⟩ (hR.imp_left fun hf => by simp [hf]) cond hz hj hsl
    cases e1
    exact ⟨_, xs, u, rfl, rfl, e2, by omega, kk K hK D m _ _ _ _ rr⟩
theorem sb_extend {apos cpos : Pos} {p0 : Pos} (hx : SX C N sc fn k X) (nm : Nm N j x) (hv : Vis sc x) (hc : E[j]? = some (dc (.list ds) (r0 :: Rs))) (he : ED X Z E O e (.list es1) Rv O') (hM : okMut B (r0 :: Rs) = true) (hO : okObs O' (r0 :: Rs) = true) (hj : noOb O' [j] = true)
    (hR : es1.all flatD = true ∨ offR Rv (r0 :: Rs) = true) (hR' : r0 :: (Rs ++ Rv) = R') (hz : ds.length + es1.length < sizeLine)
    (kk : SB X Z B ((E.map (killC (r0 :: Rs))).set j (dc (.list (ds ++ es1)) R')) O' rest q)
    (hbase : ∀ i, attributeBase (.Name x p0) "extend" (X i).env (eval (.Name x p0) (X i).env) = eval (.Name x p0) (X i).env)
    (hfew : ∀ i, ((backTo cpos (starEach [e] (X i).env)).all (fun x => !x.1) && (backToKw cpos (keywordEach [] (X i).env)).all (fun x => x.1.isSome)
      && decide ([e].length + ([] : List Keyword).length + (if ([] : List Keyword).isEmpty then 0 else 1) < 30)) = true)
    (hline : (apos.endLine == cpos.line) = true) (hst : ∀ i, starEach [e] (X i).env = (false, eval e (X i).env) :: starEach [] (X i).env) (hplain : ∀ i, (backTo cpos (starEach [] (X i).env)).any (·.1) = false) :
    SB X Z B E O (.Expr (.Call (.Attribute (.Name x p0) "extend" apos) [e] [] cpos) pos :: rest) q := fun K hK D m ρ π σ H h => by
  obtain ⟨v, hsl, qv⟩ := h.cell j _ _ hc
  refine wB_cons ⟨tDrop (tBM C.K "list" rExtend (tVar j) (tCons (wE X e) tNil)), fun i => by rw [← hx.K i]; exact ps_expr (pe_bm PySem.F.plainAttrs_list PySem.F.slot_list_extend PySem.F.type_list_extend mt_extend (pe_var (by rw [hx.Nx i]; exact nm.at_) (by rw [hx.scx i]; exact hv) nm.d1 nm.d2) (pa_cons (pe_w e i) pa_nil (hst i)) (hbase i) (hfew i) hline (hst i) (hplain i)) rfl, ?_⟩
  refine ⟨v, hsl, ?_⟩
  cases qv.1 with
  | @lst q0 xs0 _ _ eq0 _ =>
    refine ⟨.inl ⟨rfl, _, SqL.of eq0⟩, he ρ π K σ H h _ fun u ρ1 π1 H1 h1 g1 r => ?_⟩
    have cond : (∀ r ∈ r0 :: Rs, r ∈ R') ∧ (es1.all flatD = true ∨ ∀ r ∈ Rv, r ∈ R') := by
      subst hR'
      exact ⟨fun r hr => (List.mem_cons.mp hr).elim (fun e => e ▸ List.mem_cons_self) fun hr => List.mem_cons_of_mem _ (List.mem_append_left _ hr), .inr fun r hr => List.mem_cons_of_mem _ (List.mem_append_right _ hr)⟩
    have wr := r.2
    cases r.1 with
    | @lst b zs _ _ eb rb =>
      obtain ⟨q1, xs, e1, e2, e3, rr⟩ := grow_list (us := zs) (es := es1) h h1 g1 hc hM hK hO rb wr.2 hR cond hz hj hsl
      cases e1
      have lz := rb.length
      exact ⟨_, b, xs, zs, rfl, rfl, e2, eb, by omega, kk K hK D m _ _ _ _ rr⟩
/-- a list that is told gets an item, and no one looks at it any more -/
theorem sb_spoil {apos cpos : Pos} {o : Expr} (hx : SX C N sc fn k X) (ho : ED X Z E O o (.list ds) Rx O1) (he : ED X Z E O1 e d Rv O') (hM : okMut B Rx = true) (hO : okObs O' Rx = true) (hz : ds.length + 1 < sizeLine)
    (kk : SB X Z B (E.map (killC Rx)) O' rest q)
    (hbase : ∀ i, attributeBase o "append" (X i).env (eval o (X i).env) = eval o (X i).env)
    (hfew : ∀ i, ((backTo cpos (starEach [e] (X i).env)).all (fun x => !x.1) && (backToKw cpos (keywordEach [] (X i).env)).all (fun x => x.1.isSome)
      && decide ([e].length + ([] : List Keyword).length + (if ([] : List Keyword).isEmpty then 0 else 1) < 30)) = true)
    (hline : (apos.endLine == cpos.line) = true) (hst : ∀ i, starEach [e] (X i).env = (false, eval e (X i).env) :: starEach [] (X i).env) (hplain : ∀ i, (backTo cpos (starEach [] (X i).env)).any (·.1) = false) :
    SB X Z B E O (.Expr (.Call (.Attribute o "append" apos) [e] [] cpos) pos :: rest) q := fun K hK D m ρ π σ H h =>
  wB_cons ⟨tDrop (tBM C.K "list" rAppend (wE X o) (tCons (wE X e) tNil)), fun i => by rw [← hx.K i]; exact ps_expr (pe_bm PySem.F.plainAttrs_list PySem.F.slot_list_append PySem.F.type_list_append mt_append (pe_w o i) (pa_cons (pe_w e i) pa_nil (hst i)) (hbase i) (hfew i) hline (hst i) (hplain i)) rfl,
    ho ρ π K σ H h _ fun v ρ1 π1 H1 h1 g1 r1 => by
      have r1' := r1.1
      cases r1' with
      | @lst q0 xs0 _ hA eq0 rq =>
        refine ⟨.inl ⟨rfl, _, SqL.of eq0⟩, he ρ1 π1 K σ H1 h1 _ fun u ρ2 π2 H2 h2 g2 r2 => ?_⟩
        obtain ⟨e2, hA2⟩ := vis_keep h1 g2 hA eq0
        have lq := rq.length
        refine ⟨q0, xs0, u, rfl, rfl, e2, by omega, kk K hK D m ρ2 π2 _ _ ?_⟩
        rcases hA2 with ⟨r, hr, c⟩ | ⟨n, c1, c2⟩
        · exact h2.strike (r1 := r) hr c (okMut.at hM) hK (okObs.at hO)
        · have rr := h2.poke (o := .lst (xs0 ++ [u])) c1 c2 (h.keep.free n)
          exact {
            cell := fun i P R e => by
              rw [List.getElem?_map] at e
              cases hh : E[i]? with
              | none => rw [hh] at e; cases e
              | some c =>
                rw [hh] at e
                obtain ⟨e1, _⟩ := killC_some (Option.some.inj e)
                subst e1
                exact rr.cell i P R hh
            obj := rr.obj
            held := rr.held
            len := by rw [List.length_map]; exact rr.len
            dj := rr.dj
            dp := rr.dp
            dx := rr.dx
            lr := rr.lr
            lp := rr.lp
            keep := rr.keep
            zr := rr.zr
            zp := rr.zp
            z0 := rr.z0 }⟩
/-! ### the box -/
def boxP (u : Addr × Addr) (s : Bx) : OQ := ⟨fun v A _ H => v = .ref u.1 ∧ u.1 ≠ u.2 ∧ A u.1 ∧ A u.2 ∧ H u.1 = some (.lst [.ref u.2, .int s.2]) ∧ H u.2 = some (.lst (s.1.map .int)), fun h1 _ ⟨e, n, a1, a2, h2, h3⟩ => ⟨e, n, a1, a2, h1 _ _ a1 h2, h1 _ _ a2 h3⟩⟩
abbrev bx (j : Nat) (u : Addr × Addr) (s : Bx) : Ob := (j, boxP u s, [])
/-- what a def does that draws from the box -/
theorem box_rel {j : Nat} {s1 s' : Bx} {ρ π : Cols} {K : Held} {σ : L2.St} {H H' : Hp} {b l : Addr} (h : Rel Z ρ π E (bx j (b, l) s1 :: O) K σ H) (hO : noOb O [j] = true) (hsl : σ[j]? = some (some (.ref b))) (hne : b ≠ l) (hb : π j b) (hl : π j l)
    (keep : ∀ x o, x ≠ b → x ≠ l → H x = some o → H' x = some o) (hb' : H' b = some (.lst [.ref l, .int s'.2])) (hl' : H' l = some (.lst (s'.1.map .int))) :
    Rel Z ρ π E (bx j (b, l) s' :: O) K σ H' ∧ Go ρ π H ρ π H' := by
  have off : ∀ a u, (∀ s, ¬ π s a) → H a = some u → H' a = some u := fun a u hn e => keep a u (fun z => by subst z; exact hn j hb) (fun z => by subst z; exact hn j hl) e
  have hc : ∀ R a u, col ρ R a → H a = some u → H' a = some u ∧ col ρ R a := fun R a u ha e => ⟨off a u (fun s z => by obtain ⟨r, _, c⟩ := ha; exact h.dx r s a c z) e, ha⟩
  have live : ∀ a, H a ≠ none → H' a ≠ none := fun a ha => by
    by_cases c1 : a = b
    · subst c1; rw [hb']; exact fun z => nomatch z
    · by_cases c2 : a = l
      · subst c2; rw [hl']; exact fun z => nomatch z
      · cases hh : H a with
        | none => exact absurd hh ha
        | some o => rw [keep a o c1 c2 hh]; exact fun z => nomatch z
  refine ⟨{
    cell := fun i P R e => by obtain ⟨v, e1, q⟩ := h.cell i P R e; exact ⟨v, e1, P.loc (hc R) q⟩
    obj := fun o ho => ?_
    held := fun k hk => k.2.1.loc (hc _) (h.held k hk)
    len := h.len
    dj := h.dj
    dp := h.dp
    dx := h.dx
    lr := fun r a hr => live a (h.lr r a hr)
    lp := fun r a hr => live a (h.lp r a hr)
    keep := fun a u e => keep a u (fun z => by rw [z, h.zp j b hb] at e; cases e) (fun z => by rw [z, h.zp j l hl] at e; cases e) (h.keep a u e)
    zr := h.zr
    zp := h.zp
    z0 := h.z0 }, ⟨fun _ _ h => h, fun a u e hn => off a u hn e, fun a e => Classical.byContradiction fun c => live a c e, fun _ _ h => .inl h, fun _ _ h => .inl h⟩⟩
  rcases List.mem_cons.mp ho with e | ho
  · subst e
    exact ⟨.ref b, hsl, rfl, hne, hb, hl, hb', hl'⟩
  · obtain ⟨v, e1, q⟩ := h.obj o (List.mem_cons_of_mem _ ho)
    have hoj : o.1 ≠ j := by have := noOb.ne hO ho; simpa using this
    exact ⟨v, e1, o.2.1.loc (fun a u ha e => keep a u (fun z => by subst z; exact hoj (h.dp _ _ _ ha hb)) (fun z => by subst z; exact hoj (h.dp _ _ _ ha hl)) e) (hc _) q⟩
theorem box_args {ρ π : Cols} {K : Held} {σ : L2.St} {H H0 : Hp} {j : Nat} {b l : Addr} {vs : List V} (h : Rel Z ρ π E O K σ H) (hb : π j b) (hl : π j l) (rs : FdA (vis ρ π R H0) H vs ds) : FdA Any (minus H b l) vs ds :=
  rs.cut fun a o ha e => ⟨by
    have hn : ∀ s, ¬π s a := fun s z => by
      rcases ha with ⟨r, _, c⟩ | ⟨_, _, c⟩
      · exact h.dx r s a c z
      · exact c s z
    rw [minus_at (fun z => by subst z; exact hn j hb) (fun z => by subst z; exact hn j hl)]; exact e, trivial⟩
theorem minus_sub {H : Hp} {b l : Addr} : Same (minus H b l) H := fun a o e => by
  unfold minus at e
  split at e
  · cases e
  · exact e
theorem ee_callB {x y : Str} {j : Nat} {ps : List Str} {A : List PyData → Bx → PyData → Bx → Prop} {kk : Nat} {u : Addr × Addr} {s s1 s' : Bx} (hx : SX C N sc fn k X) (ok : Ok C kk x ps (spBox A)) (hk : kk ≤ k) (hg : Gb sc x)
    (nm : Nm N j y) (hv : Vis sc y) (ha : EA X Z E (bx j u s :: O) es ds R (bx j u s1 :: O1)) (hO : noOb O1 [j] = true) (hA : wfA ds → A ds s1 d s') (hw : wfA ds → wfD d)
    (hdb : (x == ("__debug__" : Str)) = false) (he : ∀ i, starEach (.Name y p2 :: es) (X i).env = (false, eval (.Name y p2) (X i).env) :: starEach es (X i).env) (hpl : ∀ i, (backTo pos (starEach es (X i).env)).any (·.1) = false) :
    ED X Z E (bx j u s :: O) (.Call (.Name x p) (.Name y p2 :: es) [] pos) d [] (bx j u s' :: O1) := fun ρ π K σ H h Q qq => by
  obtain ⟨g, fd, hm, hkp, hbi, G⟩ := ok.ex
  obtain ⟨b, l⟩ := u
  obtain ⟨v, hsl, rfl, hne, _⟩ := h.obj (bx j (b, l) s) List.mem_cons_self
  refine ⟨_, fun i => pe_call (E := E0) (dvs := []) (ds := []) (f := g) (fd := fd) (ps := ps) (sp := spBox A) (k := kk) (CX := CX0) ?_ ((hx.room i).mono hk) (gl_of hx hg i) ?_ ?_ ?_ .nil pass0 (pa_cons (pe_var (by rw [hx.Nx i]; exact nm.at_) (by rw [hx.scx i]; exact hv) nm.d1 nm.d2) (pa_w es i) (he i)) hdb (he i) (hpl i), .ref b, hsl, ha ρ π K σ H h _ fun vs ρ1 π1 H1 h1 g1 rs ws => ?_⟩
  · rw [hx.P i, hx.w i, hx.K i, hx.mg i, hx.base i]; exact G
  · rw [hx.mg i]; exact hm
  · rw [hx.K i]; exact hkp
  · rw [hx.K i]; exact hbi
  · show spBox A (V.ref b :: vs ++ []) H1 Q E0
    rw [List.append_nil]
    obtain ⟨v1, hsl1, rfl, hne1, pb, pl, hb1, hl1⟩ := h1.obj (bx j (b, l) s1) List.mem_cons_self
    refine ⟨b, l, vs, ds, s1, s', d, minus H1 b l, rfl, hne1, hb1, hl1, minus_sub, if_pos (.inl rfl), if_pos (.inr rfl), box_args h1 pb pl rs, hA ws, fun u H2 keep hq hl rv => ?_⟩
    obtain ⟨r2, g2⟩ := box_rel h1 hO hsl hne1 pb pl keep hq hl
    exact qq u ρ1 π1 H2 r2 (g1.trans g2) ⟨rv.mono (fun a e => vis_new h1 g1 e) (Same.refl _), hw ws⟩
/-- x = f(box, ..), of which one answer comes -/
theorem sb_setB {x y z : Str} {i j : Nat} {ps : List Str} {A : List PyData → Prop} {P : List PyData → PyData → Prop} {kk : Nat} {u : Addr × Addr} {s s1 : Bx} {pz : Pos} (hx : SX C N sc fn k X) (ok : Ok C kk x ps (spBoxE A P)) (hk : kk ≤ k) (hg : Gb sc x)
    (nmz : Nm N i z) (hl : Loc sc z) (hf : fn z = true ∨ sc.names.lookup z = some .local) (hsw : ∀ i, swapsWith (.Call (.Name x p) (.Name y p2 :: es) [] pos) (some (.Name z pz)) pos'.line (X i).env = pure false)
    (nm : Nm N j y) (hv : Vis sc y) (ha : EA X Z E (bx j u s :: O) es ds R (bx j u s1 :: O1)) (hO : noOb O1 [j] = true) (hO2 : noOb O1 [i] = true) (hij : i ≠ j) (hA : wfA ds → A ds) (hw : ∀ d, P ds d → wfD d)
    (hdb : (x == ("__debug__" : Str)) = false) (he : ∀ i, starEach (.Name y p2 :: es) (X i).env = (false, eval (.Name y p2) (X i).env) :: starEach es (X i).env) (hpl : ∀ i, (backTo pos (starEach es (X i).env)).any (·.1) = false)
    (kn : ∀ d (s' : Bx), P ds d → SB X Z B (E.set i (dc d (rOf d [i + 1]))) (bx j u s' :: O1) rest q) :
    SB X Z B E (bx j u s :: O) (.Assign [.Name z pz] (.Call (.Name x p) (.Name y p2 :: es) [] pos) pos' :: rest) q := fun K hK D m ρ π σ H h => by
  obtain ⟨g, fd, hm, hkp, hbi, G⟩ := ok.ex
  obtain ⟨b, l⟩ := u
  obtain ⟨v, hsl, rfl, hne, _⟩ := h.obj (bx j (b, l) s) List.mem_cons_self
  refine wB_cons ⟨_, fun i => ps_set (by rw [hx.Nx i]; exact hx.nd) (by rw [hx.Nx i]; exact nmz.at_) (by rw [hx.scx i]; exact hl) (pe_call (E := E0) (dvs := []) (ds := []) (f := g) (fd := fd) (ps := ps) (sp := spBoxE A P) (k := kk) (CX := CX0) ?_ ((hx.room i).mono hk) (gl_of hx hg i) ?_ ?_ ?_ .nil pass0 (pa_cons (pe_var (by rw [hx.Nx i]; exact nm.at_) (by rw [hx.scx i]; exact hv) nm.d1 nm.d2) (pa_w es i) (he i)) hdb (he i) (hpl i)) (hsw i) (hf.elim (fun h => .inl (hx.fnx i _ h)) (fun h => .inr (by rw [hx.scx i]; exact h))), .ref b, hsl, ha ρ π K σ H h _ fun vs ρ1 π1 H1 h1 g1 rs ws => ?_⟩
  · rw [hx.P i, hx.w i, hx.K i, hx.mg i, hx.base i]; exact G
  · rw [hx.mg i]; exact hm
  · rw [hx.K i]; exact hkp
  · rw [hx.K i]; exact hbi
  · show spBoxE A P (V.ref b :: vs ++ []) H1 _ E0
    rw [List.append_nil]
    obtain ⟨v1, hsl1, rfl, hne1, pb, pl, hb1, hl1⟩ := h1.obj (bx j (b, l) s1) List.mem_cons_self
    refine ⟨b, l, vs, ds, s1, minus H1 b l, rfl, hne1, hb1, hl1, minus_sub, if_pos (.inl rfl), if_pos (.inr rfl), box_args h1 pb pl rs, hA ws, fun d s' u H2 hP keep hq hl rv => ?_⟩
    obtain ⟨r2, g2⟩ := box_rel h1 hO hsl hne1 pb pl keep hq hl
    have h2 := r2.paint (w := i + 1) (H := H1) (Nat.succ_ne_zero _) fun a e => h1.keep.free e
    have rr := dP_rOf (R := [i + 1]) (rv.cut fun a o ha e => ⟨e, vis_paint (w := i + 1) (R := []) (vis_new h1 (Go.refl _ _ _) ha) e⟩) (hw d hP)
    refine kn d s' hP K hK D m _ _ _ _ (h2.set (fun o ho => ?_) rr)
    rcases List.mem_cons.mp ho with e | ho
    · subst e; exact Ne.symm hij
    · have := noOb.ne hO2 ho; simpa using this
end
/-! ### defs -/
def cells0 (N : List Str) (ds : List PyData) : List Cell := ds.map (fun d => dc d (rOf d [0])) ++ List.replicate (N.length - ds.length) none
def allB : Nat → Bool := fun r => r != 0 && r != 4242
def retP (r : PyData) : OP → List Nat → List Cell → List Ob → Prop := fun P R _ _ => P = dP r ∧ (flatD r || !R.contains 0) = true
theorem flat_or {d : PyData} {R : List Nat} (h : (flatD d || !R.contains 0) = true) : flatD d = true ∨ 0 ∉ R := by
  rw [Bool.or_eq_true] at h
  exact h.imp_right fun h => by simpa using h
section
variable {C : Ctx} {N ps : List Str} {x : Str} {st : Stmt} {kk : Nat}
theorem start_get {N : List Str} {vs : List V} {i : Nat} {v : V} (h : vs[i]? = some v) : (L2.start N vs)[i]? = some (some v) := by
  have hi : i < vs.length := (List.getElem?_eq_some_iff.mp h).1
  unfold L2.start
  rw [List.getElem?_append_left (by rw [List.length_map]; exact hi), List.getElem?_map, h]; rfl
theorem start_len {N : List Str} {vs : List V} (h : vs.length ≤ N.length) : (L2.start N vs).length = N.length := by
  unfold L2.start
  rw [List.length_append, List.length_map, List.length_replicate]; omega
theorem cells0_len {N : List Str} {ds : List PyData} (h : ds.length ≤ N.length) : (cells0 N ds).length = N.length := by
  unfold cells0
  rw [List.length_append, List.length_map, List.length_replicate]; omega
theorem cells0_get {N : List Str} {ds : List PyData} {i : Nat} {P : OP} {R : List Nat} (h : (cells0 N ds)[i]? = some (some (P, R))) : ∃ d, ds[i]? = some d ∧ P = dP d ∧ R = rOf d [0] := by
  unfold cells0 at h
  by_cases c : i < ds.length
  · rw [List.getElem?_append_left (by rw [List.length_map]; exact c), List.getElem?_map, List.getElem?_eq_getElem c] at h
    have h := Option.some.inj h
    exact ⟨ds[i], List.getElem?_eq_getElem c, by cases h; exact ⟨rfl, rfl⟩⟩
  · rw [List.getElem?_append_right (by rw [List.length_map]; omega), List.length_map, List.getElem?_replicate] at h
    split at h <;> cases h
/-- a def of data, by its body -/
theorem ok_W {A : List PyData → PyData → Prop} (d : DefAt C x st ps) (S : FnScope N ps (defScope st)) (hps : ps.length ≤ N.length) (len : ∀ ds r, A ds r → ds.length = ps.length)
    (body : ∀ X : Unit → Cx, SX C N (defScope st) (fun _ => true) kk X → ∀ ds r, A ds r → wfA ds → ∀ Z, SB X Z allB (cells0 N ds) [] (defBody st) { nx := fun _ _ => r = .none, rt := retP r }) : Ok C (kk + 1) x ps (spW A) := by
  refine ok_def d S (fun vs H Q E h => ?_) fun X hx vs H Q E h => ?_
  · obtain ⟨ds, r, hd, _, ha, _⟩ := h
    rw [hd.length, len ds r ha]
  · obtain ⟨ds, r, hd, hw, ha, q⟩ := h
    have hl := len ds r ha
    have hv := hd.length
    refine body X hx ds r ha hw H [] (fun k hk => absurd hk (by simp)) _ ⟨?_, ?_, ?_, ?_⟩ (fun r a => r = 0 ∧ H a ≠ none) (fun _ _ => False) _ H ?_
    · intro σ H1 ρ π E O e rr
      subst e
      exact q .non H1 rr.keep .non trivial
    · rintro v σ H1 ρ π E O P R ⟨rfl, hf⟩ rr rv
      have hf := flat_or hf
      refine q v H1 rr.keep ?_ rv.2
      rcases hf with hf | hf
      · exact rv.1.flat hf
      · refine rv.1.mono (fun a ha => ?_) (Same.refl _)
        rcases ha with ⟨r, hr, c⟩ | ⟨z, _⟩
        · exact rr.zr r a c fun e => hf (e ▸ hr)
        · exact z
    · exact fun σ H ρ π E O x _ => x
    · exact fun σ H ρ π E O x _ => x
    · exact {
        cell := fun i P R e => by
          obtain ⟨d, hd1, rfl, rfl⟩ := cells0_get e
          obtain ⟨v, e1, rv⟩ := hd.get hd1
          exact ⟨v, start_get e1, dP_rOf (rv.cut fun a o _ e => ⟨e, 0, List.mem_singleton.mpr rfl, rfl, by rw [e]; exact fun z => nomatch z⟩) (wfA_iff.mp hw d (List.mem_of_getElem? hd1))⟩
        obj := fun o ho => absurd ho (by simp)
        held := fun k hk => absurd hk (by simp)
        len := by rw [cells0_len (by omega), start_len (by omega)]
        dj := fun r s a h1 h2 => h1.1.trans h2.1.symm
        dp := fun r s a h1 _ => h1.elim
        dx := fun r s a _ h => h
        lr := fun r a h => h.2
        lp := fun r a h => h.elim
        keep := Same.refl _
        zr := fun r a h hr => absurd h.1 hr
        zp := fun r a h => h.elim
        z0 := fun a h => h.2 }
end
end G

namespace G
open PySem PySem.Spec PyProof.Rows L2
/-- a def with no value at its end does not come there -/
theorem wB_nonx {J : Type} {X : J → Cx} {sts : List Stmt} {D : Ends} {σ : L2.St} {H : Hp} (h : wB X sts { D with nx := fun _ _ => False } σ H) : wB X sts D σ H := by
  obtain ⟨t, ht, q1⟩ := h
  refine ⟨fun D' σ' H' => t D' σ' H' ∨ t { D' with nx := fun _ _ => False } σ' H', fun i => ⟨fun pins s σ' H' D' I hq => ?_⟩, .inr q1⟩
  rcases hq with hq | hq
  · exact (ht i).run pins s σ' H' D' I hq
  · refine thn ((ht i).run pins s σ' H' _ I hq) fun fl s' hs => ?_
    cases fl with
    | next => obtain ⟨_, _, _, z⟩ := hs; exact z.elim
    | brk => exact hs
    | cont => exact hs
    | ret u => exact hs
/-- what was there stays -/
def keepP (Y : Hp) : OP := ⟨fun _ A H => (∀ a o, Y a = some o → H a = some o ∧ A a), fun h r a o e => let ⟨x, y⟩ := r a o e; h a o y x⟩
/-- cells of a def whose first argument is the box -/
def cellsB (N : List Str) (ds : List PyData) : List Cell := none :: ds.map (fun d => dc d (rOf d [0])) ++ List.replicate (N.length - ds.length - 1) none
theorem cellsB_len {N : List Str} {ds : List PyData} (h : ds.length + 1 ≤ N.length) : (cellsB N ds).length = N.length := by
  unfold cellsB
  rw [List.length_append, List.length_cons, List.length_map, List.length_replicate]; omega
theorem cellsB_get {N : List Str} {ds : List PyData} {i : Nat} {P : OP} {R : List Nat} (h : (cellsB N ds)[i]? = some (some (P, R))) : ∃ j d, i = j + 1 ∧ ds[j]? = some d ∧ P = dP d ∧ R = rOf d [0] := by
  unfold cellsB at h
  cases i with
  | zero => simp at h
  | succ j =>
    have h : (ds.map (fun d => dc d (rOf d [0])) ++ List.replicate (N.length - ds.length - 1) none)[j]? = some (some (P, R)) := by simpa using h
    refine ⟨j, ?_⟩
    by_cases c : j < ds.length
    · rw [List.getElem?_append_left (by rw [List.length_map]; exact c), List.getElem?_map, List.getElem?_eq_getElem c] at h
      have h := Option.some.inj h
      exact ⟨ds[j], rfl, List.getElem?_eq_getElem c, by cases h; exact ⟨rfl, rfl⟩⟩
    · rw [List.getElem?_append_right (by rw [List.length_map]; omega), List.length_map, List.getElem?_replicate] at h
      split at h <;> cases h
section
variable {C : Ctx} {N ps : List Str} {x : Str} {st : Stmt} {kk : Nat}
/-- the state at the entry of a def whose first argument is the box -/
theorem rel0B {N : List Str} {ds : List PyData} {b l : Addr} {s : Bx} {F H : Hp} {vs : List V} (hne : b ≠ l) (hb : H b = some (.lst [.ref l, .int s.2])) (hl : H l = some (.lst (s.1.map .int))) (hF : Same F H) (hFb : F b = none) (hFl : F l = none) (hd : FdA Any F vs ds) (hw : wfA ds) (hN : ds.length + 1 ≤ N.length) :
    Rel (minus H b l) (fun r a => r = 0 ∧ F a ≠ none) (fun s a => s = 0 ∧ (a = b ∨ a = l)) (cellsB N ds) [bx 0 (b, l) s] [] (L2.start N (.ref b :: vs)) H := by
  have hv := hd.length
  exact {
    cell := fun i P R e => by
      obtain ⟨j, d, rfl, hd1, rfl, rfl⟩ := cellsB_get e
      obtain ⟨v, e1, rv⟩ := hd.get hd1
      exact ⟨v, start_get (vs := .ref b :: vs) (i := j + 1) e1, dP_rOf (rv.cut fun a o _ e => ⟨hF _ _ e, 0, List.mem_singleton.mpr rfl, rfl, by rw [e]; exact fun z => nomatch z⟩) (wfA_iff.mp hw d (List.mem_of_getElem? hd1))⟩
    obj := fun o ho => by
      have e : o = bx 0 (b, l) s := by simpa using ho
      subst e
      exact ⟨.ref b, start_get (vs := .ref b :: vs) (i := 0) rfl, rfl, hne, ⟨rfl, .inl rfl⟩, ⟨rfl, .inr rfl⟩, hb, hl⟩
    held := fun k hk => absurd hk (by simp)
    len := by rw [cellsB_len hN, start_len (by rw [List.length_cons]; omega)]
    dj := fun r s a h1 h2 => h1.1.trans h2.1.symm
    dp := fun r s a h1 h2 => h1.1.trans h2.1.symm
    dx := fun r s a h1 h2 => by
      rcases h2.2 with e | e
      · exact h1.2 (e ▸ hFb)
      · exact h1.2 (e ▸ hFl)
    lr := fun r a h e => h.2 (hF.free e)
    lp := fun r a h e => by
      rcases h.2 with c | c
      · subst c; rw [hb] at e; cases e
      · subst c; rw [hl] at e; cases e
    keep := minus_sub
    zr := fun r a h hr => absurd h.1 hr
    zp := fun r a h => by unfold minus; rw [if_pos h.2]
    z0 := fun a h e => by
      have c1 : a ≠ b := fun z => h.2 (z ▸ hFb)
      have c2 : a ≠ l := fun z => h.2 (z ▸ hFl)
      rw [minus_at c1 c2] at e
      exact h.2 (hF.free e) }
/-- what was in the heap is there still -/
theorem rel_minus {H H1 : Hp} {b l : Addr} {ρ π : Cols} {E : List Cell} {O : List Ob} {K : Held} {σ : L2.St} (r : Rel (minus H b l) ρ π E O K σ H1) : ∀ x o, x ≠ b → x ≠ l → H x = some o → H1 x = some o := fun x o h1 h2 e => r.keep x o (by rw [minus_at h1 h2]; exact e)
def retB (u : Addr × Addr) (I : PyData → Bx → Prop) : OP → List Nat → List Cell → List Ob → Prop := fun P R _ O => ∃ d s', P = dP d ∧ (flatD d || !R.contains 0) = true ∧ O = [bx 0 u s'] ∧ I d s'
def retN (u : Addr × Addr) (I : PyData → Bx → Prop) : OP → List Nat → List Cell → List Ob → Prop := fun P R _ O => ∃ d s', P = dP d ∧ R.contains 4242 = false ∧ O = [bx 0 u s'] ∧ I d s'
theorem box_end {Z H1 : Hp} {b l : Addr} {s' : Bx} {ρ π : Cols} {E : List Cell} {K : Held} {σ : L2.St} (r : Rel Z ρ π E [bx 0 (b, l) s'] K σ H1) : H1 b = some (.lst [.ref l, .int s'.2]) ∧ H1 l = some (.lst (s'.1.map .int)) := by
  obtain ⟨v, e1, rfl, hne, pb, pl, h1, h2⟩ := r.obj (bx 0 (b, l) s') List.mem_cons_self
  exact ⟨h1, h2⟩
theorem minus_none {H : Hp} {b l a : Addr} (hb : H b ≠ none) (hl : H l ≠ none) : H a = none → minus H b l a = none := fun e => by unfold minus; split <;> first | rfl | exact e
/-- a def that draws from the box; its answer by its input -/
theorem ok_B {A : List PyData → Bx → PyData → Bx → Prop} (d : DefAt C x st ps) (S : FnScope N ps (defScope st)) (hps : ps.length ≤ N.length) (len : ∀ ds s r s', A ds s r s' → ds.length + 1 = ps.length)
    (body : ∀ X : Unit → Cx, SX C N (defScope st) (fun _ => true) kk X → ∀ ds s r s', A ds s r s' → wfA ds → ∀ Z u, SB X Z allB (cellsB N ds) [bx 0 u s] (defBody st) { nx := fun _ O => r = .none ∧ O = [bx 0 u s'], rt := fun P R _ O => P = dP r ∧ (flatD r || !R.contains 0) = true ∧ O = [bx 0 u s'] })
    (hwf : ∀ ds s r s', A ds s r s' → wfA ds) : Ok C (kk + 1) x ps (spBox A) := by
  refine ok_def d S (fun vs H Q E h => ?_) fun X hx vs H Q E h => ?_
  · obtain ⟨b, l, rest, ds, s, s', r, F, rfl, _, _, _, _, _, _, hd, ha, _⟩ := h
    rw [List.length_cons, hd.length, len ds s r s' ha]
  · obtain ⟨b, l, rest, ds, s, s', r, F, rfl, hne, hb, hl, hF, hFb, hFl, hd, ha, q⟩ := h
    have hN : ds.length + 1 ≤ N.length := by rw [len ds s r s' ha]; exact hps
    have hz : ∀ a, minus H b l a = none → H a ≠ none → a = b ∨ a = l := fun a h1 h2 => by
      unfold minus at h1
      split at h1
      · assumption
      · exact absurd h1 h2
    refine body X hx ds s r s' ha (hwf ds s r s' ha) (minus H b l) (b, l) [] (fun k hk => absurd hk (by simp)) _ ⟨?_, ?_, ?_, ?_⟩ _ _ _ H (rel0B hne hb hl hF hFb hFl hd (hwf ds s r s' ha) hN)
    · rintro σ H1 ρ π E O ⟨rfl, rfl⟩ rr
      obtain ⟨e1, e2⟩ := box_end rr
      exact q .non H1 (rel_minus rr) e1 e2 .non
    · rintro v σ H1 ρ π E O P R ⟨rfl, hf, rfl⟩ rr rv
      have hf := flat_or hf
      obtain ⟨e1, e2⟩ := box_end rr
      obtain ⟨v0, _, _, _, pb, pl, _, _⟩ := rr.obj (bx 0 (b, l) s') List.mem_cons_self
      refine q v H1 (rel_minus rr) e1 e2 ?_
      rcases hf with hf | hf
      · exact rv.1.flat hf
      · refine rv.1.mono (fun a ha => Classical.byContradiction fun c => ?_) (Same.refl _)
        have za : minus H b l a = none ∧ a ≠ b ∧ a ≠ l := by
          rcases ha with ⟨r, hr, cc⟩ | ⟨z, _, c2⟩
          · exact ⟨rr.zr r a cc (fun e => hf (e ▸ hr)), fun e => rr.dx r 0 a cc (e ▸ pb), fun e => rr.dx r 0 a cc (e ▸ pl)⟩
          · exact ⟨z, fun e => c2 0 (e ▸ pb), fun e => c2 0 (e ▸ pl)⟩
        exact (hz a za.1 c).elim za.2.1 za.2.2
    · exact fun σ H ρ π E O x _ => x
    · exact fun σ H ρ π E O x _ => x
/-- a def that draws from the box; its answer is one of some -/
theorem ok_BE {A : List PyData → Prop} {P : List PyData → PyData → Prop} (d : DefAt C x st ps) (S : FnScope N ps (defScope st)) (hps : ps.length ≤ N.length) (len : ∀ ds, A ds → ds.length + 1 = ps.length) (hwf : ∀ ds, A ds → wfA ds)
    (body : ∀ X : Unit → Cx, SX C N (defScope st) (fun _ => true) kk X → ∀ ds, A ds → wfA ds → ∀ Z u s, SB X Z allB (cellsB N ds) [bx 0 u s] (defBody st) { nx := fun _ _ => False, rt := retB u fun r _ => P ds r }) : Ok C (kk + 1) x ps (spBoxE A fun ds d => P ds d ∧ wfD d) := by
  refine ok_def d S (fun vs H Q E h => ?_) fun X hx vs H Q E h => ?_
  · obtain ⟨b, l, rest, ds, s, F, rfl, _, _, _, _, _, _, hd, ha, _⟩ := h
    rw [List.length_cons, hd.length, len ds ha]
  · obtain ⟨b, l, rest, ds, s, F, rfl, hne, hb, hl, hF, hFb, hFl, hd, ha, q⟩ := h
    have hN : ds.length + 1 ≤ N.length := by rw [len ds ha]; exact hps
    have hz : ∀ a, minus H b l a = none → H a ≠ none → a = b ∨ a = l := fun a h1 h2 => by
      unfold minus at h1
      split at h1
      · assumption
      · exact absurd h1 h2
    refine wB_nonx (body X hx ds ha (hwf ds ha) (minus H b l) (b, l) s [] (fun k hk => absurd hk (by simp)) _ ⟨?_, ?_, ?_, ?_⟩ _ _ _ H (rel0B hne hb hl hF hFb hFl hd (hwf ds ha) hN))
    · exact fun σ H ρ π E O x _ => x
    · rintro v σ H1 ρ π E O P' R ⟨r, s', rfl, hf, rfl, hP⟩ rr rv
      have hf := flat_or hf
      obtain ⟨e1, e2⟩ := box_end rr
      obtain ⟨v0, _, _, _, pb, pl, _, _⟩ := rr.obj (bx 0 (b, l) s') List.mem_cons_self
      refine q r s' v H1 ⟨hP, rv.2⟩ (rel_minus rr) e1 e2 ?_
      rcases hf with hf | hf
      · exact rv.1.flat hf
      · refine rv.1.mono (fun a ha => Classical.byContradiction fun c => ?_) (Same.refl _)
        have za : minus H b l a = none ∧ a ≠ b ∧ a ≠ l := by
          rcases ha with ⟨r, hr, cc⟩ | ⟨z, _, c2⟩
          · exact ⟨rr.zr r a cc (fun e => hf (e ▸ hr)), fun e => rr.dx r 0 a cc (e ▸ pb), fun e => rr.dx r 0 a cc (e ▸ pl)⟩
          · exact ⟨z, fun e => c2 0 (e ▸ pb), fun e => c2 0 (e ▸ pl)⟩
        exact (hz a za.1 c).elim za.2.1 za.2.2
    · exact fun σ H ρ π E O x _ => x
    · exact fun σ H ρ π E O x _ => x
/-- a def that draws from the box; its answer is one of some, maybe old -/
theorem ok_BN {A : List PyData → Prop} {P : List PyData → PyData → Prop} (d : DefAt C x st ps) (S : FnScope N ps (defScope st)) (hps : ps.length ≤ N.length) (len : ∀ ds, A ds → ds.length + 1 = ps.length) (hwf : ∀ ds, A ds → wfA ds)
    (body : ∀ X : Unit → Cx, SX C N (defScope st) (fun _ => true) kk X → ∀ ds, A ds → wfA ds → ∀ Z u s, SB X Z allB (cellsB N ds) [bx 0 u s] (defBody st) { nx := fun _ _ => False, rt := retN u fun r _ => P ds r }) : Ok C (kk + 1) x ps (spBoxN A fun ds d => P ds d ∧ wfD d) := by
  refine ok_def d S (fun vs H Q E h => ?_) fun X hx vs H Q E h => ?_
  · obtain ⟨b, l, rest, ds, s, F, rfl, _, _, _, _, _, _, hd, ha, _⟩ := h
    rw [List.length_cons, hd.length, len ds ha]
  · obtain ⟨b, l, rest, ds, s, F, rfl, hne, hb, hl, hF, hFb, hFl, hd, ha, q⟩ := h
    have hN : ds.length + 1 ≤ N.length := by rw [len ds ha]; exact hps
    have hd' := hd
    -- what was there and is no part of what is handed in has a colour of its own
    have hv := hd.length
    have base : Rel F (fun r a => (r = 0 ∧ F a ≠ none) ∨ (r = 4242 ∧ F a = none ∧ H a ≠ none ∧ a ≠ b ∧ a ≠ l)) (fun s a => s = 0 ∧ (a = b ∨ a = l)) (cellsB N ds) [bx 0 (b, l) s] [(.non, keepP (minus H b l), [0, 4242])] (L2.start N (.ref b :: rest)) H := {
      cell := fun i P R e => by
        obtain ⟨j, d, rfl, hd1, rfl, rfl⟩ := cellsB_get e
        obtain ⟨v, e1, rv⟩ := hd.get hd1
        exact ⟨v, start_get (vs := .ref b :: rest) (i := j + 1) e1, dP_rOf (rv.cut fun a o _ e => ⟨hF _ _ e, 0, List.mem_singleton.mpr rfl, .inl ⟨rfl, by rw [e]; exact fun z => nomatch z⟩⟩) (wfA_iff.mp (hwf ds ha) d (List.mem_of_getElem? hd1))⟩
      obj := fun o ho => by
        have e : o = bx 0 (b, l) s := by simpa using ho
        subst e
        exact ⟨.ref b, start_get (vs := .ref b :: rest) (i := 0) rfl, rfl, hne, ⟨rfl, .inl rfl⟩, ⟨rfl, .inr rfl⟩, hb, hl⟩
      held := fun k hk => by
        have e : k = (.non, keepP (minus H b l), [0, 4242]) := by simpa using hk
        subst e
        refine fun a o e => ⟨minus_sub _ _ e, ?_⟩
        by_cases c : F a = none
        · refine ⟨4242, by simp, .inr ⟨rfl, c, (by rw [minus_sub _ _ e]; exact fun z => nomatch z), fun z => ?_, fun z => ?_⟩⟩
          · rw [z] at e; unfold minus at e; rw [if_pos (.inl rfl)] at e; cases e
          · rw [z] at e; unfold minus at e; rw [if_pos (.inr rfl)] at e; cases e
        · exact ⟨0, by simp, .inl ⟨rfl, c⟩⟩
      len := by rw [cellsB_len hN, start_len (by rw [List.length_cons]; omega)]
      dj := fun r s a h1 h2 => by
        rcases h1 with ⟨e1, h1⟩ | ⟨e1, h1, _⟩ <;> rcases h2 with ⟨e2, h2⟩ | ⟨e2, h2, _⟩
        · rw [e1, e2]
        · exact absurd h2 h1
        · exact absurd h1 h2
        · rw [e1, e2]
      dp := fun r s a h1 h2 => h1.1.trans h2.1.symm
      dx := fun r s a h1 h2 => by
        rcases h1 with ⟨_, h1⟩ | ⟨_, _, _, n1, n2⟩
        · rcases h2.2 with e | e
          · exact h1 (e ▸ hFb)
          · exact h1 (e ▸ hFl)
        · exact h2.2.elim n1 n2
      lr := fun r a h e => by
        rcases h with ⟨_, h⟩ | ⟨_, _, h, _⟩
        · exact h (hF.free e)
        · exact h e
      lp := fun r a h e => by
        rcases h.2 with c | c
        · subst c; rw [hb] at e; cases e
        · subst c; rw [hl] at e; cases e
      keep := hF
      zr := fun r a h hr => by
        rcases h with ⟨e, _⟩ | ⟨_, e, _⟩
        · exact absurd e hr
        · exact e
      zp := fun r a h => by
        rcases h.2 with c | c
        · rw [c]; exact hFb
        · rw [c]; exact hFl
      z0 := fun a h => by
        rcases h with ⟨_, h⟩ | ⟨e, _⟩
        · exact h
        · exact absurd e (by decide) }
    refine wB_nonx (body X hx ds ha (hwf ds ha) F (b, l) s _ (fun k hk => by
      have e : k = (.non, keepP (minus H b l), [0, 4242]) := by simpa using hk
      subst e
      intro r hr
      have : r = 0 ∨ r = 4242 := by simpa using hr
      rcases this with e | e <;> subst e <;> rfl) _ ⟨?_, ?_, ?_, ?_⟩ _ _ _ H base)
    · exact fun σ H ρ π E O x _ => x
    · rintro v σ H1 ρ π E O P' R ⟨r, s', rfl, h42, rfl, hP⟩ rr rv
      have h42 : 4242 ∉ R := by simpa using h42
      obtain ⟨e1, e2⟩ := box_end rr
      have kp := rr.held _ List.mem_cons_self
      obtain ⟨v0, _, _, _, pb, pl, _, _⟩ := rr.obj (bx 0 (b, l) s') List.mem_cons_self
      have key : ∀ a, (col ρ R a ∨ (F a = none ∧ (∀ r, ¬ρ r a) ∧ ∀ s, ¬π s a)) → F a ≠ none ∨ H a = none := fun a ha => by
        by_cases cF : F a = none
        · right
          refine Classical.byContradiction fun cH => ?_
          have nb : a ≠ b := fun z => by
            subst z
            rcases ha with ⟨r, _, c⟩ | ⟨_, _, c⟩
            · exact rr.dx r 0 a c pb
            · exact c 0 pb
          have nl : a ≠ l := fun z => by
            subst z
            rcases ha with ⟨r, _, c⟩ | ⟨_, _, c⟩
            · exact rr.dx r 0 a c pl
            · exact c 0 pl
          obtain ⟨o, ho⟩ := Option.ne_none_iff_exists'.mp cH
          obtain ⟨_, r2, hr2, c2⟩ := kp a o (by rw [minus_at nb nl]; exact ho)
          rcases ha with ⟨r, hr, c⟩ | ⟨_, c, _⟩
          · have : r = r2 := rr.dj r r2 a c c2
            subst this
            have h0 : r = 0 ∨ r = 4242 := by simpa using hr2
            rcases h0 with e | e
            · subst e; exact rr.z0 a c cF
            · subst e; exact h42 hr
          · exact c r2 c2
        · exact .inl cF
      classical
      refine q r s' v H1 (fun a => if F a ≠ none ∨ H a = none then H1 a else none) ⟨hP, rv.2⟩ (fun x o h1 h2 e => (kp x o (by rw [minus_at h1 h2]; exact e)).1) e1 e2 (fun a o e => ?_) (fun a o e => ?_) (fun a h => Classical.byContradiction fun c => h (if_neg c)) (rv.1.cut fun a o ha e => ⟨(if_pos (key a ha)).trans e, trivial⟩)
      · exact (if_pos (.inl (by rw [e]; exact fun z => nomatch z))).trans (rr.keep a o e)
      · have e : (if F a ≠ none ∨ H a = none then H1 a else none) = some o := e
        split at e
        · exact e
        · cases e
    · exact fun σ H ρ π E O x _ => x
    · exact fun σ H ρ π E O x _ => x
end
section
variable {C : Ctx} {N : List Str} {sc : Scope} {fn : Str → Bool} {k : Nat} {J : Type} {X : J → Cx}
variable {Z : Hp} {B : Nat → Bool} {E E' : List Cell} {O O1 O2 O3 O' : List Ob} {es : List Expr} {R : List Nat} {ds : List PyData} {pos p p2 pos' tp : Pos} {q : Po} {rest : List Stmt}
/-- a, b = f(box, ..), of which one answer comes, maybe an old one -/
theorem sb_unpackBN {x y z1 z2 : Str} {i1 i2 j kt : Nat} {pz1 pz2 : Pos} {ps : List Str} {A : List PyData → Prop} {P : List PyData → PyData → Prop} {kk : Nat} {u : Addr × Addr} {s s1 : Bx} (hx : SX C N sc fn k X) (ok : Ok C kk x ps (spBoxN A P)) (hk : kk ≤ k) (hg : Gb sc x)
    (nm1 : Nm N i1 z1) (nm2 : Nm N i2 z2) (hl1 : Loc sc z1) (hl2 : Loc sc z2) (hf1 : fn z1 = true ∨ sc.names.lookup z1 = some .local) (hf2 : fn z2 = true ∨ sc.names.lookup z2 = some .local)
    (nm : Nm N j y) (hv : Vis sc y) (ha : EA X Z E (bx j u s :: O) es ds R (bx j u s1 :: O1)) (hO : noOb O1 [j] = true) (hO2 : noOb (bx j u s1 :: O1) [i1, i2] = true) (hA : wfA ds → A ds) (hP : ∀ d, P ds d → ∃ d1 d2, d = .tuple [d1, d2]) (hw : ∀ d, P ds d → wfA ds → wfD d)
    (hdb : (x == ("__debug__" : Str)) = false) (he : ∀ i, starEach (.Name y p2 :: es) (X i).env = (false, eval (.Name y p2) (X i).env) :: starEach es (X i).env) (hpl : ∀ i, (backTo pos (starEach es (X i).env)).any (·.1) = false)
    (kn : ∀ d1 d2 (s' : Bx), P ds (.tuple [d1, d2]) → SB X Z B ((E.set i1 (dc d1 (rOf d1 ((i1 + 1) :: R)))).set i2 (dc d2 (rOf d2 ((i1 + 1) :: R)))) (bx j u s' :: O1) rest q)
    (hs : ∀ i', swapsWithSole [.Tuple [.Name z1 pz1, .Name z2 pz2] kt tp] (.Call (.Name x p) (.Name y p2 :: es) [] pos) pos'.line (X i').env = pure false) (hsw : ∀ i', swappedStores [.Tuple [.Name z1 pz1, .Name z2 pz2] kt tp] (.Call (.Name x p) (.Name y p2 :: es) [] pos) (X i').env = pure none)
    (h1 : ∀ i', (assignEach [.Tuple [.Name z1 pz1, .Name z2 pz2] kt tp] (X i').env).map (·.2) = [assign (.Tuple [.Name z1 pz1, .Name z2 pz2] kt tp) (X i').env]) :
    SB X Z B E (bx j u s :: O) (.Assign [.Tuple [.Name z1 pz1, .Name z2 pz2] kt tp] (.Call (.Name x p) (.Name y p2 :: es) [] pos) pos' :: rest) q := fun K hK D m ρ π σ H h => by
  obtain ⟨g, fd, hm, hkp, hbi, G⟩ := ok.ex
  obtain ⟨b, l⟩ := u
  obtain ⟨v, hsl, rfl, hne, _⟩ := h.obj (bx j (b, l) s) List.mem_cons_self
  refine wB_cons ⟨_, fun i => ps_asg (pe_call (E := E0) (dvs := []) (ds := []) (f := g) (fd := fd) (ps := ps) (sp := spBoxN A P) (k := kk) (CX := CX0) ?_ ((hx.room i).mono hk) (gl_of hx hg i) ?_ ?_ ?_ .nil pass0 (pa_cons (pe_var (by rw [hx.Nx i]; exact nm.at_) (by rw [hx.scx i]; exact hv) nm.d1 nm.d2) (pa_w es i) (he i)) hdb (he i) (hpl i)) (pg_w _ i) (hs i) (hsw i) (h1 i), .ref b, hsl, ha ρ π K σ H h _ fun vs ρ1 π1 H1 h1 g1 rs ws => ?_⟩
  · rw [hx.P i, hx.w i, hx.K i, hx.mg i, hx.base i]; exact G
  · rw [hx.mg i]; exact hm
  · rw [hx.K i]; exact hkp
  · rw [hx.K i]; exact hbi
  · show spBoxN A P (V.ref b :: vs ++ []) H1 _ E0
    rw [List.append_nil]
    obtain ⟨v1, hsl1, rfl, hne1, pb, pl, hbb, hll⟩ := h1.obj (bx j (b, l) s1) List.mem_cons_self
    classical
    have nbl : ∀ a, vis ρ1 π1 R H a → a ≠ b ∧ a ≠ l := fun a ha => by
      rcases ha with ⟨r, _, c⟩ | ⟨_, _, c⟩
      · exact ⟨fun z => h1.dx r j a c (z ▸ pb), fun z => h1.dx r j a c (z ▸ pl)⟩
      · exact ⟨fun z => c j (z ▸ pb), fun z => c j (z ▸ pl)⟩
    refine ⟨b, l, vs, ds, s1, fun a => if vis ρ1 π1 R H a then H1 a else none, rfl, hne1, hbb, hll, fun a o e => ?_, ?_, ?_, rs.cut fun a o ha e => ⟨(if_pos ha).trans e, trivial⟩, hA ws, fun d s' u' H2 F' hPd keep hq hl s1' s2' s3' rv => ?_⟩
    · have e : (if vis ρ1 π1 R H a then H1 a else none) = some o := e
      split at e
      · exact e
      · cases e
    · show (if vis ρ1 π1 R H b then H1 b else none) = none
      rw [if_neg fun c => (nbl b c).1 rfl]
    · show (if vis ρ1 π1 R H l then H1 l else none) = none
      rw [if_neg fun c => (nbl l c).2 rfl]
    · obtain ⟨d1, d2, rfl⟩ := hP d hPd
      have wd := hw _ hPd ws
      obtain ⟨r2, g2⟩ := box_rel h1 hO hsl hne1 pb pl keep hq hl
      have h2 := r2.paint (w := i1 + 1) (H := H) (Nat.succ_ne_zero _) fun a e => h.keep.free e
      have rr : Fd (col (paint ρ1 π1 (i1 + 1) H H2) ((i1 + 1) :: R)) H2 u' (.tuple [d1, d2]) := rv.cut fun a o _ e => ⟨s2' _ _ e, by
        rcases s3' a (by rw [e]; exact fun z => nomatch z) with z | z
        · have : vis ρ1 π1 R H a := Classical.byContradiction fun c => z (if_neg c)
          exact vis_paint this (s2' _ _ e)
        · exact vis_paint (vis_new h1 g1 z) (s2' _ _ e)⟩
      refine (show TgD X (.Tuple [.Name z1 pz1, .Name z2 pz2] kt tp) [i1, i2] unT from tg_tup hx (tgs_cons hx nm1 hl1 hf1 (tgs_cons hx nm2 hl2 hf2 tgs_nil))) _ H2 H2 u' _ [d1, d2] σ _ (Same.refl _) rr rfl rfl fun us rus => ?_
      exact kn d1 d2 s' hPd K hK D m _ _ _ _ (Rel.setC (is := [i1, i2]) (ds := [d1, d2]) h2 (fun o ho => by
        rcases List.mem_cons.mp ho with e | ho
        · subst e; exact noOb.ne (O := bx j (b, l) s1 :: O1) hO2 (o := bx j (b, l) s1) List.mem_cons_self
        · exact noOb.ne (O := bx j (b, l) s1 :: O1) hO2 (List.mem_cons_of_mem _ ho)) rus wd.2)
/-- the law's body from the box on -/
theorem law_on {rest : List Stmt} {D : Ends} {σ : L2.St} {S : Addr → Prop} {F : Hp} {b l : Addr} {s : Bx} {j : Nat} (hne : b ≠ l) (hb : F b = none) (hl : F l = none) (hs : σ[j]? = some (some (.ref b))) (hr : ∀ H, D.rt (.bl true) H)
    (h : ∀ Z u, SB X Z allB (List.replicate σ.length none) [bx j u s] rest { nx := fun _ _ => False, rt := fun P R E O => P = dP (.bool true) }) : ExB X rest D σ S F (boxM b l s) := fun F1 H f hm => by
  have m1 := hm.mu (b, .lst [.ref l, .int s.2]) (by simp [boxM])
  have m2 := hm.mu (l, .lst (s.1.map .int)) (by simp [boxM])
  refine wB_nonx (h F1 (b, l) [] (fun k hk => absurd hk (by simp)) _ ⟨?_, ?_, ?_, ?_⟩ (fun _ _ => False) (fun s a => s = j ∧ (a = b ∨ a = l)) σ H ?_)
  · exact fun σ H ρ π E O x _ => x
  · rintro v σ H1 ρ π E O P R rfl rr rv
    cases rv.1
    exact hr H1
  · exact fun σ H ρ π E O x _ => False.elim x
  · exact fun σ H ρ π E O x _ => False.elim x
  · exact {
      cell := fun i P R e => by
        rw [List.getElem?_replicate] at e
        split at e <;> cases e
      obj := fun o ho => by
        have e : o = bx j (b, l) s := by simpa using ho
        subst e
        exact ⟨.ref b, hs, rfl, hne, ⟨rfl, .inl rfl⟩, ⟨rfl, .inr rfl⟩, m1.1, m2.1⟩
      held := fun k hk => absurd hk (by simp)
      len := List.length_replicate
      dj := fun r s a h1 _ => h1.elim
      dp := fun r s a h1 h2 => h1.1.trans h2.1.symm
      dx := fun r s a h1 _ => h1
      lr := fun r a h => h.elim
      lp := fun r a h e => by
        rcases h.2 with c | c
        · subst c; rw [m1.1] at e; cases e
        · subst c; rw [m2.1] at e; cases e
      keep := hm.fa
      zr := fun r a h => h.elim
      zp := fun r a h => by
        rcases h.2 with c | c
        · rw [c]; exact m1.2
        · rw [c]; exact m2.2
      z0 := fun a h => h.elim }
end
end G

namespace G
open PySem PySem.Spec PyProof.Rows L2
section
variable {C : Ctx} {N : List Str} {sc : Scope} {fn : Str → Bool} {k : Nat} {J : Type} {X : J → Cx}
variable {Z : Hp} {E E' : List Cell} {O O1 O2 O3 O' : List Ob} {e a b c : Expr} {es : List Expr} {P : OP} {R R1 R2 R3 R' : List Nat} {d d1 d2 d3 : PyData} {ds : List PyData} {pos p p2 pos' : Pos}
variable {α : Type} {l l2 : List α} {g : α → PyData} {i j : Int}
theorem flatM (hg : ∀ a, flatD (g a) = true) : (l.map g).all flatD = true := by rw [List.all_map]; exact List.all_eq_true.mpr fun a _ => hg a
theorem ee_ixT0 {p0 : Pos} {m : Nat} (hx : SX C N sc fn k X) (ha : ED X Z E O a (.tuple (d :: ds)) R O1) : ED X Z E O (.Subscript a (.Constant (.int 0) m p0) pos) d R O1 := ee_ixT hx ha ee_int (atI_hd _ _) fun _ _ => rfl
theorem ee_ixT1 {p0 : Pos} {m : Nat} (hx : SX C N sc fn k X) (ha : ED X Z E O a (.tuple (d1 :: d :: ds)) R O1) : ED X Z E O (.Subscript a (.Constant (.int 1) m p0) pos) d R O1 := ee_ixT hx ha ee_int (atI_nat (j := 1) rfl) fun _ _ => rfl
theorem ee_ixT2 {p0 : Pos} {m : Nat} (hx : SX C N sc fn k X) (ha : ED X Z E O a (.tuple (d1 :: d2 :: d :: ds)) R O1) : ED X Z E O (.Subscript a (.Constant (.int 2) m p0) pos) d R O1 := ee_ixT hx ha ee_int (atI_nat (j := 2) rfl) fun _ _ => rfl
theorem ee_ixSn {w : List Nat} (ha : ED X Z E O a (dS w) R1 O1) (hb : ED X Z E O1 b (.int i) R2 O2) (h0 : 0 ≤ i) (h1 : i < w.length) (hs : PlainIx b) : ED X Z E O (.Subscript a b pos) (dS [w.getD i.toNat default]) [] O2 := ee_ixS ha hb (atI_in h0 h1) hs
theorem ee_ixMn {di : Inhabited α} (hx : SX C N sc fn k X) (ha : ED X Z E O a (.list (l.map g)) R O1) (hdi : Dflt di) (hb : ED X Z E O1 b (.int i) R2 O2) (hg : ∀ a, flatD (g a) = true) (h0 : 0 ≤ i) (h1 : i < l.length) (hs : PlainIx b) : ED X Z E O (.Subscript a b pos) (g (l.getD i.toNat default)) [] O2 :=
  (ee_ixL hx ha hb (atI_map (atI_in h0 h1)) hs).flat (hg _)
theorem ee_ixLn {di : Inhabited α} (hx : SX C N sc fn k X) (ha : ED X Z E O a (.list (l.map g)) R O1) (hdi : Dflt di) (hb : ED X Z E O1 b (.int i) R2 O2) (h0 : 0 ≤ i) (h1 : i < l.length) (hs : PlainIx b) : ED X Z E O (.Subscript a b pos) (g (l.getD i.toNat default)) R O2 :=
  ee_ixL hx ha hb (atI_map (atI_in h0 h1)) hs
theorem ee_ixTn {di : Inhabited α} (hx : SX C N sc fn k X) (ha : ED X Z E O a (.tuple (l.map g)) R O1) (hdi : Dflt di) (hb : ED X Z E O1 b (.int i) R2 O2) (h0 : 0 ≤ i) (h1 : i < l.length) (hs : PlainIx b) : ED X Z E O (.Subscript a b pos) (g (l.getD i.toNat default)) R O2 :=
  ee_ixT hx ha hb (atI_map (atI_in h0 h1)) hs
theorem ee_ixMlast {p0 p1 : Pos} {m : Nat} {di : Inhabited α} (hx : SX C N sc fn k X) (ha : ED X Z E O a (.list (l.map g)) R O1) (hdi : Dflt di) (hg : ∀ a, flatD (g a) = true) (hl : l ≠ []) (hs : PlainIx (.UnaryOp .USub (.Constant (.int 1) m p0) p1)) :
    ED X Z E O (.Subscript a (.UnaryOp .USub (.Constant (.int 1) m p0) p1) pos) (g (l.getLast?.getD default)) [] O1 :=
  (ee_ixL hx ha (ee_neg ee_int) (atI_map (atI_neg1 hl)) hs).flat (hg _)
theorem ee_slM {lo hi : Option Expr} {m u : Option Int} (hx : SX C N sc fn k X) (ha : ED X Z E O a (.list (l.map g)) R O1) (hl : EO X Z E O1 lo m O2) (hu : EO X Z E O2 hi u O3) :
    ED X Z E O (.Subscript a (.Slice lo hi none pos') pos) (.list ((cutL l m u).map g)) R O3 := (ee_slL hx ha hl hu).to (by rw [cutL_map])
theorem ee_slMF {lo hi : Option Expr} {m u : Option Int} (hx : SX C N sc fn k X) (ha : ED X Z E O a (.list (l.map g)) R O1) (hl : EO X Z E O1 lo m O2) (hu : EO X Z E O2 hi u O3) (hg : ∀ a, flatD (g a) = true) :
    ED X Z E O (.Subscript a (.Slice lo hi none pos') pos) (.list ((cutL l m u).map g)) [] O3 := (ee_slLF hx ha hl hu (flatM hg)).to (by rw [cutL_map])
theorem ee_ixI2 {x y : Int} (hx : SX C N sc fn k X) (ha : ED X Z E O a (.list [.int x, .int y]) R O1) (hb : ED X Z E O1 b (.int i) R2 O2) (h0 : 0 ≤ i) (h1 : i < 2) (hs : PlainIx b) : ED X Z E O (.Subscript a b pos) (.int (if i = 0 then x else y)) [] O2 := by
  refine (ee_ixL (d := .int (if i = 0 then x else y)) hx ha hb ?_ hs).flat rfl
  by_cases c : i = 0
  · subst c; exact atI_hd _ _
  · obtain rfl : i = 1 := by omega
    exact atI_nat (j := 1) rfl
theorem ee_slT {lo hi : Option Expr} {l u : Option Int} (hx : SX C N sc fn k X) (ha : ED X Z E O a (.tuple ds) R O1) (hl : EO X Z E O1 lo l O2) (hu : EO X Z E O2 hi u O3) :
    ED X Z E O (.Subscript a (.Slice lo hi none pos') pos) (.tuple (cutL ds l u)) R O3 := fun ρ π K σ H h Q q =>
  ⟨_, fun n => pe_slice (r := rSlA C.K) (by rw [← hx.K n]; exact sl_tupA) (pe_w a n) (po_w lo n) (po_w hi n), ha ρ π K σ H h _ fun v1 ρ1 π1 H1 h1 g1 r1 => hl.run h1 fun ρ2 π2 H2 h2 g2 => hu.run h2 fun ρ3 π3 H3 h3 g3 => by
    have r1' := r1.1.cut fun a o ha e => vis_keep h1 (g2.trans g3) ha e
    have w1 := r1.2
    have g := (g1.trans g2).trans g3
    have w : wfD (.tuple (cutL ds l u)) := ⟨Nat.lt_of_le_of_lt (cutL_le _ _ _) w1.1, w1.2.sub fun _ hd => cutL_mem hd⟩
    cases r1' with
    | @tup p xs _ hA e1 q1 =>
      refine ⟨p, xs, rfl, SqT.of e1, fun hw => ?_, fun _ z hz => ?_⟩
      · have e : cutL ds l u = ds := by
          unfold cutL
          rw [← q1.length, hw.1, hw.2, List.drop_zero, Nat.sub_zero, q1.length, List.take_length]
        rw [e] at q w
        exact q _ ρ3 π3 H3 h3 g ⟨.tup hA e1 q1, w⟩
      · have s : Same H3 (upd H3 z (.tup (cutV xs l u))) := same_new hz
        exact q _ ρ3 π3 _ (h3.same s) (g.trans (Go.same s)) ⟨.tup (vis_new h3 g hz) upd_same ((q1.cut' l u).mono (fun _ h => h) s), w⟩⟩
theorem rOf_flat (h : flatD d = true) : rOf d R = [] := if_pos h
theorem rOf_non (h : flatD d = false) : rOf d R = R := by unfold rOf; rw [h]; rfl
theorem ea_consR (ha : ED X Z E O e d R1 O1) (hR : rOf d R1 = R3) (hb : EA X Z E O1 es ds R2 O2) (hs : ∀ i, starEach (e :: es) (X i).env = (false, eval e (X i).env) :: starEach es (X i).env) : EA X Z E O (e :: es) (d :: ds) (R3 ++ R2) O2 := hR ▸ ea_cons' ha hb hs
theorem ee_nameR {x : Str} {j : Nat} (hx : SX C N sc fn k X) (nm : Nm N j x) (hv : Vis sc x) (hs : E[j]? = some (some (P, R))) (hR : R = R') : EE X Z E O (.Name x pos) P R' O := hR ▸ ee_name hx nm hv hs
/-- a list of one flat thing -/
theorem ee_list1I {n : Int} (ha : ED X Z E O e (.int n) R O1) (hs : ∀ i, starEach [e] (X i).env = (false, eval e (X i).env) :: starEach [] (X i).env) : ED X Z E O (.List [e] pos) (.list (([n] : List Int).map .int)) [] O1 :=
  ee_list (ea_cons' ha ea_nil' hs) (by rw [sizeLine_eq]; exact (by decide : 1 < 16777216))
theorem ee_list1S {w : List Nat} (ha : ED X Z E O e (dS w) R O1) (hs : ∀ i, starEach [e] (X i).env = (false, eval e (X i).env) :: starEach [] (X i).env) : ED X Z E O (.List [e] pos) (.list (([w] : List (List Nat)).map dS)) [] O1 :=
  ee_list (ea_cons' ha ea_nil' hs) (by rw [sizeLine_eq]; exact (by decide : 1 < 16777216))
theorem of_eqB (hx : SX C N sc fn k X) {x y : Bool} : OpF X (.cmp .Eq) (.bool x) (.bool y) (.bool (x == y)) := of_eq hx (Nat.zero_le _) (Nat.zero_le _)
theorem of_neB (hx : SX C N sc fn k X) {x y : Bool} : OpF X (.cmp .NotEq) (.bool x) (.bool y) (.bool (!(x == y))) := of_ne hx (Nat.zero_le _) (Nat.zero_le _)
theorem cf_listMF (hx : SX C N sc fn k X) (hg : ∀ a, flatD (g a) = true) : CbF X (.type "list") [.list (l.map g)] (.list (l.map g)) := cf_listF hx (flatM hg)
theorem cf_tupleMF (hx : SX C N sc fn k X) (hg : ∀ a, flatD (g a) = true) : CbF X (.type "tuple") [.list (l.map g)] (.tuple (l.map g)) := cf_tupleF hx (flatM hg)
theorem noC_len (n : Nat) : (List.replicate n (none : Cell)).length = n := List.length_replicate
end
theorem swapped2 {x y : Str} {a b : Expr} {px py pt pt2 : Pos} {kt k2 : Nat} {env : Env} (hk : env.scope.kind = .function) (hx : env.scope.names.lookup x = some .local) (hy : env.scope.names.lookup y = some .local) (hl : (py.line == px.line) = true) (hne : (y == x) = false)
    (hs : ([a, b].any fun | .Starred .. => true | _ => false) = false) (hf : [a, b].all (foldedForSure 8) = false) (hc : [a, b].all (constantsAlone 8) = false) :
    swappedStores [.Tuple [.Name x px, .Name y py] kt pt] (.Tuple [a, b] k2 pt2) env = pure (some [x, y]) := by
  have hb : env.blockKind = .function := by unfold Env.blockKind; rw [hk]; rfl
  have k1 : env.kindOf x = some .local := hx
  have k2' : env.kindOf y = some .local := hy
  have hn : ([Expr.Name x px, Expr.Name y py].filterMap fun
    | .Name id pos => if env.kindOf id == some .local && pos.line == ((([Expr.Name x px, Expr.Name y py] : List Expr).head?.map (·.pos.line)).getD 0) then some id else none
    | _ => none) = [x, y] := by
    have hl' : (py.line == ((([Expr.Name x px, Expr.Name y py] : List Expr).head?.map (·.pos.line)).getD 0)) = true := hl
    have hl2 : (px.line == ((([Expr.Name x px, Expr.Name y py] : List Expr).head?.map (·.pos.line)).getD 0)) = true := by show (px.line == px.line) = true; simp
    simp only [List.filterMap_cons, k1, k2', hl', hl2]
    rfl
  have he : ([x, y].eraseDups).length = 2 := by
    have hne' : ¬ y = x := fun e => by rw [e] at hne; simp at hne
    simp [List.eraseDups_cons, hne']
  unfold swappedStores
  simp only [hb, hf, hc]
  refine (if_neg (show ¬(false = true) from Bool.false_ne_true)).trans ?_
  refine (if_neg (fun h => by
    have h' : ([a, b].any fun | .Starred .. => true | _ => false) = true := h
    rw [hs] at h'; cases h')).trans ?_
  generalize hN : List.filterMap _ _ = nm
  have e : nm = [x, y] := hN.symm.trans hn
  subst e
  rw [he]
  exact (if_neg (show ¬(false = true) from Bool.false_ne_true)).trans ((if_neg Bool.false_ne_true).trans (if_neg Bool.false_ne_true))
section
variable {C : Ctx} {N : List Str} {sc : Scope} {fn : Str → Bool} {k : Nat} {J : Type} {X : J → Cx}
variable {Z : Hp} {B : Nat → Bool} {E : List Cell} {O O' : List Ob} {a b : Expr} {R : List Nat} {d1 d2 : PyData} {pos : Pos} {q : Po} {rest : List Stmt}
theorem sb_par' {x y : Str} {i j : Nat} {px py pt : Pos} {kt k2 : Nat} {pt2 : Pos} (hx : SX C N sc fn k X) (nm : Nm N i x) (nm2 : Nm N j y) (hij : i ≠ j) (hl : sc.names.lookup x = some .local) (hl2 : sc.names.lookup y = some .local) (ha : EA X Z E O [a, b] [d1, d2] R O') (hO : noOb O' [i, j] = true)
    (kk : SB X Z B ((E.set i (dc d1 (rOf d1 ((i + 1) :: R)))).set j (dc d2 (rOf d2 ((i + 1) :: R)))) O' rest q)
    (hk : sc.kind = .function) (hpl : (py.line == px.line) = true) (hne : (y == x) = false) (hst : ([a, b].any fun | .Starred .. => true | _ => false) = false) (hf : [a, b].all (foldedForSure 8) = false) (hc : [a, b].all (constantsAlone 8) = false)
    (hs : ∀ i, swapsWithSole [.Tuple [.Name x px, .Name y py] kt pt] (.Tuple [a, b] k2 pt2) pos.line (X i).env = pure false) :
    SB X Z B E O (.Assign [.Tuple [.Name x px, .Name y py] kt pt] (.Tuple [a, b] k2 pt2) pos :: rest) q :=
  sb_par hx nm nm2 hij hl hl2 ha hO kk (fun n => swapped2 (by rw [hx.scx n]; exact hk) (by rw [hx.scx n]; exact hl) (by rw [hx.scx n]; exact hl2) hpl hne hst hf hc) hs
end
end G

namespace G
open PySem PySem.Spec PyProof.Rows L2
/-! ### classes: methods, the making of an object -/
abbrev MethAt (K : PySem.W.Frag) (A : Addr) (m qual : Str) (st : Stmt) (ps : List Str) : Prop := ∃ (f : Addr) (fd : FuncData), Meth K A m f ∧ Fun K m qual st f fd ∧ Binds K fd ps []
abbrev InitAt (K : PySem.W.Frag) (A : Addr) (qual : Str) (st : Stmt) (ps : List Str) : Prop := ∃ (f : Addr) (fd : FuncData), Mk K A f ∧ Fun K "__init__" qual st f fd ∧ Binds K fd ps []
structure OkM (C : Ctx) (A : Addr) (k : Nat) (m : Str) (ps : List Str) (sp : Sp) : Prop where
  ex : ∃ (f : Addr) (fd : FuncData), Meth C.K A m f ∧ Binds C.K fd ps [] ∧ FnOk C.P C.w C.K C.mg C.base CX0 k f fd ps sp
structure OkI (C : Ctx) (A : Addr) (k : Nat) (ps : List Str) (sp : Sp) : Prop where
  ex : ∃ (f : Addr) (fd : FuncData), Mk C.K A f ∧ Binds C.K fd ps [] ∧ FnOk C.P C.w C.K C.mg C.base CX0 k f fd ps sp
section
variable {C : Ctx} {N ps : List Str} {x qual : Str} {st : Stmt} {kk : Nat} {A : Addr}
theorem fn_body {sp : Sp} {f : Addr} {fd : FuncData} (hf : Fun C.K x qual st f fd) (S : FnScope N ps (defScope st)) (len : ∀ vs H Q E, sp vs H Q E → vs.length = ps.length)
    (body : ∀ X : Unit → Cx, SX C N (defScope st) (fun _ => true) kk X → ∀ vs H Q E, sp vs H Q E → wB X (defBody st) { nx := fun _ H' => Q .non H', rt := Q } (L2.start N vs) H) : FnOk C.P C.w C.K C.mg C.base CX0 (kk + 1) f fd ps sp := by
  refine hf.ok S len fun cdv A outer s H vs Q E hr h => ?_
  obtain ⟨t, ht, q⟩ := body (fun _ => (cxOf CX0 C.P C.w C.K C.mg C.base N qual (defScope st) f cdv A outer s H E).nox) ⟨fun _ => rfl, fun _ => rfl, fun _ => rfl, fun _ => rfl, fun _ => rfl, S.nd, fun _ => rfl, fun _ => rfl, fun _ => rfl, fun _ => hr, fun _ _ _ => rfl, fun _ => rfl⟩ vs H Q E h
  exact ⟨t, ht (), q⟩
theorem ok_meth {sp : Sp} (d : MethAt C.K A x qual st ps) (S : FnScope N ps (defScope st)) (len : ∀ vs H Q E, sp vs H Q E → vs.length = ps.length)
    (body : ∀ X : Unit → Cx, SX C N (defScope st) (fun _ => true) kk X → ∀ vs H Q E, sp vs H Q E → wB X (defBody st) { nx := fun _ H' => Q .non H', rt := Q } (L2.start N vs) H) : OkM C A (kk + 1) x ps sp := by
  obtain ⟨f, fd, hm, hf, hb⟩ := d
  exact ⟨f, fd, hm, hb, fn_body hf S len body⟩
theorem ok_init {sp : Sp} (d : InitAt C.K A qual st ps) (S : FnScope N ps (defScope st)) (len : ∀ vs H Q E, sp vs H Q E → vs.length = ps.length)
    (body : ∀ X : Unit → Cx, SX C N (defScope st) (fun _ => true) kk X → ∀ vs H Q E, sp vs H Q E → wB X (defBody st) { nx := fun _ H' => Q .non H', rt := Q } (L2.start N vs) H) : OkI C A (kk + 1) ps sp := by
  obtain ⟨f, fd, hm, hf, hb⟩ := d
  exact ⟨f, fd, hm, hb, fn_body hf S len body⟩
/-- what the top has written of a class -/
theorem meth_mk {K : PySem.W.Frag} {A f : Addr} {m qual : Str} {st : Stmt} {ps : List Str} {od an : Option Addr} {sl : Array (Option Value)} {oc kV dc pm cd ct : Value} (a : PySem.W.findIn K (.ref A) m = some (some (.ref f))) (i : PySem.W.isFn K (.ref f) = true)
    (l : K.lookup f = some ⟨oc, od, .func (PySem.W.fnOf m qual (defArgs st) (defBody st) (defScope st) .none kV dc pm an cd ct), sl⟩) (c : PySem.W.codeIn K cd qual = true) (k : PySem.W.keepIn K (.ref f) = true)
    (hb : ∀ (kV doc pm : Value) (an : Option Addr) (cdv ct : Value) (us : List Value), us.length = ps.length → bindArgs (PySem.W.fnOf m qual (defArgs st) (defBody st) (defScope st) .none kV doc pm an cdv ct) ⟨us, []⟩ = pure (ps.zip us)) : MethAt K A m qual st ps :=
  ⟨f, _, ⟨a, i, k⟩, fun_mk l c k, (fun_mk l c k).binds hb⟩
theorem init_mk {K : PySem.W.Frag} {A f : Addr} {qual : Str} {st : Stmt} {ps : List Str} {od an : Option Addr} {sl : Array (Option Value)} {oc kV dc pm cd ct : Value} (mk : PySem.W.makesIn K A = true) (ka : PySem.W.keepIn K (.ref A) = true) (a : PySem.W.findIn K (.ref A) "__init__" = some (some (.ref f))) (i : PySem.W.isFn K (.ref f) = true)
    (l : K.lookup f = some ⟨oc, od, .func (PySem.W.fnOf "__init__" qual (defArgs st) (defBody st) (defScope st) .none kV dc pm an cd ct), sl⟩) (c : PySem.W.codeIn K cd qual = true) (k : PySem.W.keepIn K (.ref f) = true)
    (hb : ∀ (kV doc pm : Value) (an : Option Addr) (cdv ct : Value) (us : List Value), us.length = ps.length → bindArgs (PySem.W.fnOf "__init__" qual (defArgs st) (defBody st) (defScope st) .none kV doc pm an cdv ct) ⟨us, []⟩ = pure (ps.zip us)) : InitAt K A qual st ps :=
  ⟨f, _, ⟨mk, a, i, ka⟩, fun_mk l c k, (fun_mk l c k).binds hb⟩
end
/-! ### objects at names -/
def updO (O : List Ob) (j : Nat) (P : OQ) : List Ob := O.map fun o => if o.1 = j then (j, P, o.2.2) else o
section
variable {Z H H' : Hp} {ρ π : Cols} {E : List Cell} {O : List Ob} {K : Held} {σ : L2.St} {R : List Nat} {v : V} {j : Nat}
/-- the object at j alone has changed -/
theorem Rel.objPut {P' : OQ} {A' : Addr → Prop} (h : Rel Z ρ π E O K σ H) (hsl : σ[j]? = some (some v)) (keep : ∀ a o, ¬π j a → H a = some o → H' a = some o) (hA : ∀ a, A' a → π j a ∨ H a = none) (live : ∀ a, H' a = none → H a = none) (hA2 : ∀ a, A' a → H' a ≠ none) (hp : ∀ C, P'.p v A' C H') :
    Rel Z ρ (fun s a => if s = j then A' a else π s a) E (updO O j P') K σ H' ∧ Go ρ π H ρ (fun s a => if s = j then A' a else π s a) H' := by
  have hc : ∀ R a u, col ρ R a → H a = some u → H' a = some u ∧ col ρ R a := fun R a u ha e => by
    obtain ⟨r, hr, c⟩ := ha
    exact ⟨keep a u (fun z => h.dx r j a c z) e, r, hr, c⟩
  refine ⟨{
    cell := fun i P R e => by obtain ⟨v, e1, q⟩ := h.cell i P R e; exact ⟨v, e1, P.loc (hc R) q⟩
    obj := fun o ho => ?_
    held := fun k hk => k.2.1.loc (hc _) (h.held k hk)
    len := h.len
    dj := h.dj
    dp := fun r s a h1 h2 => ?_
    dx := fun r s a h1 h2 => ?_
    lr := fun r a hr e => h.lr r a hr (live a e)
    lp := fun r a hr => ?_
    keep := fun a u e => keep a u (fun z => by rw [h.zp j a z] at e; cases e) (h.keep a u e)
    zr := h.zr
    zp := fun r a hr => ?_
    z0 := h.z0 }, ⟨fun _ _ h => h, fun a u e hn => keep a u (hn j) e, live, fun _ _ h => .inl h, fun s a hs => ?_⟩⟩
  · obtain ⟨o', ho', rfl⟩ := List.mem_map.mp ho
    by_cases c : o'.1 = j
    · rw [if_pos c]
      refine ⟨v, hsl, ?_⟩
      show P'.p v (fun a => if j = j then A' a else π j a) _ H'
      have : (fun a => if j = j then A' a else π j a) = A' := by funext a; rw [if_pos rfl]
      rw [this]; exact hp _
    · rw [if_neg c]
      obtain ⟨v, e1, q⟩ := h.obj o' ho'
      refine ⟨v, e1, ?_⟩
      have : (fun a => if o'.1 = j then A' a else π o'.1 a) = π o'.1 := by funext a; rw [if_neg c]
      show o'.2.1.p v (fun a => if o'.1 = j then A' a else π o'.1 a) _ H'
      rw [this]
      exact o'.2.1.loc (fun a u ha e => keep a u (fun z => c (h.dp _ _ _ ha z)) e) (hc _) q
  · have dead : ∀ a s, H a = none → π s a → False := fun a s e hs => h.lp s a hs e
    have h1 : if r = j then A' a else π r a := h1
    have h2 : if s = j then A' a else π s a := h2
    split at h1
    · next e1 =>
      split at h2
      · next e2 => rw [e1, e2]
      · next e2 =>
        rcases hA a h1 with x | x
        · exact absurd (h.dp _ _ _ h2 x) e2
        · exact (dead a s x h2).elim
    · next e1 =>
      split at h2
      · next e2 =>
        rcases hA a h2 with x | x
        · exact absurd (h.dp _ _ _ h1 x) e1
        · exact (dead a r x h1).elim
      · exact h.dp _ _ _ h1 h2
  · have h2 : if s = j then A' a else π s a := h2
    split at h2
    · rcases hA a h2 with x | x
      · exact h.dx r j a h1 x
      · exact h.lr r a h1 x
    · exact h.dx r s a h1 h2
  · have hr : if r = j then A' a else π r a := hr
    split at hr
    · exact hA2 a hr
    · exact fun e => h.lp r a hr (live a e)
  · have hr : if r = j then A' a else π r a := hr
    split at hr
    · rcases hA a hr with x | x
      · exact h.zp j a x
      · exact h.keep.free x
    · exact h.zp r a hr
  · have hs : if s = j then A' a else π s a := hs
    by_cases c : s = j
    · rw [if_pos c] at hs; rw [c]; exact hA a hs
    · rw [if_neg c] at hs; exact .inl hs
/-- a new object at j -/
theorem Rel.objNew {P' : OQ} {A' : Addr → Prop} (h : Rel Z ρ π E O K σ H) (hO : noOb O [j] = true) (s : Same H H') (hj : j < σ.length) (hA : ∀ a, A' a → H a = none) (hA2 : ∀ a, A' a → H' a ≠ none) (hp : ∀ C, P'.p v A' C H') :
    Rel Z ρ (fun s a => if s = j then A' a else π s a) (E.set j none) (O ++ [(j, P', [])]) K (σ.set j (some v)) H' := by
  have hno : ∀ o ∈ O, o.1 ≠ j := fun o ho => by have := noOb.ne hO ho; simpa using this
  have hu := (h.same s).unset (i := j) (u := some v) hno
  have hs1 : (σ.set j (some v))[j]? = some (some v) := by rw [List.getElem?_set, if_pos rfl, if_pos hj]
  exact {
    cell := hu.cell
    obj := fun o ho => by
      rcases List.mem_append.mp ho with ho | ho
      · obtain ⟨v, e1, q⟩ := hu.obj o ho
        refine ⟨v, e1, ?_⟩
        have : (fun a => if o.1 = j then A' a else π o.1 a) = π o.1 := by funext a; rw [if_neg (hno o ho)]
        show o.2.1.p v (fun a => if o.1 = j then A' a else π o.1 a) _ H'
        rw [this]; exact q
      · have e : o = (j, P', []) := by simpa using ho
        subst e
        refine ⟨v, hs1, ?_⟩
        show P'.p v (fun a => if j = j then A' a else π j a) _ H'
        have : (fun a => if j = j then A' a else π j a) = A' := by funext a; rw [if_pos rfl]
        rw [this]; exact hp _
    held := hu.held
    len := hu.len
    dj := hu.dj
    dp := fun r s a h1 h2 => by
      have h1 : if r = j then A' a else π r a := h1
      have h2 : if s = j then A' a else π s a := h2
      split at h1
      · next e1 =>
        split at h2
        · next e2 => rw [e1, e2]
        · exact (h.lp s a h2 (hA a h1)).elim
      · split at h2
        · exact (h.lp r a h1 (hA a h2)).elim
        · exact h.dp _ _ _ h1 h2
    dx := fun r s a h1 h2 => by
      have h2 : if s = j then A' a else π s a := h2
      split at h2
      · exact h.lr r a h1 (hA a h2)
      · exact h.dx r s a h1 h2
    lr := hu.lr
    lp := fun r a hr => by
      have hr : if r = j then A' a else π r a := hr
      split at hr
      · exact hA2 a hr
      · exact hu.lp r a hr
    keep := hu.keep
    zr := hu.zr
    zp := fun r a hr => by
      have hr : if r = j then A' a else π r a := hr
      split at hr
      · exact h.keep.free (hA a hr)
      · exact h.zp r a hr
    z0 := hu.z0 }
end
/-! ### a Keeper -/
structure KA where
  p : Addr
  dx : Addr
  pd : Addr
  cl : Addr
structure KS where
  kept : List Nat
  pl : List (List Nat × Nat)
  com : List (List Nat)
abbrev plV (pl : List (List Nat × Nat)) : List (Key × V) := pl.map fun q => (Sum.inr (tx q.1), V.int (q.2 : Nat))
abbrev clV (com : List (List Nat)) : List V := com.map fun q => V.str (tx q)
abbrev kF (u : KA) (kept : List Nat) : List (Str × V) := [("kept", .str (tx kept)), ("places", .ref u.pd), ("coming", .ref u.cl)]
structure KeepAt (A : Addr) (H : Hp) (u : KA) (k : KS) : Prop where
  ob : H u.p = some (.ins A u.dx (kF u k.kept))
  pd : H u.pd = some (.dK (plV k.pl))
  cl : H u.cl = some (.lst (clV k.com))
def kprP (A : Addr) (u : KA) (k : KS) : OQ := ⟨fun v S _ H => v = .ref u.p ∧ (S u.p ∧ S u.pd ∧ S u.cl ∧ ∀ a, S a → a = u.p ∨ a = u.pd ∨ a = u.cl) ∧ KeepAt A H u k, fun h1 _ ⟨e, ⟨a1, a2, a3, a4⟩, q⟩ => ⟨e, ⟨a1, a2, a3, a4⟩, h1 _ _ a1 q.ob, h1 _ _ a2 q.pd, h1 _ _ a3 q.cl⟩⟩
theorem KeepAt.ne {A : Addr} {H : Hp} {u : KA} {k : KS} (h : KeepAt A H u k) : u.p ≠ u.pd ∧ u.p ≠ u.cl ∧ u.pd ≠ u.cl :=
  ⟨ne_of h.ob h.pd (by intro z; cases z), ne_of h.ob h.cl (by intro z; cases z), ne_of h.pd h.cl (by intro z; cases z)⟩
/-- what __init__ promises -/
def spKInit (A : Addr) : Sp := fun vs H Q _ => ∃ (p dx : Addr), vs = [.ref p] ∧ H p = some (.ins A dx []) ∧ ∀ (pd cl : Addr) (H' : Hp), H pd = none → H cl = none → KeepAt A H' ⟨p, dx, pd, cl⟩ ⟨[], [], []⟩ → (∀ b o, H b = some o → b ≠ p → H' b = some o) → Q .non H'
/-- a text in a text: where it stands first -/
def stB (t w : List Nat) (i : Nat) : Bool := (t.drop i).take w.length == w
def findM (t w : List Nat) : Option Nat := (List.range (t.length + 1)).find? (stB t w)
theorem stB_le {t w : List Nat} {i : Nat} (hw : w ≠ []) (h : stB t w i = true) : i + w.length ≤ t.length := by
  have := congrArg List.length (beq_iff_eq.mp h)
  rw [List.length_take, List.length_drop] at this
  have : 0 < w.length := List.length_pos_iff.mpr hw
  omega
theorem findM_some {t w : List Nat} {i : Nat} : findM t w = some i ↔ i ≤ t.length ∧ stB t w i = true ∧ ∀ j, j < i → stB t w j = false := by
  unfold findM
  rw [List.find?_range_eq_some]
  constructor
  · rintro ⟨h1, h2, h3⟩
    exact ⟨by have := List.mem_range.mp h2; omega, h1, fun j hj => by simpa using h3 j hj⟩
  · rintro ⟨h1, h2, h3⟩
    exact ⟨h2, List.mem_range.mpr (by omega), fun j hj => by rw [h3 j hj]; rfl⟩
theorem findM_none {t w : List Nat} : findM t w = none ↔ ∀ j, j ≤ t.length → stB t w j = false := by
  unfold findM
  rw [List.find?_range_eq_none]
  constructor
  · intro h j hj; simpa using h j (by omega)
  · intro h j hj; rw [h j (by omega)]; rfl
theorem at_stB {t w : List Nat} (hw : w ≠ []) (i : Nat) : StrLaws.At (tx t) (tx w) (tx t).length i ↔ stB t w i = true := by
  have e : Builtin.Str.subAt (tx t) (tx w) i = stB t w i := by
    rw [StrLaws.subAt_eq, tx_len]
    show (List.take w.length (List.drop i t.toArray.toList) == w.toArray.toList) = _
    rw [List.toList_toArray, List.toList_toArray]; rfl
  constructor
  · rintro ⟨h1, h2⟩
    rw [e] at h2; exact h2
  · intro h
    refine ⟨?_, by rw [e]; exact h⟩
    rw [tx_len, tx_len]; exact stB_le hw h
def findI : Option Nat → Int
  | some i => i
  | none => -1
theorem find_eq {t w : List Nat} (hw : w ≠ []) : Txt.find (tx t) (tx w) = findI (findM t w) := by
  rcases PyProof.Rows.find_whole (tx t) (tx w) with ⟨h1, h2⟩ | ⟨i, h1, h2, h3⟩
  · rw [h1, findM_none.mpr fun j _ => by
      have := h2 j
      rw [at_stB hw] at this
      simpa using this]
    rfl
  · rw [h1, findM_some.mpr ⟨?_, (at_stB hw i).mp h2, fun j hj => ?_⟩]
    · rfl
    · have := stB_le hw ((at_stB hw i).mp h2); omega
    · have := h3 j hj
      rw [at_stB hw] at this
      simpa using this
/-- where a word is put -/
def lookP (pl : List (List Nat × Nat)) (w : List Nat) : Option Nat := (pl.find? fun q => q.1 == w).map (·.2)
def putS (k : KS) (w : List Nat) : KS × Nat := match lookP k.pl w with
  | some i => (k, i)
  | none => match findM k.kept (w ++ [46]) with
    | some i => (⟨k.kept, k.pl ++ [(w, i)], k.com ++ [w]⟩, i)
    | none => (⟨k.kept ++ w ++ [46], k.pl ++ [(w, k.kept.length)], k.com ++ [w]⟩, k.kept.length)
theorem lookP_valV (pl : List (List Nat × Nat)) (w : List Nat) : valV (plV pl) (Sum.inr (tx w)) = (lookP pl w).map fun i => V.int (i : Nat) := by
  unfold valV lookP plV
  induction pl with
  | nil => rfl
  | cons q pl ih =>
    rw [List.map_cons, List.find?_cons, List.find?_cons]
    have e : decide ((Sum.inr (tx q.1) : Key) = Sum.inr (tx w)) = (q.1 == w) := by
      rw [Bool.eq_iff_iff, decide_eq_true_eq, beq_iff_eq]
      exact ⟨fun h => tx_inj (Sum.inr.inj h), fun h => by rw [h]⟩
    show Option.map _ (match decide ((Sum.inr (tx q.1) : Key) = Sum.inr (tx w)) with | true => _ | false => _) = _
    rw [e]
    cases h : q.1 == w with
    | true => rfl
    | false => exact ih
abbrev frag {K : PySem.W.Frag} {h : Heap} (X : K.In h) : PySem.W.Frag := K
end G

namespace G
open PySem PySem.Spec PyProof.Rows L2
section
variable {C : Ctx} {N : List Str} {sc : Scope} {fn : Str → Bool} {k : Nat} {J : Type} {X : J → Cx}
variable {Z : Hp} {B : Nat → Bool} {E E' : List Cell} {O O1 O2 O3 O' : List Ob} {e a b c : Expr} {es : List Expr} {R R1 R2 R3 R' Rk : List Nat} {d d1 d2 d3 : PyData} {ds : List PyData} {pos p p2 pos' apos cpos : Pos}
variable {q : Po} {rest : List Stmt} {x : Str} {j : Nat} {A : Addr} {u : KA} {ks : KS} {w : List Nat}
theorem pe_nm (hx : SX C N sc fn k X) (nm : Nm N j x) (hv : Vis sc x) (i : J) : PE (X i) (.Name x pos) (tVar j) := pe_var (by rw [hx.Nx i]; exact nm.at_) (by rw [hx.scx i]; exact hv) nm.d1 nm.d2
theorem kF_kept (u : KA) (t : List Nat) : (kF u t).lookup ("kept" : Str) = some (.str (tx t)) := rfl
theorem kF_places (u : KA) (t : List Nat) : (kF u t).lookup ("places" : Str) = some (.ref u.pd) := by
  have h1 : (("places" : Str) == "kept") = false := by decide +kernel
  show (match ("places" : Str) == "kept" with | true => some (V.str (tx t)) | false => _) = _
  rw [h1]; rfl
theorem kF_coming (u : KA) (t : List Nat) : (kF u t).lookup ("coming" : Str) = some (.ref u.cl) := by
  have h1 : (("coming" : Str) == "kept") = false := by decide +kernel
  have h2 : (("coming" : Str) == "places") = false := by decide +kernel
  show (match ("coming" : Str) == "kept" with | true => some (V.str (tx t)) | false => (match ("coming" : Str) == "places" with | true => some (V.ref u.pd) | false => _)) = _
  rw [h1, h2]; rfl
theorem kF_no (u : KA) (t : List Nat) {m : Str} (h1 : (m == "kept") = false) (h2 : (m == "places") = false) (h3 : (m == "coming") = false) : (kF u t).lookup m = none := by
  show (match m == "kept" with | true => some (V.str (tx t)) | false => (match m == "places" with | true => some (V.ref u.pd) | false => (match m == "coming" with | true => _ | false => _))) = _
  rw [h1, h2, h3]; rfl
theorem kF_put (u : KA) (t s : List Nat) : putF "kept" (.str (tx s)) (kF u t) = kF u s := by
  show (if ("kept" : Str) = "kept" then _ else _) = _
  rw [if_pos rfl]
/-- where a keeper stands -/
theorem kpr_at {ρ π : Cols} {K : Held} {σ : L2.St} {H : Hp} (h : Rel Z ρ π E O K σ H) (ho : (j, kprP A u ks, Rk) ∈ O) : σ[j]? = some (some (.ref u.p)) ∧ (π j u.p ∧ π j u.pd ∧ π j u.cl ∧ ∀ a, π j a → a = u.p ∨ a = u.pd ∨ a = u.cl) ∧ KeepAt A H u ks := by
  obtain ⟨v, e, rfl, h1, h2⟩ := h.obj _ ho
  exact ⟨e, h1, h2⟩
theorem ee_kept (hx : SX C N sc fn k X) (nm : Nm N j x) (hv : Vis sc x) (cA : Cls C.K A) (nA : NoAttr C.K A "kept") (ho : (j, kprP A u ks, Rk) ∈ O) (hw : wfD (dS ks.kept)) (hb : ∀ i, attributeBase (.Name x p) "kept" (X i).env (eval (.Name x p) (X i).env) = eval (.Name x p) (X i).env) :
    ED X Z E O (.Attribute (.Name x p) "kept" pos) (dS ks.kept) [] O := fun ρ π K σ H h Q qq => by
  obtain ⟨e1, _, ka⟩ := kpr_at h ho
  exact ⟨tFld C.K (tVar j) "kept", fun i => by rw [← hx.K i]; exact pe_fld (pe_nm hx nm hv i) (hb i), _, e1, u.p, A, u.dx, _, _, rfl, ka.ob, cA, nA, kF_kept _ _, qq _ ρ π H h (Go.refl _ _ _) ⟨.str _, hw⟩⟩
theorem ee_lencom (hx : SX C N sc fn k X) (hm : C.mg "len" = none) (hg : Gb sc "len") (nm : Nm N j x) (hv : Vis sc x) (cA : Cls C.K A) (nA : NoAttr C.K A "coming") (ho : (j, kprP A u ks, Rk) ∈ O) (hb : ∀ i, attributeBase (.Name x p) "coming" (X i).env (eval (.Name x p) (X i).env) = eval (.Name x p) (X i).env)
    (he : ∀ i, starEach [.Attribute (.Name x p) "coming" pos] (X i).env = (false, eval (.Attribute (.Name x p) "coming" pos) (X i).env) :: starEach [] (X i).env) (hpl : ∀ i, (backTo pos' (starEach [] (X i).env)).any (·.1) = false) :
    ED X Z E O (.Call (.Name "len" p2) [.Attribute (.Name x p) "coming" pos] [] pos') (.int ks.com.length) [] O := fun ρ π K σ H h Q qq => by
  obtain ⟨e1, _, ka⟩ := kpr_at h ho
  refine ⟨tCB (rLenSeq C.K) (tCons (tFld C.K (tVar j) "coming") tNil), fun i => by rw [← hx.K i]; exact pe_callB call_len_seq (gl_of hx hg i) (by rw [hx.mg i]; exact hm) PySem.boot_len (pa_cons (pe_fld (pe_nm hx nm hv i) (hb i)) pa_nil (he i)) (by decide) (by decide) (he i) (hpl i), _, e1, u.p, A, u.dx, _, _, rfl, ka.ob, cA, nA, kF_coming _ _, u.cl, _, rfl, .inl (SqL.of ka.cl), ?_⟩
  rw [List.length_map]
  exact qq _ ρ π H h (Go.refl _ _ _) ⟨.int _, trivial⟩
theorem et_notinp (hx : SX C N sc fn k X) (nm : Nm N j x) (hv : Vis sc x) (cA : Cls C.K A) (nA : NoAttr C.K A "places") (hb : ED X Z E O b (dS w) R O) (ho : (j, kprP A u ks, Rk) ∈ O) (hbb : ∀ i, attributeBase (.Name x p) "places" (X i).env (eval (.Name x p) (X i).env) = eval (.Name x p) (X i).env) :
    ET X Z E O (.Compare b [.NotIn] [.Attribute (.Name x p) "places" pos] pos') (lookP ks.pl w).isNone O := fun ρ π K σ H h Q qq => by
  refine ⟨_, fun i => pt_cmp (pc_dnotin (td := tFld C.K (tVar j) "places") (hu_of (hx.room i)) (pe_w b i) (by rw [← hx.K i]; exact pe_fld (pe_nm hx nm hv i) (hbb i))), hb ρ π K σ H h _ fun v ρ1 π1 H1 h1 g1 r => ?_⟩
  obtain ⟨e1, _, ka⟩ := kpr_at h1 ho
  cases r.1
  refine ⟨_, e1, u.p, A, u.dx, _, _, rfl, ka.ob, cA, nA, kF_places _ _, u.pd, _, rfl, DGet.k (k := Sum.inr (tx w)) ka.pd, _, rfl, ?_⟩
  rw [lookP_valV]
  have : (!((lookP ks.pl w).map fun i => V.int (i : Nat)).isSome) = (lookP ks.pl w).isNone := by cases lookP ks.pl w <;> rfl
  rw [this]
  exact qq ρ1 π1 H1 h1 g1
theorem ee_getp {i0 : Nat} (hx : SX C N sc fn k X) (nm : Nm N j x) (hv : Vis sc x) (cA : Cls C.K A) (nA : NoAttr C.K A "places") (hb : ED X Z E O b (dS w) R O) (ho : (j, kprP A u ks, Rk) ∈ O) (hl : lookP ks.pl w = some i0) (hbb : ∀ i, attributeBase (.Name x p) "places" (X i).env (eval (.Name x p) (X i).env) = eval (.Name x p) (X i).env) (hs : NoSl b) :
    ED X Z E O (.Subscript (.Attribute (.Name x p) "places" pos) b pos') (.int i0) [] O := fun ρ π K σ H h Q qq => by
  obtain ⟨e1, _, ka⟩ := kpr_at h ho
  refine ⟨tDGet (tFld C.K (tVar j) "places") (wE X b), fun i => pe_dget (hu_of (hx.room i)) (by rw [← hx.K i]; exact pe_fld (pe_nm hx nm hv i) (hbb i)) (pe_w b i) hs, _, e1, u.p, A, u.dx, _, _, rfl, ka.ob, cA, nA, kF_places _ _, hb ρ π K σ H h _ fun v ρ1 π1 H1 h1 g1 r => ?_⟩
  obtain ⟨_, _, ka1⟩ := kpr_at h1 ho
  cases r.1
  refine ⟨u.pd, .int i0, rfl, ?_, qq _ ρ1 π1 H1 h1 g1 ⟨.int _, trivial⟩⟩
  have := DGet.k (k := Sum.inr (tx w)) ka1.pd
  rw [lookP_valV, hl] at this
  exact this
/-- the keeper's parts change -/
theorem kpr_put {ρ π : Cols} {K : Held} {σ : L2.St} {H H' : Hp} {k' : KS} (h : Rel Z ρ π E O K σ H) (ho : (j, kprP A u ks, Rk) ∈ O) (hk : ∀ a o, a ≠ u.p → a ≠ u.pd → a ≠ u.cl → H a = some o → H' a = some o) (live : ∀ a, H' a = none → H a = none) (ka : KeepAt A H' u k') :
    ∃ π', Rel Z ρ π' E (updO O j (kprP A u k')) K σ H' ∧ Go ρ π H ρ π' H' := by
  obtain ⟨e1, ⟨p1, p2, p3, p4⟩, k0⟩ := kpr_at h ho
  exact ⟨_, h.objPut (A' := π j) e1 (fun a o hn e => hk a o (fun z => hn (z ▸ p1)) (fun z => hn (z ▸ p2)) (fun z => hn (z ▸ p3)) e) (fun a h => .inl h) live (fun a ha => by
    rcases p4 a ha with z | z | z
    · subst z; rw [ka.ob]; exact fun z => nomatch z
    · subst z; rw [ka.pd]; exact fun z => nomatch z
    · subst z; rw [ka.cl]; exact fun z => nomatch z) fun C => ⟨rfl, ⟨p1, p2, p3, p4⟩, ka⟩⟩
theorem sb_setkept {t : List Nat} {pp : Pos} (hx : SX C N sc fn k X) (nm : Nm N j x) (hv : Vis sc x) (cA : Cls C.K A) (nA : NoAttr C.K A "kept") (he : ED X Z E O e (dS t) R O) (ho : (j, kprP A u ks, Rk) ∈ O) (hs : ∀ i, swapsWith e (some (.Attribute (.Name x p) "kept" pp)) pos.line (X i).env = pure false)
    (kk : SB X Z B E (updO O j (kprP A u ⟨t, ks.pl, ks.com⟩)) rest q) : SB X Z B E O (.Assign [.Attribute (.Name x p) "kept" pp] e pos :: rest) q := fun K hK D m ρ π σ H h =>
  wB_cons ⟨sFld C.K (tVar j) (wE X e) "kept", fun i => by rw [← hx.K i]; exact ps_fld (pe_nm hx nm hv i) (pe_w e i) (hs i), he ρ π K σ H h _ fun v ρ1 π1 H1 h1 g1 r => by
    obtain ⟨e1, _, ka⟩ := kpr_at h1 ho
    cases r.1
    obtain ⟨n1, n2, n3⟩ := ka.ne
    refine ⟨_, e1, u.p, A, u.dx, _, rfl, ka.ob, cA, nA, (by show 3 < 1000; decide), ?_⟩
    rw [kF_put]
    obtain ⟨π2, r2, _⟩ := kpr_put (k' := ⟨t, ks.pl, ks.com⟩) h1 ho (fun a o h1 _ _ e => by rw [upd_ne h1]; exact e) (fun a e => grow_upd a e) ⟨upd_same, by rw [upd_ne n1.symm]; exact ka.pd, by rw [upd_ne n2.symm]; exact ka.cl⟩
    exact kk K hK D m ρ1 π2 σ _ r2⟩
theorem sb_putp {pp : Pos} {i0 : Nat} (hx : SX C N sc fn k X) (nm : Nm N j x) (hv : Vis sc x) (cA : Cls C.K A) (nA : NoAttr C.K A "places") (he : ED X Z E O e (.int i0) R O) (hb : ED X Z E O b (dS w) R2 O) (ho : (j, kprP A u ks, Rk) ∈ O) (hl : lookP ks.pl w = none) (hz : ks.pl.length < 1000) (hbb : ∀ i, attributeBase (.Name x p) "places" (X i).env (eval (.Name x p) (X i).env) = eval (.Name x p) (X i).env)
    (hs : ∀ i, swapsWith e (some (.Subscript (.Attribute (.Name x p) "places" p2) b pp)) pos.line (X i).env = pure false)
    (kk : SB X Z B E (updO O j (kprP A u ⟨ks.kept, ks.pl ++ [(w, i0)], ks.com⟩)) rest q) : SB X Z B E O (.Assign [.Subscript (.Attribute (.Name x p) "places" p2) b pp] e pos :: rest) q := fun K hK D m ρ π σ H h =>
  wB_cons ⟨sDPut (tFld C.K (tVar j) "places") (wE X b) (wE X e), fun i => ps_dput (hu_of (hx.room i)) (by rw [← hx.K i]; exact pe_fld (pe_nm hx nm hv i) (hbb i)) (pe_w b i) (pe_w e i) (hs i), he ρ π K σ H h _ fun v ρ1 π1 H1 h1 g1 r => by
    obtain ⟨e1, _, ka⟩ := kpr_at h1 ho
    cases r.1
    refine ⟨_, e1, u.p, A, u.dx, _, _, rfl, ka.ob, cA, nA, kF_places _ _, hb ρ1 π1 K σ H1 h1 _ fun v2 ρ2 π2 H2 h2 g2 r2 => ?_⟩
    obtain ⟨_, _, ka2⟩ := kpr_at h2 ho
    obtain ⟨n1, n2, n3⟩ := ka2.ne
    cases r2.1
    have hn : valV (plV ks.pl) (Sum.inr (tx w)) = none := by rw [lookP_valV, hl]; rfl
    refine ⟨u.pd, _, rfl, DPut.k (k := Sum.inr (tx w)) ka2.pd (by rw [List.length_map, sizeLine_eq]; omega), ?_⟩
    obtain ⟨π3, r3, _⟩ := kpr_put (k' := ⟨ks.kept, ks.pl ++ [(w, i0)], ks.com⟩) h2 ho (H' := upd H2 u.pd (.dK (putK (plV ks.pl) (Sum.inr (tx w)) (.int i0)))) (fun a o _ h1 _ e => by rw [upd_ne h1]; exact e) (fun a e => grow_upd a e) ⟨by rw [upd_ne n1]; exact ka2.ob, by rw [upd_same, putK_new _ hn]; show _ = some (HO.dK ((ks.pl ++ [(w, i0)]).map _)); rw [List.map_append]; rfl, by rw [upd_ne n3.symm]; exact ka2.cl⟩
    exact kk K hK D m ρ2 π3 σ _ r3⟩
theorem sb_appc {p3 : Pos} (hx : SX C N sc fn k X) (nm : Nm N j x) (hv : Vis sc x) (cA : Cls C.K A) (nA : NoAttr C.K A "coming") (he : ED X Z E O e (dS w) R O) (ho : (j, kprP A u ks, Rk) ∈ O) (hz : ks.com.length < 1000) (hbb : ∀ i, attributeBase (.Name x p) "coming" (X i).env (eval (.Name x p) (X i).env) = eval (.Name x p) (X i).env)
    (hbase : ∀ i, attributeBase (.Attribute (.Name x p) "coming" p3) "append" (X i).env (eval (.Attribute (.Name x p) "coming" p3) (X i).env) = eval (.Attribute (.Name x p) "coming" p3) (X i).env)
    (hfew : ∀ i, ((backTo cpos (starEach [e] (X i).env)).all (fun x => !x.1) && (backToKw cpos (keywordEach [] (X i).env)).all (fun x => x.1.isSome)
      && decide ([e].length + ([] : List Keyword).length + (if ([] : List Keyword).isEmpty then 0 else 1) < 30)) = true)
    (hline : (apos.endLine == cpos.line) = true) (hst : ∀ i, starEach [e] (X i).env = (false, eval e (X i).env) :: starEach [] (X i).env) (hplain : ∀ i, (backTo cpos (starEach [] (X i).env)).any (·.1) = false)
    (kk : SB X Z B E (updO O j (kprP A u ⟨ks.kept, ks.pl, ks.com ++ [w]⟩)) rest q) : SB X Z B E O (.Expr (.Call (.Attribute (.Attribute (.Name x p) "coming" p3) "append" apos) [e] [] cpos) pos :: rest) q := fun K hK D m ρ π σ H h => by
  obtain ⟨e1, _, ka⟩ := kpr_at h ho
  refine wB_cons ⟨tDrop (tBM C.K "list" rAppend (tFld C.K (tVar j) "coming") (tCons (wE X e) tNil)), fun i => by rw [← hx.K i]; exact ps_expr (pe_bm PySem.F.plainAttrs_list PySem.F.slot_list_append PySem.F.type_list_append mt_append (pe_fld (pe_nm hx nm hv i) (hbb i)) (pa_cons (pe_w e i) pa_nil (hst i)) (hbase i) (hfew i) hline (hst i) (hplain i)) rfl, _, e1, u.p, A, u.dx, _, _, rfl, ka.ob, cA, nA, kF_coming _ _, .inl ⟨rfl, _, SqL.of ka.cl⟩, he ρ π K σ H h _ fun v ρ1 π1 H1 h1 g1 r => ?_⟩
  obtain ⟨_, _, ka1⟩ := kpr_at h1 ho
  obtain ⟨n1, n2, n3⟩ := ka1.ne
  cases r.1
  refine ⟨u.cl, _, _, rfl, rfl, ka1.cl, by rw [List.length_map, sizeLine_eq]; omega, ?_⟩
  obtain ⟨π3, r3, _⟩ := kpr_put (k' := ⟨ks.kept, ks.pl, ks.com ++ [w]⟩) h1 ho (H' := upd H1 u.cl (.lst (clV ks.com ++ [.str (tx w)]))) (fun a o _ _ h1 e => by rw [upd_ne h1]; exact e) (fun a e => grow_upd a e) ⟨by rw [upd_ne n2]; exact ka1.ob, by rw [upd_ne n3]; exact ka1.pd, by rw [upd_same]; show _ = some (HO.lst ((ks.com ++ [w]).map _)); rw [List.map_append]; rfl⟩
  exact kk K hK D m ρ1 π3 σ _ r3
/-! methods of a keeper -/
def offK (u : KA) (a : Addr) : Prop := a ≠ u.p ∧ a ≠ u.pd ∧ a ≠ u.cl
def spKM (A : Addr) (I : KS → List PyData → PyData → KS → Prop) : Sp := fun vs H Q _ => ∃ (u : KA) (ks : KS) (rest : List V) (ds : List PyData) (d : PyData) (k' : KS), vs = .ref u.p :: rest ∧ KeepAt A H u ks ∧ FdA (offK u) H rest ds ∧ wfA ds ∧ I ks ds d k' ∧
  ∀ v H', (∀ a o, offK u a → H a = some o → H' a = some o) → (∀ a, H' a = none → H a = none) → KeepAt A H' u k' → Fd (fun a => H a = none) H' v d → wfD d → Q v H'
abbrev kob (j : Nat) (A : Addr) (u : KA) (ks : KS) : Ob := (j, kprP A u ks, [])
end
section
variable {C : Ctx} {N ps : List Str} {x qual : Str} {st : Stmt} {kk : Nat} {A : Addr}
theorem ok_KM {I : KS → List PyData → PyData → KS → Prop} (d : MethAt C.K A x qual st ps) (S : FnScope N ps (defScope st)) (hps : ps.length ≤ N.length) (len : ∀ ks ds r k', I ks ds r k' → ds.length + 1 = ps.length)
    (body : ∀ X : Unit → Cx, SX C N (defScope st) (fun _ => true) kk X → ∀ ks ds r k', I ks ds r k' → wfA ds → ∀ Z u, SB X Z allB (cellsB N ds) [kob 0 A u ks] (defBody st) { nx := fun _ O => r = .none ∧ O = [kob 0 A u k'], rt := fun P R _ O => P = dP r ∧ (flatD r || !R.contains 0) = true ∧ O = [kob 0 A u k'] }) :
    OkM C A (kk + 1) x ps (spKM A I) := by
  refine ok_meth d S (fun vs H Q E h => ?_) fun X hx vs H Q E h => ?_
  · obtain ⟨u, ks, rest, ds, r, k', rfl, _, hd, _, hi, _⟩ := h
    rw [List.length_cons, hd.length, len ks ds r k' hi]
  · obtain ⟨u, ks, rest, ds, r, k', rfl, ka, hd, hw, hi, qq⟩ := h
    have hv := hd.length
    have hN : ds.length + 1 ≤ N.length := by rw [len ks ds r k' hi]; exact hps
    classical
    obtain ⟨Zd, hZ⟩ : ∃ Zd : Hp, Zd = fun a => if offK u a then H a else none := ⟨_, rfl⟩
    have z1 : ∀ a, offK u a → Zd a = H a := fun a h => by rw [hZ]; exact if_pos h
    have z2 : ∀ a, ¬offK u a → Zd a = none := fun a h => by rw [hZ]; exact if_neg h
    have r0 : Rel Zd (fun r a => r = 0 ∧ offK u a ∧ H a ≠ none) (fun s a => s = 0 ∧ (a = u.p ∨ a = u.pd ∨ a = u.cl)) (cellsB N ds) [kob 0 A u ks] [] (L2.start N (.ref u.p :: rest)) H := {
      cell := fun i P R e => by
        obtain ⟨j, d, rfl, hd1, rfl, rfl⟩ := cellsB_get e
        obtain ⟨v, e1, rv⟩ := hd.get hd1
        exact ⟨v, start_get (vs := .ref u.p :: rest) (i := j + 1) e1, dP_rOf (rv.cut fun a o ha e => ⟨e, 0, List.mem_singleton.mpr rfl, rfl, ha, by rw [e]; exact fun z => nomatch z⟩) (wfA_iff.mp hw d (List.mem_of_getElem? hd1))⟩
      obj := fun o ho => by
        have e : o = kob 0 A u ks := by simpa using ho
        subst e
        exact ⟨.ref u.p, start_get (vs := .ref u.p :: rest) (i := 0) rfl, rfl, ⟨⟨rfl, .inl rfl⟩, ⟨rfl, .inr (.inl rfl)⟩, ⟨rfl, .inr (.inr rfl)⟩, fun a h => h.2⟩, ka⟩
      held := fun k hk => absurd hk (by simp)
      len := by rw [cellsB_len hN, start_len (by rw [List.length_cons]; omega)]
      dj := fun r s a h1 h2 => h1.1.trans h2.1.symm
      dp := fun r s a h1 h2 => h1.1.trans h2.1.symm
      dx := fun r s a h1 h2 => by
        obtain ⟨n1, n2, n3⟩ := h1.2.1
        rcases h2.2 with e | e | e
        · exact n1 e
        · exact n2 e
        · exact n3 e
      lr := fun r a h => h.2.2
      lp := fun r a h => by
        rcases h.2 with e | e | e
        · rw [e, ka.ob]; exact fun z => nomatch z
        · rw [e, ka.pd]; exact fun z => nomatch z
        · rw [e, ka.cl]; exact fun z => nomatch z
      keep := fun a o e => by
        by_cases c : offK u a
        · rw [z1 a c] at e; exact e
        · rw [z2 a c] at e; cases e
      zr := fun r a h hr => absurd h.1 hr
      zp := fun r a h => z2 a fun c => by
        obtain ⟨n1, n2, n3⟩ := c
        rcases h.2 with e | e | e
        · exact n1 e
        · exact n2 e
        · exact n3 e
      z0 := fun a h => by rw [z1 a h.2.1]; exact h.2.2 }
    have keepH : ∀ {ρ π : Cols} {E : List Cell} {O : List Ob} {K : Held} {σ : L2.St} {H1 : Hp}, Rel Zd ρ π E O K σ H1 → ∀ a o, offK u a → H a = some o → H1 a = some o := fun rr a o hn e => rr.keep a o (by rw [z1 a hn]; exact e)
    have liveH : ∀ {ρ π : Cols} {E : List Cell} {K : Held} {σ : L2.St} {H1 : Hp}, Rel Zd ρ π E [kob 0 A u k'] K σ H1 → ∀ a, H1 a = none → H a = none := fun {ρ π E K σ H1} rr a e => by
      obtain ⟨_, _, k1⟩ := kpr_at rr (List.mem_cons_self)
      by_cases c : offK u a
      · cases hh : H a with
        | none => rfl
        | some o => rw [keepH rr a o c hh] at e; cases e
      · have : a = u.p ∨ a = u.pd ∨ a = u.cl := by
          by_cases c1 : a = u.p
          · exact .inl c1
          · by_cases c2 : a = u.pd
            · exact .inr (.inl c2)
            · by_cases c3 : a = u.cl
              · exact .inr (.inr c3)
              · exact absurd ⟨c1, c2, c3⟩ c
        rcases this with z | z | z
        · rw [z, k1.ob] at e; cases e
        · rw [z, k1.pd] at e; cases e
        · rw [z, k1.cl] at e; cases e
    refine body X hx ks ds r k' hi hw Zd u [] (fun k hk => absurd hk (by simp)) _ ⟨?_, ?_, ?_, ?_⟩ _ _ _ H r0
    · rintro σ H1 ρ π E O ⟨rfl, rfl⟩ rr
      obtain ⟨_, _, k1⟩ := kpr_at rr (List.mem_cons_self)
      exact qq .non H1 (keepH rr) (liveH rr) k1 .non trivial
    · rintro v σ H1 ρ π E O P R ⟨rfl, hf, rfl⟩ rr rv
      have hf := flat_or hf
      obtain ⟨_, ⟨p1, p2, p3, _⟩, k1⟩ := kpr_at rr (List.mem_cons_self)
      refine qq v H1 (keepH rr) (liveH rr) k1 ?_ rv.2
      rcases hf with hf | hf
      · exact rv.1.flat hf
      · refine rv.1.mono (fun a ha => ?_) (Same.refl _)
        have hz : Zd a = none ∧ offK u a := by
          rcases ha with ⟨r, hr, c⟩ | ⟨z, _, c⟩
          · exact ⟨rr.zr r a c (fun e => hf (e ▸ hr)), fun e => rr.dx r 0 a c (e ▸ p1), fun e => rr.dx r 0 a c (e ▸ p2), fun e => rr.dx r 0 a c (e ▸ p3)⟩
          · exact ⟨z, fun e => c 0 (e ▸ p1), fun e => c 0 (e ▸ p2), fun e => c 0 (e ▸ p3)⟩
        rw [← z1 a hz.2]; exact hz.1
    · exact fun σ H ρ π E O x _ => x
    · exact fun σ H ρ π E O x _ => x
end
section
variable {C : Ctx} {N : List Str} {sc : Scope} {fn : Str → Bool} {k : Nat} {J : Type} {X : J → Cx}
variable {Z : Hp} {B : Nat → Bool} {E E' : List Cell} {O O1 : List Ob} {e : Expr} {es : List Expr} {R Rk : List Nat} {d : PyData} {ds : List PyData} {pos p apos : Pos}
variable {q : Po} {rest : List Stmt} {x m : Str} {j kk : Nat} {A : Addr} {u : KA} {ks k' : KS} {ps : List Str} {I : KS → List PyData → PyData → KS → Prop}
theorem kpr_after {ρ π : Cols} {K : Held} {σ : L2.St} {H H' : Hp} {v : V} (h : Rel Z ρ π E O K σ H) (ho : (j, kprP A u ks, Rk) ∈ O) (hk : ∀ a o, offK u a → H a = some o → H' a = some o) (live : ∀ a, H' a = none → H a = none) (ka : KeepAt A H' u k') (rv : Fd (fun a => H a = none) H' v d) :
    ∃ π', Rel Z ρ π' E (updO O j (kprP A u k')) K σ H' ∧ Go ρ π H ρ π' H' ∧ Fd (vis ρ π' R H) H' v d := by
  obtain ⟨e1, ⟨p1, p2, p3, p4⟩, k0⟩ := kpr_at h ho
  obtain ⟨r2, g2⟩ := h.objPut (P' := kprP A u k') (A' := π j) e1 (fun a o hn e => hk a o ⟨fun z => hn (z ▸ p1), fun z => hn (z ▸ p2), fun z => hn (z ▸ p3)⟩ e) (fun a h => .inl h) live (fun a ha => by
    rcases p4 a ha with z | z | z
    · subst z; rw [ka.ob]; exact fun z => nomatch z
    · subst z; rw [ka.pd]; exact fun z => nomatch z
    · subst z; rw [ka.cl]; exact fun z => nomatch z) fun C => ⟨rfl, ⟨p1, p2, p3, p4⟩, ka⟩
  refine ⟨_, r2, g2, rv.mono (fun a e => .inr ⟨e, fun r c => h.lr r a c e, fun s c => ?_⟩) (Same.refl _)⟩
  have c : if s = j then π j a else π s a := c
  split at c
  · exact h.lp j a c e
  · exact h.lp s a c e
theorem args_off {ρ π : Cols} {K : Held} {σ : L2.St} {H H0 : Hp} {vs : List V} (h : Rel Z ρ π E O K σ H) (ho : (j, kprP A u ks, Rk) ∈ O) (rs : FdA (vis ρ π R H0) H vs ds) : FdA (offK u) H vs ds := by
  obtain ⟨e1, ⟨p1, p2, p3, p4⟩, k0⟩ := kpr_at h ho
  refine rs.mono (fun a ha => ?_) (Same.refl _)
  rcases ha with ⟨r, _, c⟩ | ⟨_, _, c⟩
  · exact ⟨fun z => h.dx r j a c (z ▸ p1), fun z => h.dx r j a c (z ▸ p2), fun z => h.dx r j a c (z ▸ p3)⟩
  · exact ⟨fun z => c j (z ▸ p1), fun z => c j (z ▸ p2), fun z => c j (z ▸ p3)⟩
/-- o.m(e, ..), o a keeper at a name -/
theorem ee_km {pl : J → Sem Bool} (hx : SX C N sc fn k X) (ok : OkM C A kk m ps (spKM A I)) (hk : kk ≤ k) (cA : Cls C.K A) (nm : Nm N j x) (hv : Vis sc x) (ho : (j, kprP A u ks, Rk) ∈ O) (ha : EA X Z E O (e :: es) ds R O) (hI : wfA ds → I ks ds d k')
    (n1 : (m == "kept") = false) (n2 : (m == "places") = false) (n3 : (m == "coming") = false)
    (hst : ∀ i, starEach (e :: es) (X i).env = (false, eval e (X i).env) :: starEach es (X i).env) (hpl : ∀ i, (backTo pos (starEach es (X i).env)).any (·.1) = false)
    (ht : ∀ i, eval (.Call (.Attribute (.Name x p) m apos) (e :: es) [] pos) (X i).env = (do
      let ov ← eval (.Name x p) (X i).env
      standAt apos.atName
      let (f, first) ← holding [ov] (getMethod ov m (pl i))
      callWith pos f first (backTo pos (starEach (e :: es) (X i).env)) (backToKw pos (keywordEach [] (X i).env)))) :
    ED X Z E O (.Call (.Attribute (.Name x p) m apos) (e :: es) [] pos) d [] (updO O j (kprP A u k')) := fun ρ π K σ H h Q qq => by
  obtain ⟨f, fd, hm, hb, G⟩ := ok.ex
  obtain ⟨e1, _, ka⟩ := kpr_at h ho
  refine ⟨tMeth A m (spKM A I) [] E0 (tVar j) (wA X (e :: es)), fun i => pe_meth (CX := CX0) (ds := []) (f := f) (fd := fd) (ps := ps) (k := kk) (pl := pl i) (pe_nm hx nm hv i) (by rw [hx.K i]; exact cA) (by rw [hx.K i]; exact hm) (by rw [hx.P i, hx.w i, hx.K i, hx.mg i, hx.base i]; exact G) ((hx.room i).mono hk) (by rw [hx.K i]; exact hb) .nil pass0 (pa_w (e :: es) i) (hst i) (hpl i) (ht i), _, e1, u.p, u.dx, _, rfl, ka.ob, kF_no _ _ n1 n2 n3, ha ρ π K σ H h _ fun vs ρ1 π1 H1 h1 g1 rs ws => ?_⟩
  rw [List.append_nil]
  obtain ⟨_, _, ka1⟩ := kpr_at h1 ho
  refine ⟨u, ks, vs, ds, d, k', rfl, ka1, args_off h1 ho rs, ws, hI ws, fun v H' hk2 live k2 rv w => ?_⟩
  obtain ⟨π2, r2, g2, r3⟩ := kpr_after (R := []) h1 ho hk2 live k2 rv
  exact qq v ρ1 π2 H' r2 (g1.trans g2) ⟨r3.mono (fun a ha => vis_from g1 ha) (Same.refl _), w⟩
/-- o.m() -/
theorem ee_km0 {pl : J → Sem Bool} (hx : SX C N sc fn k X) (ok : OkM C A kk m ps (spKM A I)) (hk : kk ≤ k) (cA : Cls C.K A) (nm : Nm N j x) (hv : Vis sc x) (ho : (j, kprP A u ks, Rk) ∈ O) (hI : I ks [] d k')
    (n1 : (m == "kept") = false) (n2 : (m == "places") = false) (n3 : (m == "coming") = false)
    (ht : ∀ i, eval (.Call (.Attribute (.Name x p) m apos) [] [] pos) (X i).env = (do
      let ov ← eval (.Name x p) (X i).env
      standAt apos.atName
      let (f, first) ← holding [ov] (getMethod ov m (pl i))
      callWith pos f first (backTo pos (starEach [] (X i).env)) (backToKw pos (keywordEach [] (X i).env)))) :
    ED X Z E O (.Call (.Attribute (.Name x p) m apos) [] [] pos) d [] (updO O j (kprP A u k')) := fun ρ π K σ H h Q qq => by
  obtain ⟨f, fd, hm, hb, G⟩ := ok.ex
  obtain ⟨e1, _, ka⟩ := kpr_at h ho
  refine ⟨tMeth A m (spKM A I) [] E0 (tVar j) tNil, fun i => pe_meth0 (CX := CX0) (ds := []) (f := f) (fd := fd) (ps := ps) (k := kk) (pl := pl i) (pe_nm hx nm hv i) (by rw [hx.K i]; exact cA) (by rw [hx.K i]; exact hm) (by rw [hx.P i, hx.w i, hx.K i, hx.mg i, hx.base i]; exact G) ((hx.room i).mono hk) (by rw [hx.K i]; exact hb) .nil pass0 (ht i), _, e1, u.p, u.dx, _, rfl, ka.ob, kF_no _ _ n1 n2 n3, u, ks, [], [], d, k', rfl, ka, .nil, trivial, hI, fun v H' hk2 live k2 rv w => ?_⟩
  obtain ⟨π2, r2, g2, r3⟩ := kpr_after (R := []) h ho hk2 live k2 rv
  exact qq v ρ π2 H' r2 g2 ⟨r3, w⟩
/-- x = Keeper() -/
theorem sb_make {cn : Str} {pz : Pos} {pos' : Pos} (hx : SX C N sc fn k X) (ok : OkI C A kk ps (spKInit A)) (hk : kk + 1 ≤ k) (hg : Gb sc cn) (hm : C.mg cn = some (.ref A)) (nm : Nm N j x) (hl : Loc sc x) (hf : fn x = true ∨ sc.names.lookup x = some .local) (hj : j < E.length) (hO : noOb O [j] = true) (hsw : ∀ i, swapsWith (.Call (.Name cn p) [] [] pos) (some (.Name x pz)) pos'.line (X i).env = pure false) (hdb : (cn == ("__debug__" : Str)) = false)
    (kn : ∀ u, SB X Z B (E.set j none) (O ++ [kob j A u ⟨[], [], []⟩]) rest q) : SB X Z B E O (.Assign [.Name x pz] (.Call (.Name cn p) [] [] pos) pos' :: rest) q := fun K hK D m ρ π σ H h => by
  obtain ⟨f, fd, hmk, hb, G⟩ := ok.ex
  refine wB_cons ⟨_, fun i => ps_set (by rw [hx.Nx i]; exact hx.nd) (by rw [hx.Nx i]; exact nm.at_) (by rw [hx.scx i]; exact hl) (pe_make0 (E := E0) (dvs := []) (ds := []) (CX := CX0) (C := A) (sp := spKInit A) (by rw [hx.K i]; exact hmk) (by rw [hx.P i, hx.w i, hx.K i, hx.mg i, hx.base i]; exact G) ((hx.room i).mono hk) (gl_of hx hg i) (by rw [hx.mg i]; exact hm) (by rw [hx.K i]; exact hb) .nil pass0 hdb) (hsw i) (hf.elim (fun h => .inl (hx.fnx i _ h)) (fun h => .inr (by rw [hx.scx i]; exact h))), ?_⟩
  intro x' dx nx ndx nex
  refine ⟨x', dx, rfl, upd_same, fun pd cl H' n1 n2 ka kp => ⟨rfl, ?_⟩⟩
  have s0 : Same H (upd (upd H dx (.own x')) x' (.ins A dx [])) := fun b o e => by
    rw [upd_ne (ne_of_none e nx), upd_ne (ne_of_none e ndx)]; exact e
  have s1 : Same H H' := fun b o e => kp b o (s0 b o e) (ne_of_none e nx)
  refine kn ⟨x', dx, pd, cl⟩ K hK D m ρ _ _ H' (h.objNew (A' := fun a => a = x' ∨ a = pd ∨ a = cl) hO s1 (by rw [← h.len]; exact hj) (fun a ha => ?_) (fun a ha => ?_) fun C => ⟨rfl, ⟨.inl rfl, .inr (.inl rfl), .inr (.inr rfl), fun a h => h⟩, ka⟩)
  · rcases ha with e | e | e
    · rw [e]; exact nx
    · rw [e]; exact s0.free n1
    · rw [e]; exact s0.free n2
  · rcases ha with e | e | e
    · rw [e, ka.ob]; exact fun z => nomatch z
    · rw [e, ka.pd]; exact fun z => nomatch z
    · rw [e, ka.cl]; exact fun z => nomatch z
end
end G

namespace G
open PySem PySem.Spec PyProof.Rows L2
/-! ### walking a list that an object holds -/
def Src3 (Z : Hp) (Jt : It) (src : List PyData) (Wo : List Ob → Prop) : Prop := ∀ ρ π E O K σ H i, Rel Z ρ π E O K σ H → Wo O → (i < src.length → Jt.go i H) ∧ (src.length ≤ i → Jt.stop i H) ∧
  ∀ x H', i < src.length → Jt.yld i H x H' → Same H H' ∧ ∃ d, src[i]? = some d ∧ Fd (fun a => H a = none) H' x d ∧ wfD d
def EJ {J : Type} (X : J → Cx) (Z : Hp) (E : List Cell) (O : List Ob) (tg it : Expr) (src : List PyData) (Wo : List Ob → Prop) (O' : List Ob) : Prop :=
  ∀ ρ π K σ H, Rel Z ρ π E O K σ H → ∀ Rr : It → Hp → Prop, (∀ Jt ρ' π' H', Rel Z ρ' π' E O' K σ H' → Go ρ π H ρ' π' H' → Src3 Z Jt src Wo → Rr Jt H') → wI X tg it σ H Rr
section
variable {C : Ctx} {N : List Str} {sc : Scope} {fn : Str → Bool} {k : Nat} {J : Type} {X : J → Cx}
variable {Z : Hp} {B : Nat → Bool} {E E' : List Cell} {O O1 O2 O3 O' : List Ob} {e a b c tg it : Expr} {es ifs : List Expr} {P : OP} {R R1 R2 R3 R' Ri Re Rk : List Nat} {d d1 d2 d3 : PyData} {ds es1 src : List PyData} {pos p p2 pos' tp : Pos} {body rest : List Stmt} {q : Po} {w : Nat} {Wo : List Ob → Prop} {x : Str} {j : Nat} {A : Addr} {u : KA} {ks : KS}
theorem ej_com (hx : SX C N sc fn k X) (nm : Nm N j x) (hv : Vis sc x) (cA : Cls C.K A) (nA : NoAttr C.K A "coming") (ho : (j, kprP A u ks, Rk) ∈ O) (hw : ∀ w ∈ ks.com, wfD (dS w)) (hb : ∀ i, attributeBase (.Name x p) "coming" (X i).env (eval (.Name x p) (X i).env) = eval (.Name x p) (X i).env) :
    EJ X Z E O tg (.Attribute (.Name x p) "coming" pos) (ks.com.map dS) (fun O3 => (j, kprP A u ks, Rk) ∈ O3) O := fun ρ π K σ H h Rr q => by
  obtain ⟨e1, _, ka⟩ := kpr_at h ho
  refine ⟨iList C.K (tFld C.K (tVar j) "coming"), fun i => by rw [← hx.K i]; exact pi_list (pe_fld (pe_nm hx nm hv i) (hb i)), _, e1, u.p, A, u.dx, _, _, rfl, ka.ob, cA, nA, kF_coming _ _, u.cl, rfl, ⟨_, SqL.of ka.cl⟩, q _ ρ π H h (Go.refl _ _ _) fun ρ3 π3 E3 O3 K3 σ3 H3 i r3 ho3 => ?_⟩
  obtain ⟨_, _, k3⟩ := kpr_at r3 ho3
  refine ⟨fun hi => ?_, fun hi => ⟨_, SqL.of k3.cl, by rw [List.length_map] at hi ⊢; exact hi⟩, fun x' H' hlt hy => ?_⟩
  · have hi : i < (clV ks.com).length := by rw [List.length_map] at hi ⊢; exact hi
    exact ⟨_, _, SqL.of k3.cl, List.getElem?_eq_getElem hi⟩
  · obtain ⟨rfl, hy⟩ := hy
    have hy := hy _ (SqL.of k3.cl)
    obtain ⟨w, hw', rfl⟩ := mapGet hy
    exact ⟨Same.refl _, dS w, by rw [List.getElem?_map, hw']; rfl, .str _, hw w (List.mem_of_getElem? hw')⟩
theorem lc_coreJ {scope : Scope} {own : List (Str × Nat)} {un : PyData → Option (List PyData)} {pr : Nat → Bool} {f : Nat → PyData} {w : Nat} (hw0 : w ≠ 0)
    (hx : SX C N sc fn k X) (hi : EJ X Z E O tg it src Wo O1) (ok : blkC N sc scope own = true) (tgd : TgD (Xb X scope) tg (own.map (·.2)) un)
    (hun : ∀ (n : Nat) d, src[n]? = some d → ∃ es, un d = some es ∧ es.length = (own.map (·.2)).length ∧ (wfD d → wfA es)) (hWo : Wo O1) (hO : noOb O1 (own.map (·.2)) = true) (hz : src.length < sizeLine)
    (ht : ∀ (n : Nat) d es, src[n]? = some d → un d = some es → wfA es → ETs (Xb X scope) Z (setC (w :: []) (wipeC E (own.map (·.2))) (own.map (·.2)) es) O1 ifs (pr n) O1)
    (he : ∀ (n : Nat) d es, src[n]? = some d → un d = some es → wfA es → pr n = true → ED (Xb X scope) Z (setC (w :: []) (wipeC E (own.map (·.2))) (own.map (·.2)) es) O1 e (f n) Re O1) :
    ∀ ρ π K σ H, Rel Z ρ π E O K σ H → ∀ Q : VK, (∀ v ρ' π' H', Rel Z ρ' π' E O1 K σ H' → Go ρ π H ρ' π' H' → Fd (vis ρ' π' Re H) H' v (.list (kept pr f src.length)) → wfD (.list (kept pr f src.length)) → Q v H') →
      tLc (wI X tg it) (wG (Xb X scope) tg) (wTs (Xb X scope) ifs) (wE (Xb X scope) e) (own.map (·.2)) σ H Q := by
  intro ρ π K σ H h Q q
  refine hi ρ π K σ H h _ fun Jt ρ1 π1 H1 h1 g1 hsrc => ?_
  have h2 := h1.paint (w := w) (H := H) hw0 fun a e => h.keep.free e
  have g2 : Go ρ π H (paint ρ1 π1 w H H1) π1 H1 := g1.paint
  generalize paint ρ1 π1 w H H1 = ρ2 at h2 g2
  clear h1 g1 ρ1
  have h3 := h2
  have hno : ∀ o ∈ O1, o.1 ∉ own.map (·.2) := fun o ho => noOb.ne hO ho
  intro D hD
  have hDs : Same H1 (upd H1 D (.lst [])) := same_new hD
  have hDc : ∀ r, ¬ρ2 r D := fun r c => h2.lr r D c hD
  have hDp : ∀ s, ¬π1 s D := fun s c => h2.lp s D c hD
  have hZD : Z D = none := h2.keep.free hD
  have hHD : H D = none := g2.gr D hD
  have Wdef : ∃ W : Nat → Hp → Prop, W = fun i H' => ∃ ρ' π' acc, Rel Z ρ' π' E O1 K σ H' ∧ Go ρ π H ρ' π' H' ∧ (∀ r, ¬ρ' r D) ∧ (∀ s, ¬π' s D) ∧ H' D = some (.lst acc) ∧
      FdA (fun a => vis ρ' π' Re H a ∧ a ≠ D) H' acc (kept pr f i) ∧ wfA (kept pr f i) := ⟨_, rfl⟩
  obtain ⟨W, hW⟩ := Wdef
  refine ⟨fun i m H' => m = src.length - i ∧ i ≤ src.length ∧ W i H', ⟨src.length, by simp, Nat.zero_le _, by
    rw [hW]; exact ⟨ρ2, π1, [], h3.same hDs, g2.trans (Go.same hDs), hDc, hDp, upd_same, .nil, trivial⟩⟩, ?_⟩
  rintro i m H3 ⟨rfl, hi', hw⟩
  rw [hW] at hw
  obtain ⟨ρ3, π3, acc, r3, g3, c3, p3, e3, a3, w3⟩ := hw
  obtain ⟨s1, s2, s3⟩ := hsrc _ _ _ _ _ _ H3 i r3 hWo
  by_cases hlt : i < src.length
  · refine .inr ⟨s1 hlt, fun H' => W (i + 1) H', fun H' hh => ⟨src.length - (i + 1), by omega, rfl, hlt, hh⟩, fun x H4 hy => ?_⟩
    obtain ⟨sm, d, hd, rx, wd⟩ := s3 x H4 hlt hy
    obtain ⟨es, hu, hl, hwf⟩ := hun i d hd
    have we := hwf wd
    have r4 := r3.same sm
    have g4 : Go ρ3 π3 H3 ρ3 π3 H4 := Go.same sm
    -- the item's new places get the colour w
    have r5 := r4.paint (w := w) (H := H3) hw0 fun a e => r3.keep.free e
    have g5 : Go ρ3 π3 H3 (paint ρ3 π3 w H3 H4) π3 H4 := g4.paint
    have rx5 : Fd (col (paint ρ3 π3 w H3 H4) (w :: [])) H4 x d := rx.cut fun a o ha e => ⟨e, by
      exact ⟨w, List.mem_cons_self, .inr ⟨rfl, ha, (by rw [e]; exact fun z => nomatch z), fun r c => r3.lr r a c ha, fun s c => r3.lp s a c ha⟩⟩⟩
    have e4 : H4 D = some (.lst acc) := sm _ _ e3
    have c5 : ∀ r, ¬paint ρ3 π3 w H3 H4 r D := fun r c => by
      rcases c with c | ⟨_, c, _⟩
      · exact c3 r c
      · rw [e3] at c; cases c
    generalize paint ρ3 π3 w H3 H4 = ρ5 at r5 g5 rx5 c5
    refine tgd _ H4 H4 x d es _ _ (Same.refl _) rx5 hu hl fun vs rv => ⟨wipe_setAll _ _ _, ?_⟩
    have r6 : Rel Z ρ5 π3 (setC (w :: []) (wipeC E (own.map (·.2))) (own.map (·.2)) es) O1 K (setAll (wipe σ (own.map (·.2))) (own.map (·.2)) vs) H4 := Rel.setC (Rel.wipe r5 hno) hno rv we
    have back : ∀ {ρ' π' : Cols} {H' : Hp}, Rel Z ρ' π' (setC (w :: []) (wipeC E (own.map (·.2))) (own.map (·.2)) es) O1 K (setAll (wipe σ (own.map (·.2))) (own.map (·.2)) vs) H' → Go ρ5 π3 H4 ρ' π' H' → Rel Z ρ' π' E O1 K σ H' := fun {ρ' π' H'} rr gg => {
      cell := fun n P R ec => by
        obtain ⟨v, e1, qq⟩ := r5.cell n P R ec
        refine ⟨v, e1, P.loc (fun a o ha e => ?_) qq⟩
        obtain ⟨r, hr, c⟩ := ha
        exact ⟨gg.kp a o e fun s z => r5.dx r s a c z, r, hr, gg.up r a c⟩
      obj := fun o ho => by
        obtain ⟨v, e1, qq⟩ := rr.obj o ho
        have : σ[o.1]? = some (some v) := by
          rw [setAll_out _ _ _ (hno o ho), wipe_get, if_neg (hno o ho)] at e1
          exact e1
        exact ⟨v, this, qq⟩
      held := rr.held
      len := r5.len
      dj := rr.dj
      dp := rr.dp
      dx := rr.dx
      lr := rr.lr
      lp := rr.lp
      keep := rr.keep
      zr := rr.zr
      zp := rr.zp
      z0 := rr.z0 }
    have a5 : FdA (fun a => vis ρ5 π3 Re H a ∧ a ≠ D) H4 acc (kept pr f i) := a3.cut fun a o ha e => ⟨sm _ _ e, (vis_keep r3 g5 ha.1 e).2, ha.2⟩
    have g35 : Go ρ π H ρ5 π3 H4 := g3.trans g5
    refine ht i d es hd hu we ρ5 π3 _ _ H4 r6 _ fun ρ6 π6 H6 r7 g6 => ?_
    have keepA : ∀ {ρ' π' : Cols} {H' : Hp}, Go ρ5 π3 H4 ρ' π' H' → H' D = some (.lst acc) ∧ (∀ r, ¬ρ' r D) ∧ (∀ s, ¬π' s D) ∧ FdA (fun a => vis ρ' π' Re H a ∧ a ≠ D) H' acc (kept pr f i) := fun {ρ' π' H'} gg =>
      ⟨gg.kp _ _ e4 p3, fun r c => (gg.rn r D c).elim (c5 r) (fun z => by rw [e4] at z; cases z), fun s c => (gg.pn s D c).elim (p3 s) (fun z => by rw [e4] at z; cases z),
        a5.cut fun a o ha e => ⟨(vis_keep r5 gg ha.1 e).1, (vis_keep r5 gg ha.1 e).2, ha.2⟩⟩
    cases hp : pr i with
    | false =>
      obtain ⟨k1, k2, k3, k4⟩ := keepA g6
      refine iteF ?_
      rw [hW]
      have ek : kept pr f (i + 1) = kept pr f i := by
        show kept pr f i ++ (if pr i = true then [f i] else []) = _
        rw [hp, if_neg Bool.false_ne_true, List.append_nil]
      exact ⟨ρ6, π6, acc, back r7 g6, g35.trans g6, k2, k3, k1, by rw [ek]; exact k4, by rw [ek]; exact w3⟩
    | true =>
      refine iteT ?_
      refine he i d es hd hu we hp ρ6 π6 _ _ H6 r7 _ fun y ρ7 π7 H7 r8 g7 ry => ?_
      have g67 := g6.trans g7
      obtain ⟨k1, k2, k3, k4⟩ := keepA g67
      have k4l := k4.length
      have kl := kept_len pr f i
      refine ⟨acc, k1, by omega, ?_⟩
      rw [hW]
      have ek : kept pr f (i + 1) = kept pr f i ++ [f i] := by
        show kept pr f i ++ (if pr i = true then [f i] else []) = _
        rw [hp, if_pos rfl]
      have hDl : H6 D ≠ none := by rw [g6.kp _ _ e4 p3]; exact fun z => nomatch z
      have yD : ∀ a, vis ρ7 π7 Re H6 a → a ≠ D := fun a ha c => by
        subst c
        rcases ha with ⟨r, _, c⟩ | ⟨z, _⟩
        · exact k2 r c
        · exact hDl z
      have upD : ∀ a o, a ≠ D → H7 a = some o → upd H7 D (.lst (acc ++ [y])) a = some o := fun a o ha e => by rw [upd_ne ha]; exact e
      refine ⟨ρ7, π7, acc ++ [y], (back r8 g67).poke k2 k3 hZD, ?_, k2, k3, upd_same, ?_, ?_⟩
      · have gg := g35.trans g67
        exact { up := gg.up, kp := fun a o e hn => by rw [upd_ne (fun z => by rw [z, hHD] at e; cases e)]; exact gg.kp a o e hn, gr := fun a e => gg.gr a (grow_upd a e), rn := gg.rn, pn := gg.pn }
      · rw [ek]
        refine (k4.cut fun a o ha e => ⟨upD a o ha.2 e, ha⟩).app (.cons (ry.1.cut fun a o ha e => ⟨upD a o (yD a ha) e, vis_from (g35.trans g6) ha, yD a ha⟩) .nil)
      · rw [ek]; exact w3.app ⟨ry.2, trivial⟩
  · have he' : i = src.length := by omega
    subst he'
    refine .inl ⟨s2 (Nat.le_refl _), q _ ρ3 π3 H3 r3 g3 (.lst (.inr ⟨hHD, c3, p3⟩) e3 (a3.mono (fun _ h => h.1) (Same.refl _))) ⟨Nat.lt_of_le_of_lt (kept_len _ _ _) hz, w3⟩⟩
variable {α : Type} {l : List α} {g g1 g2 : α → PyData}
theorem lcRJ {scope : Scope} {x : Str} {j : Nat} {pr : α → Bool} {f : α → PyData} (hx : SX C N sc fn k X) (nm : Nm N j x) (hl : Loc (relabS scope sc) x) (hf : (scope.names.lookup x == some .cell) = true ∨ (relabS scope sc).names.lookup x = some .local)
    (ok : blkC N sc scope [(x, j)] = true) (hi : EJ X Z E O (.Name x tp) it (l.map g) Wo O1) (hWo : Wo O1) (hO : noOb O1 [j] = true) (hz : l.length < sizeLine)
    (ht : ∀ a ∈ l, wfD (g a) → SX C N (relabS scope sc) (fun x => scope.names.lookup x == some .cell) k (Xb X scope) → ETs (Xb X scope) Z (E.set j (dc (g a) (rOf (g a) (900 :: [])))) O1 ifs (pr a) O1)
    (he : ∀ a ∈ l, pr a = true → wfD (g a) → SX C N (relabS scope sc) (fun x => scope.names.lookup x == some .cell) k (Xb X scope) → ED (Xb X scope) Z (E.set j (dc (g a) (rOf (g a) (900 :: [])))) O1 e (f a) Re O1) :
    ER Z E O (tLc (wI X (.Name x tp) it) (wG (Xb X scope) (.Name x tp)) (wTs (Xb X scope) ifs) (wE (Xb X scope) e) [j]) (.list ((l.filter pr).map f)) Re O1 := by
  have key := kept_map (l := l) (p := pr) (f := f) (fun n => match l[n]? with | some a => pr a | none => false) (fun n => match l[n]? with | some a => f a | none => .none) (fun n a h => by simp only [h]) (fun n a h => by simp only [h]) l.length (Nat.le_refl _)
  rw [List.take_length] at key
  have hset : ∀ a, setC (900 :: []) (wipeC E [j]) [j] [g a] = E.set j (dc (g a) (rOf (g a) (900 :: []))) := fun a => by
    show (E.set j none).set j _ = _
    rw [List.set_set]
  intro ρ π K σ H h Q q
  refine lc_coreJ (Re := Re) (own := [(x, j)]) (w := 900) (hw0 := by decide) (un := un1) (pr := fun n => match l[n]? with | some a => pr a | none => false) (f := fun n => match l[n]? with | some a => f a | none => .none)
    hx hi ok (tg_name (hx.blk scope) nm hl hf) (fun n d _ => ⟨[d], rfl, rfl, fun w => ⟨w, trivial⟩⟩) hWo hO (by rw [List.length_map]; exact hz) ?_ ?_ ρ π K σ H h Q ?_
  · intro n d es hd hu hw
    obtain ⟨a, ha, rfl⟩ := mapGet hd
    cases hu
    simp only [ha]
    show ETs (Xb X scope) Z (setC (900 :: []) (wipeC E [j]) [j] [g a]) O1 ifs (pr a) O1
    rw [hset]
    exact ht a (List.mem_of_getElem? ha) hw.1 (hx.blk scope)
  · intro n d es hd hu hw hp
    obtain ⟨a, ha, rfl⟩ := mapGet hd
    cases hu
    simp only [ha] at hp ⊢
    show ED (Xb X scope) Z (setC (900 :: []) (wipeC E [j]) [j] [g a]) O1 e (f a) Re O1
    rw [hset]
    exact he a (List.mem_of_getElem? ha) hp hw.1 (hx.blk scope)
  · rw [List.length_map, key]
    exact fun v ρ' π' H' a b c d => q v ρ' π' H' a b ⟨c, d⟩

theorem ee_lcJ {scope : Scope} {x : Str} {j : Nat} {pr : α → Bool} {f : α → PyData} (hx : SX C N sc fn k X) (nm : Nm N j x) (hl : Loc (relabS scope sc) x) (hf : (scope.names.lookup x == some .cell) = true ∨ (relabS scope sc).names.lookup x = some .local)
    (ok : blkC N sc scope [(x, j)] = true) (hi : EJ X Z E O (.Name x tp) it (l.map g) Wo O1) (hWo : Wo O1) (hO : noOb O1 [j] = true) (hz : l.length < sizeLine)
    (ht : ∀ a ∈ l, wfD (g a) → SX C N (relabS scope sc) (fun x => scope.names.lookup x == some .cell) k (Xb X scope) → ETs (Xb X scope) Z (E.set j (dc (g a) (rOf (g a) (900 :: [])))) O1 ifs (pr a) O1)
    (he : ∀ a ∈ l, pr a = true → wfD (g a) → SX C N (relabS scope sc) (fun x => scope.names.lookup x == some .cell) k (Xb X scope) → ED (Xb X scope) Z (E.set j (dc (g a) (rOf (g a) (900 :: [])))) O1 e (f a) Re O1)
    (hs : ∀ i x, foldedSetIterable it (X i).env x = pure x) :
    ED X Z E O (.ListComp e [⟨.Name x tp, it, ifs, 0⟩] scope pos) (.list ((l.filter pr).map f)) Re O1 := fun ρ π K σ H h Q q =>
  ⟨_, fun i => pe_lc (own := [(x, j)]) (hx.calm i) (by rw [hx.Nx i]; exact hx.nd) (pi_w _ it i) (by rw [hx.Nx i, hx.scx i]; exact blkOk_by ok) (fun s H C cl fp => pg_w (X := Xb X scope) _ (i, s, H, C, cl, fp)) (fun s H C cl fp => pts_w (X := Xb X scope) ifs (i, s, H, C, cl, fp)) (fun s H C cl fp => pe_w (X := Xb X scope) e (i, s, H, C, cl, fp)) (hs i),
    lcRJ hx nm hl hf ok hi hWo hO hz ht he ρ π K σ H h Q q⟩
variable {st : Stmt}
theorem sb_forJ {is : List Nat} {un : PyData → Option (List PyData)} (hx : SX C N sc fn k X) (hi : EJ X Z E O tg it src Wo O1) (tgd : TgD X tg is un) (hun : ∀ (n : Nat) d, src[n]? = some d → ∃ es, un d = some es ∧ es.length = is.length ∧ (wfD d → wfA es))
    (I : Nat → List Cell → List Ob → Prop) (hWo : ∀ n E O, I n E O → Wo O) (h0 : I 0 E O1)
    (hs : ∀ (n : Nat) d es E O, src[n]? = some d → un d = some es → wfA es → I n E O → noOb O is = true ∧
      SB X Z B (setC ((w + 1) :: []) E is es) O body { nx := I (n + 1), ct := I (n + 1), rt := q.rt, bk := fun E O => SB X Z B E O rest q })
    (hd : ∀ E O, I src.length E O → SB X Z B E O rest q) (hst : ∀ i x, foldedSetIterable it (X i).env x = pure x) :
    SB X Z B E O (.For tg it body [] pos :: rest) q := fun K hK D m ρ π σ H h =>
  wB_cons ⟨_, fun i => ps_for (by rw [hx.xe i]; exact PassesOwn.never) (hx.calm i) (pi_w tg it i) (pg_w tg i) (pb_w body i) (hst i), hi ρ π K σ H h _ fun Jt ρ1 π1 H1 h1 g1 hsrc => by
    have h2 := h1.paint (w := w + 1) (H := H) (Nat.succ_ne_zero _) fun a e => h.keep.free e
    have h3 := h2
    refine ⟨fun i m σ H => m = src.length - i ∧ i ≤ src.length ∧ ∃ ρ π E O, Rel Z ρ π E O K σ H ∧ I i E O, ⟨src.length, by simp, Nat.zero_le _, _, _, _, _, h3, h0⟩, ?_⟩
    rintro i mm σ H3 ⟨rfl, hi', ρ3, π3, E3, O3, r3, p3⟩
    obtain ⟨s1, s2, s3⟩ := hsrc _ _ _ _ _ _ H3 i r3 (hWo _ _ _ p3)
    by_cases hlt : i < src.length
    · refine .inr ⟨s1 hlt, fun σ' H' => ∃ ρ π E O, Rel Z ρ π E O K σ' H' ∧ I (i + 1) E O, fun σ' H' hh => ⟨src.length - (i + 1), by omega, rfl, hlt, hh⟩, fun x H4 hy => ?_⟩
      obtain ⟨sm, d, hd', rx, wd⟩ := s3 x H4 hlt hy
      obtain ⟨es, hu, hl, hwf⟩ := hun i d hd'
      obtain ⟨hO, hb⟩ := hs i d es E3 O3 hd' hu (hwf wd) p3
      have r4 := r3.same sm
      have r5 := r4.paint (w := w + 1) (H := H3) (Nat.succ_ne_zero _) fun a e => r3.keep.free e
      have rx5 : Fd (col (paint ρ3 π3 (w + 1) H3 H4) ((w + 1) :: [])) H4 x d := rx.cut fun a o ha e => ⟨e, by
        exact ⟨w + 1, List.mem_cons_self, .inr ⟨rfl, ha, (by rw [e]; exact fun z => nomatch z), fun r c => r3.lr r a c ha, fun s c => r3.lp s a c ha⟩⟩⟩
      refine tgd _ H4 H4 x d es _ _ (Same.refl _) rx5 hu hl fun vs rv => ?_
      refine hb _ hK _ ⟨?_, ?_, ?_, ?_⟩ _ _ _ _ (Rel.setC r5 (fun o ho => noOb.ne hO ho) rv (hwf wd))
      · exact fun σ H ρ π E O x r => ⟨ρ, π, E, O, r, x⟩
      · exact fun v σ H ρ π E O P R x r => m.rt v σ H ρ π E O P R x r
      · exact fun σ H ρ π E O x r => x K hK D m ρ π σ H r
      · exact fun σ H ρ π E O x r => ⟨ρ, π, E, O, r, x⟩
    · have he' : i = src.length := by omega
      subst he'
      exact .inl ⟨s2 (Nat.le_refl _), hd E3 O3 p3 K hK D m ρ3 π3 σ H3 r3⟩⟩
end
end G

namespace G
open PySem PySem.Spec PyProof.Rows L2
/-! ### sorted of alike data -/
def rSortD (K : PySem.W.Frag) : List V → Hp → VK → Prop := fun vs H Q => ∃ (a : Addr) (xs : List V) (bs : List PyData) (P : V → PyData → Prop), vs = [V.ref a] ∧ SqL K H a xs ∧ DpAll K H xs bs ∧ PySem.W.EachIs P xs bs ∧ PySem.W.AllAlike bs ∧ PySem.W.Sortable bs ∧ (∀ b ∈ bs, PyData.depth b ≤ 60) ∧
  ∀ ys p, PySem.W.EachIs P ys (bs.mergeSort (PySem.W.dataLe false id)) → H p = none → Q (.ref p) (upd H p (.lst ys))
theorem eachIs_split {P : V → PyData → Prop} : ∀ {us : List Value} {bs : List PyData}, PySem.W.EachIs (fun u b => ∃ x, RelV x u ∧ P x b) us bs → ∃ ys, Vals ys us ∧ PySem.W.EachIs P ys bs
  | _, _, .nil => ⟨[], .nil, .nil⟩
  | _, _, .cons ⟨x, r, p⟩ t => by
    obtain ⟨ys, h1, h2⟩ := eachIs_split t
    exact ⟨x :: ys, .cons r h1, .cons p h2⟩
theorem eachIs_join {P : V → PyData → Prop} : ∀ {xs : List V} {us : List Value} {bs : List PyData}, Vals xs us → PySem.W.EachIs P xs bs → PySem.W.EachIs (fun u b => ∃ x, RelV x u ∧ P x b) us bs
  | _, _, _, .nil, .nil => .nil
  | _, _, _, .cons r t, .cons p q => .cons ⟨_, r, p⟩ (eachIs_join t q)
theorem eachIs_fd {A : Addr → Prop} {H : Hp} : ∀ {xs : List V} {bs : List PyData}, FdA A H xs bs → PySem.W.EachIs (Fd A H) xs bs
  | _, _, .nil => .nil
  | _, _, .cons a r => .cons a (eachIs_fd r)
theorem fd_eachIs {A : Addr → Prop} {H : Hp} : ∀ {xs : List V} {bs : List PyData}, PySem.W.EachIs (Fd A H) xs bs → FdA A H xs bs
  | _, _, .nil => .nil
  | _, _, .cons a r => .cons a (fd_eachIs r)
theorem cr_sortD {X : Cx} (hu : X.A.units + 64 < cLine) : CallR X (.builtin "sorted") (rSortD X.K) := by
  intro pins s σ H vs us Q I r h
  obtain ⟨a, xs, bs, P, rfl, hs, hd, hP, hal, hk, hdep, q⟩ := h
  obtain ⟨its, rv, hl, hz⟩ := I.list hs
  rw [Vals.ref1 r]
  obtain ⟨as, hr⟩ := Dp.readsAll I bs xs its hd rv
  have hr' : ReadsAll s.heap its (bs.map id) as := by rw [List.map_id]; exact hr
  have hal' : PySem.W.AllAlike (bs.map id) := by rw [List.map_id]; exact hal
  have hk' : PySem.W.Sortable (bs.map id) := by rw [List.map_id]; exact hk
  have hlen : bs.length ≤ sizeLine := by rw [← hP.length]; exact hz
  refine PySem.W.sorted_data (R := fun v b => ∃ x, RelV x v ∧ P x b) (enc := id) hl.isList (eachIs_join rv hP) (PySem.W.readsAll_each id hr') hal' hk' hlen (fun b hb => by have := hdep b hb; show X.A.units + 2 + PyData.depth b < cLine; omega) fun out ho he => ?_
  obtain ⟨ys, hv, hy⟩ := eachIs_split he
  obtain ⟨ep, he'⟩ := PyProof.Rows.sortedAll_at s.heap its out.toArray
  have hyl : ys.length ≤ sizeLine := by rw [hv.length, ho]; exact hlen
  exact ⟨.ref _, upd H (s.heap.objs.size + 1) (.lst ys), I.laid (t' := s.toks) (fun _ _ => PyProof.Rows.sortedAll_old) (Nat.le_succ _) ⟨hyl, out, ep, hv, he'⟩, rfl, q ys _ hy (I.hok.fresh (Nat.le_succ _))⟩
section
variable {C : Ctx} {N : List Str} {sc : Scope} {fn : Str → Bool} {k : Nat} {J : Type} {X : J → Cx}
variable {Z : Hp} {B : Nat → Bool} {E E' : List Cell} {O O1 O2 O3 O' : List Ob} {e a b c tg it : Expr} {es ifs : List Expr} {P : OP} {R R1 R2 R3 R' Ri Re Rk : List Nat} {d d1 d2 d3 : PyData} {ds es1 src : List PyData} {pos p p2 pos' apos cpos tp : Pos} {body rest : List Stmt} {q : Po} {w : Nat} {x : Str} {j : Nat}
theorem ee_sortD (hx : SX C N sc fn k X) (hm : C.mg "sorted" = none) (hg : Gb sc "sorted") (ha : ED X Z E O a (.list ds) R O1) (hal : PySem.W.AllAlike ds) (hk : PySem.W.Sortable ds) (hdep : ∀ b ∈ ds, PyData.depth b ≤ 60) (hd : ds.mergeSort (PySem.W.dataLe false id) = es1)
    (he : ∀ i, starEach [a] (X i).env = (false, eval a (X i).env) :: starEach [] (X i).env) (hpl : ∀ i, (backTo pos (starEach [] (X i).env)).any (·.1) = false) :
    ED X Z E O (.Call (.Name "sorted" p) [a] [] pos) (.list es1) R O1 := fun ρ π K σ H h Q qq =>
  ⟨tCB (rSortD C.K) (wA X [a]), fun i => pe_callB (by rw [← hx.K i]; exact cr_sortD (hx.room i).units) (gl_of hx hg i) (by rw [hx.mg i]; exact hm) (by decide +kernel) (pa_w [a] i) (by decide) (by decide) (he i) (hpl i),
    (ea_cons' ha ea_nil' he).sub (R' := rOf (.list ds) R ++ []) (fun _ h => h) ρ π K σ H h _ fun vs ρ1 π1 H1 h1 g1 rs ws => by
      obtain ⟨v, rfl, r⟩ := rs.one
      have hR : rOf (.list ds) R ++ [] = R := by rw [List.append_nil]; rfl
      rw [hR] at r
      cases r with
      | @lst y xs _ hA e1 q1 =>
        have w1 : ds.length < sizeLine ∧ wfA ds := ws.1
        refine ⟨y, xs, ds, Fd (vis ρ1 π1 R H) H1, rfl, SqL.of e1, q1.dp _, eachIs_fd q1, hal, hk, hdep, fun ys z hy hz => ?_⟩
        rw [hd] at hy
        have s : Same H1 (upd H1 z (.lst ys)) := same_new hz
        have hp : ds.Perm es1 := hd ▸ (List.mergeSort_perm _ _).symm
        exact qq _ ρ1 π1 _ (h1.same s) (g1.trans (Go.same s)) ⟨.lst (vis_new h1 g1 hz) upd_same ((fd_eachIs hy).mono (fun _ h => h) s), by rw [← hp.length_eq]; exact w1.1, w1.2.sub fun d hd => hp.mem_iff.mpr hd⟩⟩
/-- by an order of one's own -/
theorem ee_sortM {α : Type} {l : List α} {g : α → PyData} (r : α → α → Bool) (hx : SX C N sc fn k X) (hm : C.mg "sorted" = none) (hg : Gb sc "sorted") (ha : ED X Z E O a (.list (l.map g)) R O1) (hal : ∀ a b, PySem.W.alike (g a) (g b) = true) (hk : (∀ a, ∃ x r, g a = .tuple (x :: r)) ∨ ∀ a, g a ≠ .none ∧ ∀ xs, g a ≠ .tuple xs) (hdep : ∀ a, PyData.depth (g a) ≤ 60)
    (hr : ∀ a ∈ l, ∀ b ∈ l, r a b = !PySem.W.dataLt (g b) (g a))
    (he : ∀ i, starEach [a] (X i).env = (false, eval a (X i).env) :: starEach [] (X i).env) (hpl : ∀ i, (backTo pos (starEach [] (X i).env)).any (·.1) = false) :
    ED X Z E O (.Call (.Name "sorted" p) [a] [] pos) (.list ((l.mergeSort r).map g)) R O1 :=
  ee_sortD hx hm hg ha (PySem.W.AllAlike.of hal) (hk.elim PySem.W.Sortable.tuples PySem.W.Sortable.others) (fun b hb => by obtain ⟨a, _, rfl⟩ := List.mem_map.mp hb; exact hdep a)
    (PySem.W.sort_maps g fun a ha b hb => (hr a ha b hb).trans rfl).symm he hpl
/-! ### list.index, of flat things -/
theorem ee_index {α : Type} [BEq α] [LawfulBEq α] {l : List α} {g : α → PyData} {y : α} (hx : SX C N sc fn k X) (ha : ED X Z E O a (.list (l.map g)) R1 O1) (hb : ED X Z E O1 b (g y) R2 O2) (hg : ∀ a, flatD (g a) = true) (hV : ∃ f : α → V, (∀ a (S : Addr → Prop) H v, Fd S H v (g a) → v = f a) ∧ (∀ a, flatV (f a) = true) ∧ ∀ a c, eqV (f a) (f c) = (a == c)) (hy : y ∈ l)
    (hs : ∀ i, starEach [b] (X i).env = (false, eval b (X i).env) :: starEach [] (X i).env) (hbase : ∀ i, attributeBase a "index" (X i).env (eval a (X i).env) = eval a (X i).env)
    (hfew : ∀ i, ((backTo cpos (starEach [b] (X i).env)).all (fun x => !x.1) && (backToKw cpos (keywordEach [] (X i).env)).all (fun x => x.1.isSome)
      && decide ([b].length + ([] : List Keyword).length + (if ([] : List Keyword).isEmpty then 0 else 1) < 30)) = true)
    (hline : (apos.endLine == cpos.line) = true) (hplain : ∀ i, (backTo cpos (starEach [] (X i).env)).any (·.1) = false) :
    ED X Z E O (.Call (.Attribute a "index" apos) [b] [] cpos) (.int (l.idxOf y : Nat)) [] O2 := fun ρ π K σ H h Q qq => by
  obtain ⟨f, f1, f2, f3⟩ := hV
  refine ⟨tBM C.K "list" (rIndex C.K) (wE X a) (tCons (wE X b) tNil), fun i => by rw [← hx.K i]; exact pe_bm PySem.F.plainAttrs_list PySem.F.slot_list_index PySem.F.type_list_index mt_index (pe_w a i) (pa_cons (pe_w b i) pa_nil (hs i)) (hbase i) (hfew i) hline (hs i) (hplain i), ha ρ π K σ H h _ fun v ρ1 π1 H1 h1 g1 r1 => ?_⟩
  have r1' := r1.1
  cases r1' with
  | @lst z xs _ hA e1 q1 =>
    refine ⟨.inl ⟨rfl, _, SqL.of e1⟩, hb ρ1 π1 K σ H1 h1 _ fun u ρ2 π2 H2 h2 g2 r2 => ?_⟩
    have r3 := (Fd.lst hA e1 q1).cut fun a o ha e => vis_keep h1 g2 ha e
    have hu : u = f y := f1 _ _ _ _ r2.1
    subst hu
    cases r3 with
    | @lst _ ys _ _ e2 q2 =>
      have hys : ys = l.map f := by
        refine List.ext_getElem? fun n => ?_
        rw [List.getElem?_map]
        cases hn : l[n]? with
        | none =>
          rw [List.getElem?_eq_none (by rw [q2.length, List.length_map]; exact List.getElem?_eq_none_iff.mp hn)]; rfl
        | some t =>
          obtain ⟨v, hv, rv⟩ := q2.get (i := n) (d := g t) (by rw [List.getElem?_map, hn]; rfl)
          rw [hv, f1 _ _ _ _ rv]; rfl
      subst hys
      have hi : l.idxOf y < l.length := List.idxOf_lt_length_iff.mpr hy
      refine ⟨z, l.map f, f y, l.idxOf y, f y, rfl, rfl, SqL.of e2, f2 y, ?_, ?_, ?_, fun m z' hm hz' => ?_, qq _ ρ2 π2 H2 h2 (g1.trans g2) ⟨.int _, trivial⟩⟩
      · rw [List.all_map]; exact List.all_eq_true.mpr fun a _ => f2 a
      · rw [List.getElem?_map, List.getElem?_eq_getElem hi, List.getElem_idxOf]; rfl
      · rw [f3]; exact beq_self_eq_true y
      · obtain ⟨t, ht, rfl⟩ := mapGet hz'
        rw [f3, Bool.eq_false_iff]
        intro c
        have c : t = y := beq_iff_eq.mp c
        have hml : m < l.length := by omega
        rw [List.getElem?_eq_getElem hml] at ht
        have e3 : l[m] = y := (Option.some.inj ht).trans c
        have := List.not_of_lt_findIdx (p := (· == y)) (xs := l) (i := m) hm
        rw [e3] at this
        simp at this
theorem viS : ∃ f : List Nat → V, (∀ a (S : Addr → Prop) H v, Fd S H v (dS a) → v = f a) ∧ (∀ a, flatV (f a) = true) ∧ ∀ a c, eqV (f a) (f c) = (a == c) :=
  ⟨fun w => .str (tx w), fun a S H v h => by cases h; rfl, fun _ => rfl, fun a c => by
    show (tx a == tx c) = _
    rw [Bool.eq_iff_iff, beq_iff_eq, beq_iff_eq]
    exact ⟨fun h => tx_inj h, fun h => by rw [h]⟩⟩
theorem viI : ∃ f : Int → V, (∀ a (S : Addr → Prop) H v, Fd S H v (.int a) → v = f a) ∧ (∀ a, flatV (f a) = true) ∧ ∀ a c, eqV (f a) (f c) = (a == c) :=
  ⟨fun w => .int w, fun a S H v h => by cases h; rfl, fun _ => rfl, fun a c => rfl⟩
theorem viN : ∃ f : Nat → V, (∀ a (S : Addr → Prop) H v, Fd S H v (.int (a : Nat)) → v = f a) ∧ (∀ a, flatV (f a) = true) ∧ ∀ a c, eqV (f a) (f c) = (a == c) :=
  ⟨fun w => .int w, fun a S H v h => by cases h; rfl, fun _ => rfl, fun a c => by
    show ((a : Int) == (c : Int)) = _
    rw [Bool.eq_iff_iff, beq_iff_eq, beq_iff_eq]; omega⟩
/-! ### lists of flat things that change -/
def lsP (p : Addr) (ds : List PyData) : OQ := ⟨fun v A _ H => v = .ref p ∧ A p ∧ ds.all flatD = true ∧ wfA ds ∧ ∃ xs, H p = some (.lst xs) ∧ FdA Any H xs ds,
  fun h1 _ ⟨e, a1, f, w, xs, h2, q⟩ => ⟨e, a1, f, w, xs, h1 _ _ a1 h2, q.flat f⟩⟩
abbrev lob (j : Nat) (p : Addr) (ds : List PyData) : Ob := (j, lsP p ds, [])
theorem lob_at {ρ π : Cols} {K : Held} {σ : L2.St} {H : Hp} {p0 : Addr} (h : Rel Z ρ π E O K σ H) (ho : (j, lsP p0 ds, Rk) ∈ O) : σ[j]? = some (some (.ref p0)) ∧ π j p0 ∧ ds.all flatD = true ∧ wfA ds ∧ ∃ xs, H p0 = some (.lst xs) ∧ FdA Any H xs ds := by
  obtain ⟨v, e, rfl, h1, h2⟩ := h.obj _ ho
  exact ⟨e, h1, h2⟩
theorem okMut1 {r0 : Nat} (h : okMut B [r0] = true) : r0 ≠ 0 := (okMut.at h r0 List.mem_cons_self).2
theorem sb_own {r0 : Nat} (hc : E[j]? = some (dc (.list ds) [r0])) (hM : okMut B [r0] = true) (hf : ds.all flatD = true) (hO : okObs O [r0] = true) (hno : noOb O [j] = true)
    (kk : ∀ p0, SB X Z B ((E.map (killC [r0])).set j none) (O ++ [lob j p0 ds]) rest q) : SB X Z B E O rest q := fun K hK D m ρ π σ H h => by
  obtain ⟨v, e1, r, wd⟩ := h.cell j _ _ hc
  have hno' : ∀ o ∈ O, o.1 ≠ j := fun o ho => by have := noOb.ne hno ho; simpa using this
  cases r with
  | @lst p0 xs _ hA eq rq =>
    obtain ⟨r1, hr1, c1⟩ := hA
    have hr1 : r1 = r0 := by simpa using hr1
    subst hr1
    have hr0 := okMut1 hM
    have off : ∀ R, r1 ∉ R → ∀ a, col ρ R a → a ≠ p0 := fun R hR a ha e => by
      subst e
      obtain ⟨r, hr, c⟩ := ha
      exact hR (h.dj r r1 _ c c1 ▸ hr)
    have cl : ∀ R, r1 ∉ R → ∀ a o, col ρ R a → H a = some o → H a = some o ∧ col (fun r a => ρ r a ∧ a ≠ p0) R a := fun R hR a o ha e => ⟨e, by
      have hn := off R hR a ha
      obtain ⟨r, hr, c⟩ := ha
      exact ⟨r, hr, c, hn⟩⟩
    refine kk p0 K hK D m (fun r a => ρ r a ∧ a ≠ p0) (fun s a => (π s a) ∨ (s = j ∧ a = p0)) σ H {
      cell := fun i P R e => by
        rw [List.getElem?_set] at e
        split at e
        · split at e <;> cases e
        · rw [List.getElem?_map] at e
          cases hh : E[i]? with
          | none => rw [hh] at e; cases e
          | some c =>
            rw [hh] at e
            obtain ⟨e1, e2⟩ := killC_some (Option.some.inj e)
            subst e1
            obtain ⟨v, e3, qq⟩ := h.cell i P R hh
            exact ⟨v, e3, P.loc (cl R (fun z => e2 r1 z (by simp))) qq⟩
      obj := fun o ho => by
        rcases List.mem_append.mp ho with ho | ho
        · obtain ⟨v, e1, qq⟩ := h.obj o ho
          have hp : (fun a => π o.1 a ∨ (o.1 = j ∧ a = p0)) = π o.1 := by
            funext a
            refine propext ⟨fun z => z.elim id fun z => absurd z.1 (hno' o ho), .inl⟩
          refine ⟨v, e1, ?_⟩
          show o.2.1.p v (fun a => π o.1 a ∨ (o.1 = j ∧ a = p0)) _ H
          rw [hp]
          exact o.2.1.loc (fun _ _ _ e => e) (cl _ fun z => offR.not (okObs.at hO o ho) z (by simp)) qq
        · have e : o = lob j p0 ds := by simpa using ho
          subst e
          exact ⟨.ref p0, e1, rfl, .inr ⟨rfl, rfl⟩, hf, wd.2, xs, eq, rq.mono (fun _ _ => trivial) (Same.refl _)⟩
      held := fun k hk => k.2.1.loc (cl _ fun z => by have := hK k hk r1 z; rw [(okMut.at hM r1 (by simp)).1] at this; cases this) (h.held k hk)
      len := by rw [List.length_set, List.length_map]; exact h.len
      dj := fun r s a h1 h2 => h.dj r s a h1.1 h2.1
      dp := fun r s a h1 h2 => by
        rcases h1 with h1 | ⟨e1, e2⟩ <;> rcases h2 with h2 | ⟨e3, e4⟩
        · exact h.dp r s a h1 h2
        · subst e4; exact (h.dx r1 r _ c1 h1).elim
        · subst e2; exact (h.dx r1 s _ c1 h2).elim
        · rw [e1, e3]
      dx := fun r s a h1 h2 => by
        rcases h2 with h2 | ⟨_, e⟩
        · exact h.dx r s a h1.1 h2
        · exact h1.2 e
      lr := fun r a hr => h.lr r a hr.1
      lp := fun r a hr => by
        rcases hr with hr | ⟨_, e⟩
        · exact h.lp r a hr
        · subst e; rw [eq]; exact fun z => nomatch z
      keep := h.keep
      zr := fun r a hr => h.zr r a hr.1
      zp := fun r a hr => by
        rcases hr with hr | ⟨_, e⟩
        · exact h.zp r a hr
        · subst e; exact h.zr r1 _ c1 hr0
      z0 := fun a hr => h.z0 a hr.1 }
theorem ee_lenO {p0 : Addr} (hx : SX C N sc fn k X) (hm : C.mg "len" = none) (hg : Gb sc "len") (nm : Nm N j x) (hv : Vis sc x) (ho : (j, lsP p0 ds, Rk) ∈ O)
    (he : ∀ i, starEach [.Name x p] (X i).env = (false, eval (.Name x p) (X i).env) :: starEach [] (X i).env) (hpl : ∀ i, (backTo pos' (starEach [] (X i).env)).any (·.1) = false) :
    ED X Z E O (.Call (.Name "len" p2) [.Name x p] [] pos') (.int ds.length) [] O := fun ρ π K σ H h Q qq => by
  obtain ⟨e1, _, _, _, xs, e2, q2⟩ := lob_at h ho
  refine ⟨tCB (rLenSeq C.K) (tCons (tVar j) tNil), fun i => by rw [← hx.K i]; exact pe_callB call_len_seq (gl_of hx hg i) (by rw [hx.mg i]; exact hm) PySem.boot_len (pa_cons (pe_nm hx nm hv i) pa_nil (he i)) (by decide) (by decide) (he i) (hpl i), _, e1, p0, xs, rfl, .inl (SqL.of e2), ?_⟩
  rw [q2.length]
  exact qq _ ρ π H h (Go.refl _ _ _) ⟨.int _, trivial⟩
theorem et_neO {p0 : Addr} (hx : SX C N sc fn k X) (nm : Nm N j x) (hv : Vis sc x) (ho : (j, lsP p0 ds, Rk) ∈ O) (hm : behindInMarks .NotEq (.List [] p2) = false) (hz : ds.length < sizeLine) :
    ET X Z E O (.Compare (.Name x p) [.NotEq] [.List [] p2] pos) (!ds.isEmpty) O := fun ρ π K σ H h Q qq => by
  obtain ⟨e1, _, hf, hw, xs, e2, q2⟩ := lob_at h ho
  refine ⟨_, fun i => pt_cmpR (op_w _ i) (pe_nm hx nm hv i) (pe_lst pa_nil) hm, _, e1, by show 0 ≤ sizeLine; omega, fun z hz' => ?_⟩
  have s : Same H (upd H z (.lst [])) := same_new hz'
  have h2 := h.same s
  have hsh : SeqAt.shaped (.list ds) = true := wfD.shaped (d := .list ds) ⟨hz, hw⟩ (Nat.le_trans (depL (n := 0) fun d hd => depF (List.all_eq_true.mp hf d hd)) (by decide))
  refine ⟨rNeD C.K, fun n => by rw [← hx.K n]; exact op_neD (hx.room n).units, .list ds, .list [], ?_, ?_, hsh, rfl, !PyData.eqv (.list ds) (.list []), rfl, ?_⟩
  · exact Fd.dp (S := Any) _ (.lst trivial (s _ _ e2) (q2.mono (fun _ h => h) s))
  · exact Fd.dp (S := Any) _ (.lst trivial upd_same .nil)
  · rw [eqv_nil]
    exact qq ρ π _ h2 (Go.same s)
theorem Rel.lput {ρ π : Cols} {K : Held} {σ : L2.St} {H : Hp} {p0 : Addr} {xs' : List V} {ds' : List PyData} (h : Rel Z ρ π E O K σ H) (ho : (j, lsP p0 ds, Rk) ∈ O) (hf : ds'.all flatD = true) (hw : wfA ds') (hq : FdA Any H xs' ds') :
    ∃ π', Rel Z ρ π' E (updO O j (lsP p0 ds')) K σ (upd H p0 (.lst xs')) ∧ Go ρ π H ρ π' (upd H p0 (.lst xs')) := by
  obtain ⟨e1, hp, _, _, xs, e2, q2⟩ := lob_at h ho
  exact ⟨_, h.objPut (P' := lsP p0 ds') (A' := fun a => a = p0) e1 (fun a o hn e => by rw [upd_ne (fun z => hn (by rw [z]; exact hp))]; exact e) (fun a e => .inl (by rw [e]; exact hp)) (fun a e => grow_upd a e) (fun a e => by rw [e, upd_same]; exact fun z => nomatch z)
    fun C => ⟨rfl, rfl, hf, hw, xs', upd_same, hq.flat hf⟩⟩
theorem ee_popO {p0 : Addr} {i : Int} (hx : SX C N sc fn k X) (nm : Nm N j x) (hv : Vis sc x) (he : ED X Z E O e (.int i) R O1) (ho : (j, lsP p0 ds, Rk) ∈ O) (ho1 : (j, lsP p0 ds, Rk) ∈ O1) (h0 : 0 ≤ i) (h1 : i < ds.length) (hz : ds.length < 1000)
    (hst : ∀ i, starEach [e] (X i).env = (false, eval e (X i).env) :: starEach [] (X i).env) (hbase : ∀ i, attributeBase (.Name x p) "pop" (X i).env (eval (.Name x p) (X i).env) = eval (.Name x p) (X i).env)
    (hfew : ∀ i, ((backTo cpos (starEach [e] (X i).env)).all (fun x => !x.1) && (backToKw cpos (keywordEach [] (X i).env)).all (fun x => x.1.isSome)
      && decide ([e].length + ([] : List Keyword).length + (if ([] : List Keyword).isEmpty then 0 else 1) < 30)) = true)
    (hline : (apos.endLine == cpos.line) = true) (hplain : ∀ i, (backTo cpos (starEach [] (X i).env)).any (·.1) = false) :
    ED X Z E O (.Call (.Attribute (.Name x p) "pop" apos) [e] [] cpos) (ds.getD i.toNat .none) [] (updO O1 j (lsP p0 (ds.eraseIdx i.toNat))) := fun ρ π K σ H h Q qq => by
  obtain ⟨e1, _, hf, hw, xs, e2, q2⟩ := lob_at h ho
  refine ⟨tBM C.K "list" rPopAt (tVar j) (tCons (wE X e) tNil), fun i => by rw [← hx.K i]; exact pe_bm PySem.F.plainAttrs_list PySem.F.slot_list_pop PySem.F.type_list_pop mt_popAt (pe_nm hx nm hv i) (pa_cons (pe_w e i) pa_nil (hst i)) (hbase i) (hfew i) hline (hst i) (hplain i), _, e1, .inl ⟨rfl, _, SqL.of e2⟩, he ρ π K σ H h _ fun u ρ1 π1 H1 h1' g1 r => ?_⟩
  cases r.1
  obtain ⟨_, hp1, hf1, hw1, xs1, e3, q3⟩ := lob_at h1' ho1
  have l3 := q3.length
  have hi : i.toNat < xs1.length := by omega
  have hid : i.toNat < ds.length := by omega
  obtain ⟨y, hy, ry⟩ := q3.get (i := i.toNat) (d := ds.getD i.toNat .none) (by rw [List.getD_eq_getElem?_getD, List.getElem?_eq_getElem hid]; rfl)
  have hsub : ∀ d ∈ ds.eraseIdx i.toNat, d ∈ ds := fun d hd => List.mem_of_mem_eraseIdx hd
  have hsI : seqIndex? i xs1.length = some i.toNat := by
    have : (decide (0 ≤ i) && decide (i < (xs1.length : Int))) = true := by rw [Bool.and_eq_true, decide_eq_true_eq, decide_eq_true_eq]; omega
    have hn : ¬ i < 0 := by omega
    unfold seqIndex?
    simp only [if_neg hn, this, if_true]
  refine ⟨p0, xs1, i, i.toNat, y, rfl, rfl, e3, Int.le_trans (by decide) h0, Int.lt_trans (show i < 1000 by omega) (by decide), hsI, hy, ?_⟩
  have hfd : (ds.getD i.toNat .none) ∈ ds := by rw [List.getD_eq_getElem?_getD, List.getElem?_eq_getElem hid]; exact List.getElem_mem hid
  obtain ⟨π2, r2, g2⟩ := h1'.lput (ds' := ds.eraseIdx i.toNat) (xs' := xs1.eraseIdx i.toNat) ho1 (List.all_eq_true.mpr fun d hd => List.all_eq_true.mp hf1 d (hsub d hd)) (hw1.sub hsub) (by
    rw [List.eraseIdx_eq_take_drop_succ, List.eraseIdx_eq_take_drop_succ]
    exact (q3.take _).app (q3.drop _))
  exact qq y ρ1 π2 _ r2 (g1.trans g2) ⟨ry.flat (List.all_eq_true.mp hf1 _ hfd), wfA_iff.mp hw1 _ hfd⟩
end
end G

namespace G
open PySem PySem.Spec PyProof.Rows L2
/-! ### comprehensions whose turns change the objects -/
section
variable {C : Ctx} {N : List Str} {sc : Scope} {fn : Str → Bool} {k : Nat} {J : Type} {X : J → Cx}
variable {Z : Hp} {B : Nat → Bool} {E E' : List Cell} {O O1 O2 O3 O' : List Ob} {e a b c tg it : Expr} {es ifs : List Expr} {P : OP} {R R1 R2 R3 R' Ri Re Rk : List Nat} {d d1 d2 d3 : PyData} {ds es1 src : List PyData} {pos p p2 pos' tp : Pos}
theorem lc_coreO {scope : Scope} {own : List (Str × Nat)} {un : PyData → Option (List PyData)} {On : Nat → List Ob} {f : Nat → PyData} {w : Nat} (hw0 : w ≠ 0)
    (hx : SX C N sc fn k X) (hi : EI X Z E O tg it src Ri (On 0)) (ok : blkC N sc scope own = true) (tgd : TgD (Xb X scope) tg (own.map (·.2)) un)
    (hun : ∀ (n : Nat) d, src[n]? = some d → ∃ es, un d = some es ∧ es.length = (own.map (·.2)).length ∧ (wfD d → wfA es)) (hO : ∀ n, noOb (On n) (own.map (·.2)) = true) (hz : src.length < sizeLine)
    (he : ∀ (n : Nat) d es, src[n]? = some d → un d = some es → wfA es → ED (Xb X scope) Z (setC (w :: Ri) (wipeC E (own.map (·.2))) (own.map (·.2)) es) (On n) e (f n) Re (On (n + 1))) :
    ∀ ρ π K σ H, Rel Z ρ π E O K σ H → ∀ Q : VK, (∀ v ρ' π' H', Rel Z ρ' π' E (On src.length) K σ H' → Go ρ π H ρ' π' H' → Fd (vis ρ' π' Re H) H' v (.list (kept (fun _ => true) f src.length)) → wfD (.list (kept (fun _ => true) f src.length)) → Q v H') →
      tLc (wI X tg it) (wG (Xb X scope) tg) (wTs (Xb X scope) []) (wE (Xb X scope) e) (own.map (·.2)) σ H Q := by
  intro ρ π K σ H h Q q
  refine hi ρ π K σ H h _ fun Jt sv SP ρ1 π1 H1 h1 g1 rs hsrc => ?_
  have h2 := h1.paint (w := w) (H := H) hw0 fun a e => h.keep.free e
  have g2 : Go ρ π H (paint ρ1 π1 w H H1) π1 H1 := g1.paint
  have rs2 : SP.p sv (col (paint ρ1 π1 w H H1) (w :: Ri)) H1 := SP.loc (fun a o ha e => ⟨e, vis_paint ha e⟩) rs
  generalize paint ρ1 π1 w H H1 = ρ2 at h2 g2 rs2
  clear h1 g1 rs ρ1
  have h3 := h2.hold rs2
  have hno : ∀ n, ∀ o ∈ On n, o.1 ∉ own.map (·.2) := fun n o ho => noOb.ne (hO n) ho
  intro D hD
  have hDs : Same H1 (upd H1 D (.lst [])) := same_new hD
  have hDc : ∀ r, ¬ρ2 r D := fun r c => h2.lr r D c hD
  have hDp : ∀ s, ¬π1 s D := fun s c => h2.lp s D c hD
  have hZD : Z D = none := h2.keep.free hD
  have hHD : H D = none := g2.gr D hD
  have Wdef : ∃ W : Nat → Hp → Prop, W = fun i H' => ∃ ρ' π' acc, Rel Z ρ' π' E (On i) ((sv, SP, w :: Ri) :: K) σ H' ∧ Go ρ π H ρ' π' H' ∧ (∀ r, ¬ρ' r D) ∧ (∀ s, ¬π' s D) ∧ H' D = some (.lst acc) ∧
      FdA (fun a => vis ρ' π' Re H a ∧ a ≠ D) H' acc (kept (fun _ => true) f i) ∧ wfA (kept (fun _ => true) f i) := ⟨_, rfl⟩
  obtain ⟨W, hW⟩ := Wdef
  refine ⟨fun i m H' => m = src.length - i ∧ i ≤ src.length ∧ W i H', ⟨src.length, by simp, Nat.zero_le _, by
    rw [hW]; exact ⟨ρ2, π1, [], h3.same hDs, g2.trans (Go.same hDs), hDc, hDp, upd_same, .nil, trivial⟩⟩, ?_⟩
  rintro i m H3 ⟨rfl, hi', hw⟩
  rw [hW] at hw
  obtain ⟨ρ3, π3, acc, r3, g3, c3, p3, e3, a3, w3⟩ := hw
  have hold3 := r3.held (sv, SP, w :: Ri) List.mem_cons_self
  obtain ⟨s1, s2, s3⟩ := hsrc _ H3 i hold3
  by_cases hlt : i < src.length
  · refine .inr ⟨s1 hlt, fun H' => W (i + 1) H', fun H' hh => ⟨src.length - (i + 1), by omega, rfl, hlt, hh⟩, fun x H4 hy => ?_⟩
    obtain ⟨sm, d, hd, rx, wd⟩ := s3 x H4 hlt hy
    obtain ⟨es, hu, hl, hwf⟩ := hun i d hd
    have we := hwf wd
    have r4 := r3.same sm
    have g4 : Go ρ3 π3 H3 ρ3 π3 H4 := Go.same sm
    -- the item's new places get the colour w
    have r5 := r4.paint (w := w) (H := H3) hw0 fun a e => r3.keep.free e
    have g5 : Go ρ3 π3 H3 (paint ρ3 π3 w H3 H4) π3 H4 := g4.paint
    have rx5 : Fd (col (paint ρ3 π3 w H3 H4) (w :: Ri)) H4 x d := rx.cut fun a o ha e => ⟨e, by
      rcases ha with ha | ha
      · exact col_up (fun _ _ h => .inl h) ha
      · exact ⟨w, List.mem_cons_self, .inr ⟨rfl, ha, (by rw [e]; exact fun z => nomatch z), fun r c => r3.lr r a c ha, fun s c => r3.lp s a c ha⟩⟩⟩
    have e4 : H4 D = some (.lst acc) := sm _ _ e3
    have c5 : ∀ r, ¬paint ρ3 π3 w H3 H4 r D := fun r c => by
      rcases c with c | ⟨_, c, _⟩
      · exact c3 r c
      · rw [e3] at c; cases c
    generalize paint ρ3 π3 w H3 H4 = ρ5 at r5 g5 rx5 c5
    refine tgd _ H4 H4 x d es _ _ (Same.refl _) rx5 hu hl fun vs rv => ⟨wipe_setAll _ _ _, ?_⟩
    have r6 : Rel Z ρ5 π3 (setC (w :: Ri) (wipeC E (own.map (·.2))) (own.map (·.2)) es) (On i) ((sv, SP, w :: Ri) :: K) (setAll (wipe σ (own.map (·.2))) (own.map (·.2)) vs) H4 := Rel.setC (Rel.wipe r5 (hno i)) (hno i) rv we
    have back : ∀ {m : Nat} {ρ' π' : Cols} {H' : Hp}, Rel Z ρ' π' (setC (w :: Ri) (wipeC E (own.map (·.2))) (own.map (·.2)) es) (On m) ((sv, SP, w :: Ri) :: K) (setAll (wipe σ (own.map (·.2))) (own.map (·.2)) vs) H' → Go ρ5 π3 H4 ρ' π' H' → Rel Z ρ' π' E (On m) ((sv, SP, w :: Ri) :: K) σ H' := fun {m ρ' π' H'} rr gg => {
      cell := fun n P R ec => by
        obtain ⟨v, e1, qq⟩ := r5.cell n P R ec
        refine ⟨v, e1, P.loc (fun a o ha e => ?_) qq⟩
        obtain ⟨r, hr, c⟩ := ha
        exact ⟨gg.kp a o e fun s z => r5.dx r s a c z, r, hr, gg.up r a c⟩
      obj := fun o ho => by
        obtain ⟨v, e1, qq⟩ := rr.obj o ho
        have : σ[o.1]? = some (some v) := by
          rw [setAll_out _ _ _ (hno m o ho), wipe_get, if_neg (hno m o ho)] at e1
          exact e1
        exact ⟨v, this, qq⟩
      held := rr.held
      len := r5.len
      dj := rr.dj
      dp := rr.dp
      dx := rr.dx
      lr := rr.lr
      lp := rr.lp
      keep := rr.keep
      zr := rr.zr
      zp := rr.zp
      z0 := rr.z0 }
    have a5 : FdA (fun a => vis ρ5 π3 Re H a ∧ a ≠ D) H4 acc (kept (fun _ => true) f i) := a3.cut fun a o ha e => ⟨sm _ _ e, (vis_keep r3 g5 ha.1 e).2, ha.2⟩
    have g35 : Go ρ π H ρ5 π3 H4 := g3.trans g5
    refine (ets_nil' (X := Xb X scope) (O := On i)) ρ5 π3 _ _ H4 r6 _ fun ρ6 π6 H6 r7 g6 => ?_
    have keepA : ∀ {ρ' π' : Cols} {H' : Hp}, Go ρ5 π3 H4 ρ' π' H' → H' D = some (.lst acc) ∧ (∀ r, ¬ρ' r D) ∧ (∀ s, ¬π' s D) ∧ FdA (fun a => vis ρ' π' Re H a ∧ a ≠ D) H' acc (kept (fun _ => true) f i) := fun {ρ' π' H'} gg =>
      ⟨gg.kp _ _ e4 p3, fun r c => (gg.rn r D c).elim (c5 r) (fun z => by rw [e4] at z; cases z), fun s c => (gg.pn s D c).elim (p3 s) (fun z => by rw [e4] at z; cases z),
        a5.cut fun a o ha e => ⟨(vis_keep r5 gg ha.1 e).1, (vis_keep r5 gg ha.1 e).2, ha.2⟩⟩
    refine iteT ?_
    refine he i d es hd hu we ρ6 π6 _ _ H6 r7 _ fun y ρ7 π7 H7 r8 g7 ry => ?_
    have g67 := g6.trans g7
    obtain ⟨k1, k2, k3, k4⟩ := keepA g67
    have k4l := k4.length
    have kl := kept_len (fun _ => true) f i
    refine ⟨acc, k1, by omega, ?_⟩
    rw [hW]
    have ek : kept (fun _ => true) f (i + 1) = kept (fun _ => true) f i ++ [f i] := by
      rfl
    have hDl : H6 D ≠ none := by rw [g6.kp _ _ e4 p3]; exact fun z => nomatch z
    have yD : ∀ a, vis ρ7 π7 Re H6 a → a ≠ D := fun a ha c => by
      subst c
      rcases ha with ⟨r, _, c⟩ | ⟨z, _⟩
      · exact k2 r c
      · exact hDl z
    have upD : ∀ a o, a ≠ D → H7 a = some o → upd H7 D (.lst (acc ++ [y])) a = some o := fun a o ha e => by rw [upd_ne ha]; exact e
    refine ⟨ρ7, π7, acc ++ [y], (back r8 g67).poke k2 k3 hZD, ?_, k2, k3, upd_same, ?_, ?_⟩
    · have gg := g35.trans g67
      exact { up := gg.up, kp := fun a o e hn => by rw [upd_ne (fun z => by rw [z, hHD] at e; cases e)]; exact gg.kp a o e hn, gr := fun a e => gg.gr a (grow_upd a e), rn := gg.rn, pn := gg.pn }
    · rw [ek]
      refine (k4.cut fun a o ha e => ⟨upD a o ha.2 e, ha⟩).app (.cons (ry.1.cut fun a o ha e => ⟨upD a o (yD a ha) e, vis_from (g35.trans g6) ha, yD a ha⟩) .nil)
    · rw [ek]; exact w3.app ⟨ry.2, trivial⟩
  · have he' : i = src.length := by omega
    subst he'
    refine .inl ⟨s2 (Nat.le_refl _), q _ ρ3 π3 H3 r3.drop g3 (.lst (.inr ⟨hHD, c3, p3⟩) e3 (a3.mono (fun _ h => h.1) (Same.refl _))) ⟨Nat.lt_of_le_of_lt (kept_len _ _ _) hz, w3⟩⟩
theorem keptT_all {f : Nat → PyData} : ∀ n, kept (fun _ => true) f n = (List.range n).map f
  | 0 => rfl
  | n + 1 => by
    show kept (fun _ => true) f n ++ (if true = true then [f n] else []) = _
    rw [keptT_all n, if_pos rfl, List.range_succ, List.map_append]; rfl
theorem ee_lcO {scope : Scope} {x : Str} {j n0 : Nat} {On : Nat → List Ob} {f : Nat → PyData} (hx : SX C N sc fn k X) (nm : Nm N j x) (hl : Loc (relabS scope sc) x) (hf : (scope.names.lookup x == some .cell) = true ∨ (relabS scope sc).names.lookup x = some .local)
    (ok : blkC N sc scope [(x, j)] = true) (hi : EI X Z E O (.Name x tp) it ((List.range n0).map gN) Ri (On 0)) (hO : ∀ n, noOb (On n) [j] = true) (hz : n0 < sizeLine)
    (he : ∀ n, n < n0 → SX C N (relabS scope sc) (fun x => scope.names.lookup x == some .cell) k (Xb X scope) → ED (Xb X scope) Z (E.set j (dc (gN n) [])) (On n) e (f n) Re (On (n + 1)))
    (hs : ∀ i x, foldedSetIterable it (X i).env x = pure x) :
    ED X Z E O (.ListComp e [⟨.Name x tp, it, [], 0⟩] scope pos) (.list ((List.range n0).map f)) Re (On n0) := fun ρ π K σ H h Q q => by
  have hset : ∀ a, setC (900 :: Ri) (wipeC E [j]) [j] [gN a] = E.set j (dc (gN a) []) := fun a => by
    show (E.set j none).set j _ = _
    rw [List.set_set]; rfl
  refine ⟨_, fun i => pe_lc (own := [(x, j)]) (hx.calm i) (by rw [hx.Nx i]; exact hx.nd) (pi_w _ it i) (by rw [hx.Nx i, hx.scx i]; exact blkOk_by ok) (fun s H C cl fp => pg_w (X := Xb X scope) _ (i, s, H, C, cl, fp)) (fun s H C cl fp => pts_w (X := Xb X scope) [] (i, s, H, C, cl, fp)) (fun s H C cl fp => pe_w (X := Xb X scope) e (i, s, H, C, cl, fp)) (hs i), ?_⟩
  refine lc_coreO (Re := Re) (On := On) (own := [(x, j)]) (w := 900) (hw0 := by decide) (un := un1) (f := f) hx hi ok (tg_name (hx.blk scope) nm hl hf) (fun n d _ => ⟨[d], rfl, rfl, fun w => ⟨w, trivial⟩⟩) hO (by rw [List.length_map, List.length_range]; exact hz) ?_ ρ π K σ H h Q ?_
  · intro n d es hd hu hw
    obtain ⟨a, ha, rfl⟩ := mapGet hd
    obtain ⟨hn, e1⟩ := List.getElem?_eq_some_iff.mp ha
    rw [List.length_range] at hn
    rw [List.getElem_range] at e1
    subst e1
    cases hu
    show ED (Xb X scope) Z (setC (900 :: Ri) (wipeC E [j]) [j] [gN n]) _ e (f n) Re _
    rw [hset]
    exact he n hn (hx.blk scope)
  · rw [List.length_map, List.length_range, keptT_all]
    exact fun v ρ' π' H' a b c d => q v ρ' π' H' a b ⟨c, d⟩
end
end G

namespace G
open PySem PySem.Spec PyProof.Rows L2
/-! ### min, max of alike data -/
def rBestD (best : PyData → List PyData → PyData) (K : PySem.W.Frag) : List V → Hp → VK → Prop := fun vs H Q => ∃ (a : Addr) (xs : List V) (b0 : PyData) (bs : List PyData), vs = [V.ref a] ∧ SqL K H a xs ∧ DpAll K H xs (b0 :: bs) ∧ PySem.W.AlikeAll (b0 :: bs) ∧ PyData.depthAll (b0 :: bs) ≤ 60 ∧
  ∀ (i : Nat) (x : V), xs[i]? = some x → (b0 :: bs)[i]? = some (best b0 bs) → Q x H
theorem vals_get : ∀ {xs : List V} {us : List Value}, Vals xs us → ∀ {i : Nat} {v : Value}, us[i]? = some v → ∃ x, xs[i]? = some x ∧ RelV x v
  | _, _, .nil, i, v, h => by simp at h
  | _, _, .cons r t, 0, v, h => by
    have e := Option.some.inj (show some _ = some v from h)
    subst e
    exact ⟨_, rfl, r⟩
  | _, _, .cons r t, i + 1, v, h => by
    obtain ⟨x, h1, h2⟩ := vals_get t (i := i) (v := v) (by simpa using h)
    exact ⟨x, by simpa using h1, h2⟩
theorem best_at {h h' : Heap} {its : List Value} {b0 d : PyData} {bs : List PyData} {as cs : List Addr} {i : Nat} {v : Value} (hr : ReadsAll h its (b0 :: bs) as) (hv : its[i]? = some v) (hrd : Reads h' v d cs) (hk : ∀ b o, h.get? b = some o → h'.get? b = some o) : (b0 :: bs)[i]? = some d := by
  obtain ⟨bs2, r2, hi, _, _⟩ := PySem.W.readsAll_at hr i v hv
  obtain ⟨e, _⟩ := PyProof.Rows.reads_det (fun b o e _ => hk b o e) r2 hrd
  rw [e, List.getD_eq_getElem?_getD, List.getElem?_eq_getElem hi]; rfl
theorem cr_minD {X : Cx} (hc : X.calm = true) (hu : X.A.units + 64 < cLine) : CallR X (.builtin "min") (rBestD PySem.W.minD X.K) := by
  intro pins s σ H vs us Q I r h
  obtain ⟨a, xs, b0, bs, rfl, hs, hd, hal, hdep, q⟩ := h
  obtain ⟨its, rv, hl, hz⟩ := I.list hs
  rw [Vals.ref1 r]
  obtain ⟨as, hr⟩ := Dp.readsAll I _ xs its hd rv
  refine PySem.W.min_list_data (vs := its.toArray) (I.ok.hd hc) hl.isList hr hal (by show X.A.units + 1 + _ < _; omega) fun i v h' tk cs hv hrd hk => ?_
  have hv' : its[i]? = some v := by rw [← hv]; simp
  obtain ⟨x, hx, rx⟩ := vals_get rv hv'
  exact ⟨x, H, I.kept hk, rx, q i x hx (best_at hr hv' hrd hk)⟩
theorem cr_maxD {X : Cx} (hc : X.calm = true) (hu : X.A.units + 64 < cLine) : CallR X (.builtin "max") (rBestD PySem.W.maxD X.K) := by
  intro pins s σ H vs us Q I r h
  obtain ⟨a, xs, b0, bs, rfl, hs, hd, hal, hdep, q⟩ := h
  obtain ⟨its, rv, hl, hz⟩ := I.list hs
  rw [Vals.ref1 r]
  obtain ⟨as, hr⟩ := Dp.readsAll I _ xs its hd rv
  refine PySem.W.max_list_data (vs := its.toArray) (I.ok.hd hc) hl.isList hr hal (by show X.A.units + 1 + _ < _; omega) fun i v h' tk cs hv hrd hk => ?_
  have hv' : its[i]? = some v := by rw [← hv]; simp
  obtain ⟨x, hx, rx⟩ := vals_get rv hv'
  exact ⟨x, H, I.kept hk, rx, q i x hx (best_at hr hv' hrd hk)⟩
section
variable {C : Ctx} {N : List Str} {sc : Scope} {fn : Str → Bool} {k : Nat} {J : Type} {X : J → Cx}
variable {Z : Hp} {B : Nat → Bool} {E E' : List Cell} {O O1 O2 O3 O' : List Ob} {e a b c tg it : Expr} {es ifs : List Expr} {P : OP} {R R1 R2 R3 R' Ri Re Rk : List Nat} {d d0 d1 d2 d3 : PyData} {ds es1 src : List PyData} {pos p p2 pos' apos cpos tp : Pos} {body rest : List Stmt} {q : Po} {w : Nat} {x : Str} {j : Nat}
theorem best_run {best : PyData → List PyData → PyData} {vs : List V} {H1 : Hp} {A : Addr → Prop} (r : FdA A H1 vs [.list (d0 :: ds)]) (hal : PySem.W.AlikeAll (d0 :: ds)) (hdep : PyData.depthAll (d0 :: ds) ≤ 60) (hm : best d0 ds ∈ d0 :: ds ∨ True) (hw : wfA (d0 :: ds)) {Q : VK} (q : ∀ v, Fd A H1 v (best d0 ds) → wfD (best d0 ds) → Q v H1) : rBestD best C.K vs H1 Q := by
  obtain ⟨v, rfl, r2⟩ := r.one
  cases r2 with
  | @lst y xs _ hA e1 q1 =>
    refine ⟨y, xs, d0, ds, rfl, SqL.of e1, q1.dp _, hal, hdep, fun i x hx hb => ?_⟩
    obtain ⟨v, hv, rv⟩ := q1.get hb
    rw [hx] at hv
    cases hv
    exact q x rv (wfA_iff.mp hw _ (List.mem_of_getElem? hb))
theorem ee_minD (hx : SX C N sc fn k X) (hm : C.mg "min" = none) (hg : Gb sc "min") (ha : ED X Z E O a (.list (d0 :: ds)) R O1) (hal : PySem.W.AlikeAll (d0 :: ds)) (hdep : PyData.depthAll (d0 :: ds) ≤ 60) (hd : PySem.W.minD d0 ds = d)
    (he : ∀ i, starEach [a] (X i).env = (false, eval a (X i).env) :: starEach [] (X i).env) (hpl : ∀ i, (backTo pos (starEach [] (X i).env)).any (·.1) = false) :
    ED X Z E O (.Call (.Name "min" p) [a] [] pos) d R O1 := fun ρ π K σ H h Q qq =>
  ⟨tCB (rBestD PySem.W.minD C.K) (wA X [a]), fun i => pe_callB (by rw [← hx.K i]; exact cr_minD (hx.calm i) (hx.room i).units) (gl_of hx hg i) (by rw [hx.mg i]; exact hm) (by decide +kernel) (pa_w [a] i) (by decide) (by decide) (he i) (hpl i),
    (ea_cons' ha ea_nil' he).sub (R' := R) (fun r hr => by rw [List.append_nil] at hr; exact hr) ρ π K σ H h _ fun vs ρ1 π1 H1 h1 g1 rs ws =>
      best_run rs hal hdep (.inr trivial) ws.1.2 fun v rv wv => qq v ρ1 π1 H1 h1 g1 ⟨hd ▸ rv, hd ▸ wv⟩⟩
theorem ee_maxD (hx : SX C N sc fn k X) (hm : C.mg "max" = none) (hg : Gb sc "max") (ha : ED X Z E O a (.list (d0 :: ds)) R O1) (hal : PySem.W.AlikeAll (d0 :: ds)) (hdep : PyData.depthAll (d0 :: ds) ≤ 60) (hd : PySem.W.maxD d0 ds = d)
    (he : ∀ i, starEach [a] (X i).env = (false, eval a (X i).env) :: starEach [] (X i).env) (hpl : ∀ i, (backTo pos (starEach [] (X i).env)).any (·.1) = false) :
    ED X Z E O (.Call (.Name "max" p) [a] [] pos) d R O1 := fun ρ π K σ H h Q qq =>
  ⟨tCB (rBestD PySem.W.maxD C.K) (wA X [a]), fun i => pe_callB (by rw [← hx.K i]; exact cr_maxD (hx.calm i) (hx.room i).units) (gl_of hx hg i) (by rw [hx.mg i]; exact hm) (by decide +kernel) (pa_w [a] i) (by decide) (by decide) (he i) (hpl i),
    (ea_cons' ha ea_nil' he).sub (R' := R) (fun r hr => by rw [List.append_nil] at hr; exact hr) ρ π K σ H h _ fun vs ρ1 π1 H1 h1 g1 rs ws =>
      best_run rs hal hdep (.inr trivial) ws.1.2 fun v rv wv => qq v ρ1 π1 H1 h1 g1 ⟨hd ▸ rv, hd ▸ wv⟩⟩
/-! ### len(set(xs)), unlike whole numbers -/
theorem ee_lenset {ns : List Int} (hx : SX C N sc fn k X) (hm : C.mg "len" = none) (hg : Gb sc "len") (hm2 : C.mg "set" = none) (hg2 : Gb sc "set") (ha : ED X Z E O a (.list (ns.map .int)) R O1) (hd : ns.Nodup) (hz : ns.length ≤ 4000)
    (he : ∀ i, starEach [a] (X i).env = (false, eval a (X i).env) :: starEach [] (X i).env) :
    ED X Z E O (.Call (.Name "len" p) [.Call (.Name "set" p2) [a] [] pos'] [] pos) (.int (ns.length : Nat)) [] O1 := fun ρ π K σ H h Q qq =>
  ⟨RZ.tLenSetI C.K (wE X a), fun i => by rw [← hx.K i]; exact RZ.pe_lenSetI (gl_of hx hg i) (by rw [hx.mg i]; exact hm) (gl_of hx hg2 i) (by rw [hx.mg i]; exact hm2) (pe_w a i) (hx.calm i) (he i), ha ρ π K σ H h _ fun v ρ1 π1 H1 h1 g1 r => by
    have r1 := r.1
    cases r1 with
    | @lst z xs _ hA e1 q1 =>
      rw [q1.toInts] at e1
      exact ⟨z, ns, rfl, SqL.of e1, hd, hz, qq _ ρ1 π1 H1 h1 g1 ⟨.int _, trivial⟩⟩⟩
end
end G

namespace G
open PySem PySem.Spec PyProof.Rows L2
/-! ### dicts whose keys are tuples of any depth -/
abbrev NdE := NestedKey × Addr × V
abbrev NdX := NestedKey × Addr × Value
def NdRel (p : NdE) (q : NdX) : Prop := p.1 = q.1 ∧ p.2.1 = q.2.1 ∧ RelV p.2.2 q.2.2
def NdP (P : Program) (w : World) (a : Addr) (ep : Nat) (kvs : List NdE) (h : Heap) : Prop :=
  kvs.length ≤ sizeLine ∧ (a == sysModules) = false ∧ ∃ xs : List NdX, Paired NdRel kvs xs ∧ ∃ (o : Obj) (es : Array DictEntry), h.get? a = some o ∧ o.ExactDict ∧ o.data = .dict es ep ∧ es.toList = xs.map (entryOfKey (nestedKind P w)) ∧ (xs.map (·.1)).Nodup
def ndO (P : Program) (w : World) (a : Addr) (ep : Nat) (kvs : List NdE) : HO := .ext (NdP P w a ep kvs)
theorem ndO_ok {P : Program} {w : World} {a : Addr} {ep : Nat} {kvs : List NdE} {H : Hp} {h : Heap} (x : NdP P w a ep kvs h) : ObjOk P w H h a (ndO P w a ep kvs) := by
  refine ⟨x, ?_, fun h1 h2 y k => ?_⟩
  · obtain ⟨_, _, _, _, o, _, e, _⟩ := x; exact ⟨o, e⟩
  · obtain ⟨z, s, xs, pr, o, es, e, r⟩ := y
    exact ⟨z, s, xs, pr, o, es, k o e, r⟩
mutual
def nkD : PyData → NestedKey
  | .none => .none
  | .bool _ => .none
  | .int i => .num i
  | .str s => .text s
  | .list _ => .none
  | .tuple ds => .tup (nkDs ds)
  | .dict _ => .none
def nkDs : List PyData → List NestedKey
  | [] => []
  | d :: ds => nkD d :: nkDs ds
end
mutual
def okKy : PyData → Bool
  | .none => true
  | .bool _ => false
  | .int _ => true
  | .str _ => true
  | .list _ => false
  | .tuple ds => okKys ds
  | .dict _ => false
def okKys : List PyData → Bool
  | [] => true
  | d :: ds => okKy d && okKys ds
end
section
variable {X : Cx} {pins : List (Addr × Obj)} {σ : L2.St} {H : Hp} {s : Shared} {A : Addr → Prop}
mutual
theorem fd_key (I : Inv X pins σ H s) : ∀ {d : PyData} {v : V} {u : Value}, okKy d = true → Fd A H v d → RelV v u → NestedIs s.heap (nkD d) u
  | .none, _, _, _, h, r => by cases h; cases r; exact .none
  | .bool _, _, _, k, _, _ => by cases k
  | .int i, _, _, _, h, r => by cases h; obtain ⟨t, rfl⟩ := r; exact .int i t
  | .str x, _, _, _, h, r => by cases h; obtain ⟨t, rfl⟩ := r; exact .text x t
  | .list _, _, _, k, _, _ => by cases k
  | .tuple ds, _, _, k, h, r => by
    cases h with
    | @tup a xs _ hA e q =>
      cases r
      obtain ⟨_, its, rv, o, h1, h2, n, h3⟩ := I.hok a _ e
      exact .tup h1 h2 h3 (by rw [List.toList_toArray]; exact fd_keys I (by simpa [okKy] using k) q rv)
  | .dict _, _, _, k, _, _ => by cases k
theorem fd_keys (I : Inv X pins σ H s) : ∀ {ds : List PyData} {vs : List V} {us : List Value}, okKys ds = true → FdA A H vs ds → Vals vs us → NestedAll s.heap (nkDs ds) us
  | [], _, _, _, h, r => by cases h; cases r; exact .nil
  | d :: ds, _, _, k, h, r => by
    cases h with
    | cons h1 h2 =>
      cases r with
      | cons r1 r2 =>
        have k' : okKy d = true ∧ okKys ds = true := by rw [← Bool.and_eq_true]; exact k
        exact .cons (fd_key I k'.1 h1 r1) (fd_keys I k'.2 h2 r2)
end
end
/-- what the entries stand for -/
inductive NdA (A : Addr → Prop) (H : Hp) : List NdE → List (PyData × PyData) → Prop
  | nil : NdA A H [] []
  | cons {p : NdE} {ps : List NdE} {q : PyData × PyData} {qs : List (PyData × PyData)} : p.1 = nkD q.1 → okKy q.1 = true → (nkD q.1).depth ≤ 8 → Fd A H (.ref p.2.1) q.1 → Fd A H p.2.2 q.2 → NdA A H ps qs → NdA A H (p :: ps) (q :: qs)
theorem NdA.cut {A B : Addr → Prop} {H H' : Hp} (h : ∀ a o, A a → H a = some o → H' a = some o ∧ B a) : ∀ {kvs : List NdE} {en : List (PyData × PyData)}, NdA A H kvs en → NdA B H' kvs en
  | _, _, .nil => .nil
  | _, _, .cons a b c d e r => .cons a b c (d.cut h) (e.cut h) (NdA.cut h r)
theorem NdA.app {A : Addr → Prop} {H : Hp} : ∀ {kvs kvs2 : List NdE} {en en2 : List (PyData × PyData)}, NdA A H kvs en → NdA A H kvs2 en2 → NdA A H (kvs ++ kvs2) (en ++ en2)
  | _, _, _, _, .nil, r => r
  | _, _, _, _, .cons a b c d e r, r2 => .cons a b c d e (NdA.app r r2)
theorem NdA.length {A : Addr → Prop} {H : Hp} : ∀ {kvs : List NdE} {en : List (PyData × PyData)}, NdA A H kvs en → kvs.length = en.length
  | _, _, .nil => rfl
  | _, _, .cons _ _ _ _ _ r => congrArg (· + 1) (NdA.length r)
theorem NdA.get {A : Addr → Prop} {H : Hp} : ∀ {kvs : List NdE} {en : List (PyData × PyData)}, NdA A H kvs en → ∀ {i : Nat} {q : PyData × PyData}, en[i]? = some q → ∃ p, kvs[i]? = some p ∧ Fd A H (.ref p.2.1) q.1 ∧ Fd A H p.2.2 q.2
  | _, _, .nil, i, q, h => by simp at h
  | _, _, .cons a b c d e r, 0, q, h => by simp at h; subst h; exact ⟨_, rfl, d, e⟩
  | _, _, .cons a b c d e r, i + 1, q, h => by
    obtain ⟨p, h1, h2⟩ := NdA.get r (i := i) (q := q) (by simpa using h)
    exact ⟨p, by simpa using h1, h2⟩
/-- what stands at a key -/
def lookN (en : List (PyData × PyData)) (k : NestedKey) : Option PyData := (en.find? fun q => decide (nkD q.1 = k)).map (·.2)
theorem nd_look {A : Addr → Prop} {H : Hp} {k : NestedKey} : ∀ {kvs : List NdE} {en : List (PyData × PyData)} {xs : List NdX}, NdA A H kvs en → Paired NdRel kvs xs →
    match lookN en k with
    | none => atKey xs k = none
    | some d => ∃ b v u, atKey xs k = some (b, u) ∧ RelV v u ∧ Fd A H v d
  | _, _, _, .nil, .nil => rfl
  | p :: ps, q :: qs, x :: xs, .cons a b c d e r, .cons h t => by
    obtain ⟨h1, h2, h3⟩ := h
    by_cases hk : nkD q.1 = k
    · have e1 : lookN (q :: qs) k = some q.2 := by simp [lookN, List.find?_cons, hk]
      have e2 : atKey (x :: xs) k = some x.2 := by simp [atKey, List.find?_cons, ← h1, a, hk]
      rw [e1]
      exact ⟨x.2.1, p.2.2, x.2.2, e2, h3, e⟩
    · have e1 : lookN (q :: qs) k = lookN qs k := by simp [lookN, List.find?_cons, hk]
      have e2 : atKey (x :: xs) k = atKey xs k := by
        have : ¬ x.1 = k := by rw [← h1, a]; exact hk
        simp [atKey, List.find?_cons, this]
      rw [e1, e2]
      exact nd_look r t
section
variable {X : Cx} {pins : List (Addr × Obj)} {σ : L2.St} {H : Hp} {s : Shared} {A : Addr → Prop} {a : Addr} {ep : Nat} {kvs : List NdE} {en : List (PyData × PyData)}
theorem nd_keys (I : Inv X pins σ H s) : ∀ {kvs : List NdE} {en : List (PyData × PyData)} {xs : List NdX}, NdA A H kvs en → Paired NdRel kvs xs → ∀ x ∈ xs, (nestedKind X.prog X.w).is s.heap x.1 x.2.1
  | _, _, _, .nil, .nil, x, hx => absurd hx (by simp)
  | p :: ps, q :: qs, y :: xs, .cons a b c d e r, .cons h t, x, hx => by
    rcases List.mem_cons.mp hx with z | hx
    · subst z
      obtain ⟨h1, h2, h3⟩ := h
      have e1 : x.1 = nkD q.1 := h1.symm.trans a
      rw [e1, ← h2]
      exact ⟨fd_key I b d rfl, c⟩
    · exact nd_keys I r t x hx
theorem nd_of (I : Inv X pins σ H s) (e : H a = some (ndO X.prog X.w a ep kvs)) (n : NdA A H kvs en) : kvs.length ≤ sizeLine ∧ (a == sysModules) = false ∧ ∃ xs, Paired NdRel kvs xs ∧ s.heap.DictOfH (nestedKind X.prog X.w) a xs := by
  obtain ⟨⟨z, y, xs, pr, o, es, h1, h2, h3, h4, h5⟩, _⟩ := I.hok a _ e
  exact ⟨z, y, xs, pr, o, es, ep, h1, h2, h3, h4, nd_keys I n pr, h5⟩
theorem nd_room {A : Around} (hu : A.units + 64 < cLine) {P : Program} {w : World} : (nestedKind P w).room A.in1 := by
  show A.units + 1 + 8 < cLine
  omega
/-- a key: a tuple that reads as it -/
def KeyAt (H : Hp) (y : V) (k : PyData) : Prop := ∃ B : Addr → Prop, okKy k = true ∧ (nkD k).depth ≤ 8 ∧ Fd B H y k ∧ ∃ b, y = .ref b
theorem nd_in {Ar : Around} {E : Value → Shared → Prop} {Q : Value → Shared → Prop} {y : V} {u : Value} {k : PyData} (hu : Ar.units + 64 < cLine) (I : Inv X pins σ H s) (e : H a = some (ndO X.prog X.w a ep kvs)) (n : NdA A H kvs en) (hk : KeyAt H y k) (ry : RelV y u) (h : ∀ s', Inv X pins σ H s' → Q (.bool (lookN en (nkD k)).isSome) s') :
    wpAny (model X.prog X.w) Ar (compareOp .In u (.ref a)) Q E s := by
  obtain ⟨B, k1, k2, k3, b, rfl⟩ := hk
  cases (show u = Value.ref b from ry)
  obtain ⟨z, y, xs, pr, dd⟩ := nd_of I e n
  refine wpAny_in_heap (nd_room hu) ⟨fd_key I k1 k3 rfl, k2⟩ y dd ?_
  have q := nd_look (k := nkD k) n pr
  cases hl : lookN en (nkD k) with
  | none => rw [hl] at q h; rw [show atKey xs (nkD k) = none from q]; exact h _ (I.tok _)
  | some d => rw [hl] at q h; obtain ⟨b, v, u, e, _⟩ := q; rw [e]; exact h _ (I.tok _)
theorem nd_notIn {Ar : Around} {E : Value → Shared → Prop} {Q : Value → Shared → Prop} {y : V} {u : Value} {k : PyData} (hu : Ar.units + 64 < cLine) (I : Inv X pins σ H s) (e : H a = some (ndO X.prog X.w a ep kvs)) (n : NdA A H kvs en) (hk : KeyAt H y k) (ry : RelV y u) (h : ∀ s', Inv X pins σ H s' → Q (.bool (!(lookN en (nkD k)).isSome)) s') :
    wpAny (model X.prog X.w) Ar (compareOp .NotIn u (.ref a)) Q E s := by
  obtain ⟨B, k1, k2, k3, b, rfl⟩ := hk
  cases (show u = Value.ref b from ry)
  obtain ⟨z, y, xs, pr, dd⟩ := nd_of I e n
  refine wpAny_notIn_heap (nd_room hu) ⟨fd_key I k1 k3 rfl, k2⟩ y dd ?_
  have q := nd_look (k := nkD k) n pr
  cases hl : lookN en (nkD k) with
  | none => rw [hl] at q h; rw [show atKey xs (nkD k) = none from q]; exact h _ (I.tok _)
  | some d => rw [hl] at q h; obtain ⟨b, v, u, e, _⟩ := q; rw [e]; exact h _ (I.tok _)
theorem nd_get {Ar : Around} {E : Value → Shared → Prop} {Q : Value → Shared → Prop} {y : V} {u : Value} {k d : PyData} (hu : Ar.units + 64 < cLine) (I : Inv X pins σ H s) (e : H a = some (ndO X.prog X.w a ep kvs)) (n : NdA A H kvs en) (hk : KeyAt H y k) (ry : RelV y u) (hl : lookN en (nkD k) = some d)
    (h : ∀ v u' s', Inv X pins σ H s' → RelV v u' → Fd A H v d → Q u' s') : wpAny (model X.prog X.w) Ar (getItem (.ref a) u) Q E s := by
  obtain ⟨B, k1, k2, k3, b, rfl⟩ := hk
  cases (show u = Value.ref b from ry)
  obtain ⟨z, y, xs, pr, dd⟩ := nd_of I e n
  have q := nd_look (k := nkD k) n pr
  rw [hl] at q
  obtain ⟨c, v, u', e1, rv, fv⟩ := q
  exact wpAny_getItem_heap (nd_room hu) ⟨fd_key I k1 k3 rfl, k2⟩ dd e1 (h v u' _ (I.tok _) rv fv)
theorem paired_snoc {α β : Type} {F : α → β → Prop} : ∀ {l : List α} {m : List β}, Paired F l m → ∀ {x : α} {y : β}, F x y → Paired F (l ++ [x]) (m ++ [y])
  | _, _, .nil, _, _, h => .cons h .nil
  | _, _, .cons h t, _, _, g => .cons h (paired_snoc t g)
theorem nd_set {Ar : Around} {E : Value → Shared → Prop} {Q : Unit → Shared → Prop} {b : Addr} {v : V} {r : Value} {k : PyData} (hu : Ar.units + 64 < cLine) (I : Inv X pins σ H s) (e : H a = some (ndO X.prog X.w a ep kvs)) (n : NdA A H kvs en) (hk : KeyAt H (.ref b) k) (hl : lookN en (nkD k) = none) (hz : kvs.length < sizeLine) (rv : RelV v r)
    (h : ∀ ep' s', Inv X pins σ (upd H a (ndO X.prog X.w a ep' (kvs ++ [(nkD k, b, v)]))) s' → Q () s') : wpAny (model X.prog X.w) Ar (setItem (.ref a) (.ref b) r) Q E s := by
  obtain ⟨B, k1, k2, k3, _⟩ := hk
  obtain ⟨z, y, xs, pr, dd⟩ := nd_of I e n
  have q := nd_look (k := nkD k) n pr
  rw [hl] at q
  have q : atKey xs (nkD k) = none := q
  have hl2 : kvs.length = xs.length := Paired.length pr
  refine wpAny_setItem_heap (hsz := by omega) (nd_room hu) ⟨fd_key I k1 k3 rfl, k2⟩ dd fun h' dd' hs => ?_
  rw [storedH_new q] at dd'
  obtain ⟨o, es, ep', h1, h2, h3, h4, _, h5⟩ := dd'
  exact h ep' _ (d_write I (by rw [e]; exact True.intro) hs ⟨o, h1⟩ (ndO_ok ⟨by rw [List.length_append]; show kvs.length + 1 ≤ _; omega, y, _, paired_snoc pr (x := (nkD k, b, v)) (y := (nkD k, b, r)) ⟨rfl, rfl, rv⟩, o, es, h1, h2, h3, h4, h5⟩))
end
section
variable {X : Cx} {o i e value : Expr} {pos pos' tpos : Pos} {td ty tv : TE}
def tNIn (P : Program) (w : World) (neg : Bool) (ty td : TE) : TE := fun σ H Q => ty σ H fun y H1 => td σ H1 fun x H2 => ∃ a ep kvs A en k, x = .ref a ∧ H2 a = some (ndO P w a ep kvs) ∧ NdA A H2 kvs en ∧ KeyAt H2 y k ∧ Q (.bl (if neg then !(lookN en (nkD k)).isSome else (lookN en (nkD k)).isSome)) H2
def tNGet (P : Program) (w : World) (td ty : TE) : TE := fun σ H Q => td σ H fun x H1 => ty σ H1 fun y H2 => ∃ a ep kvs A en k d, x = .ref a ∧ H2 a = some (ndO P w a ep kvs) ∧ NdA A H2 kvs en ∧ KeyAt H2 y k ∧ lookN en (nkD k) = some d ∧ ∀ v, Fd A H2 v d → Q v H2
def sNPut (P : Program) (w : World) (td ty tv : TE) : TS := fun D σ H => tv σ H fun v H1 => td σ H1 fun x H2 => ty σ H2 fun y H3 => ∃ a ep kvs A en k b, x = .ref a ∧ y = .ref b ∧ H3 a = some (ndO P w a ep kvs) ∧ NdA A H3 kvs en ∧ KeyAt H3 y k ∧ lookN en (nkD k) = none ∧ kvs.length < sizeLine ∧
  ∀ ep', D.nx σ (upd H3 a (ndO P w a ep' (kvs ++ [(nkD k, b, v)])))
theorem pc_nin (hu : X.A.units + 64 < cLine) (hi : PE X i ty) (ho : PE X o td) : PC X .In i o (tNIn X.prog X.w false ty td) := by
  refine ⟨fun pins s σ H Q I h => ?_⟩
  refine thn (hi.run pins s σ H _ I h) fun iv s1 ⟨y, H1, I1, ry, q1⟩ => thn (ho.run pins s1 σ H1 _ I1 q1) fun u s2 ⟨x, H2, I2, rx, a, ep, kvs, A, en, k, ex, e, n, hk, q2⟩ => ?_
  subst ex
  obtain rfl : u = Value.ref a := rx
  exact nd_in hu I2 e n hk ry fun s3 I3 => ⟨.bl _, H2, I3, rfl, q2⟩
theorem pc_nnotin (hu : X.A.units + 64 < cLine) (hi : PE X i ty) (ho : PE X o td) : PC X .NotIn i o (tNIn X.prog X.w true ty td) := by
  refine ⟨fun pins s σ H Q I h => ?_⟩
  refine thn (hi.run pins s σ H _ I h) fun iv s1 ⟨y, H1, I1, ry, q1⟩ => thn (ho.run pins s1 σ H1 _ I1 q1) fun u s2 ⟨x, H2, I2, rx, a, ep, kvs, A, en, k, ex, e, n, hk, q2⟩ => ?_
  subst ex
  obtain rfl : u = Value.ref a := rx
  exact nd_notIn hu I2 e n hk ry fun s3 I3 => ⟨.bl _, H2, I3, rfl, q2⟩
theorem pe_nget (hu : X.A.units + 64 < cLine) (ho : PE X o td) (hi : PE X i ty) (hs : NoSl i) : PE X (.Subscript o i pos) (tNGet X.prog X.w td ty) := by
  refine ⟨fun pins s σ H Q I h => ?_⟩
  refine subD_of PySem.F.slot_dict_getitem.lookup hs (thn (ho.run pins s σ H _ I h) fun u s1 ⟨x, H1, I1, rx, q1⟩ => thn (hi.run pins s1 σ H1 _ I1 q1) fun iv s2 ⟨y, H2, I2, ry, a, ep, kvs, A, en, k, d, ex, e, n, hk, hl, q2⟩ => ?_)
  subst ex
  obtain rfl : u = Value.ref a := rx
  obtain ⟨_, _, xs, _, dd⟩ := nd_of I2 e n
  exact ⟨dd.typeIs, nd_get hu I2 e n hk ry hl fun v u' s3 I3 rv fv => ⟨v, H2, I3, rv, q2 v fv⟩⟩
theorem ps_nput (hu : X.A.units + 64 < cLine) (ho : PE X o td) (hi : PE X i ty) (hv : PE X value tv) (hs : swapsWith value (some (.Subscript o i pos')) pos.line X.env = pure false) :
    PS X (.Assign [.Subscript o i pos'] value pos) (sNPut X.prog X.w td ty tv) := by
  refine ⟨fun pins s σ H D I h => ?_⟩
  refine wpAny_Assign_Subscript (thn (hv.run pins s σ H _ I h) fun r s1 ⟨v, H1, I1, rv, q1⟩ => thn (ho.run pins s1 σ H1 _ I1 q1) fun u s2 ⟨x, H2, I2, rx, q2⟩ => thn (hi.run pins s2 σ H2 _ I2 q2) fun iv s3 ⟨y, H3, I3, ry, a, ep, kvs, A, en, k, b, ex, ey, e, n, hk, hl, hz, q3⟩ => ?_) hs
  subst ex ey
  obtain rfl : u = Value.ref a := rx
  obtain rfl : iv = Value.ref b := ry
  exact nd_set hu I3 e n hk hl hz rv fun ep' s4 I4 => ⟨σ, _, I4, q3 ep'⟩
def tDNewN (P : Program) (w : World) : TE := fun _ H Q => ∀ p ep, H p = none → Q (.ref p) (upd H p (ndO P w p ep []))
theorem pe_dnewN : PE X (.Dict [] [] pos) (tDNewN X.prog X.w) := ⟨fun pins s σ H Q I h => by
  have hb : (s.heap.objs.size == sysModules) = false := beq_eq_false_iff_ne.mpr (Ne.symm (Nat.ne_of_lt I.big))
  refine wpAny_Dict_empty ⟨.ref s.heap.objs.size, _, I.laid (a := s.heap.objs.size) (o := ndO X.prog X.w s.heap.objs.size 0 []) (t' := s.toks) (fun _ _ q => Heap.get?_push_of_some _ q) (Nat.le_refl _) (ndO_ok ⟨Nat.zero_le _, hb, [], .nil, _, #[], Heap.get?_push_size _ rfl, ⟨rfl, rfl, rfl⟩, rfl, rfl, List.nodup_nil⟩), rfl, h _ 0 (I.hok.fresh (Nat.le_refl _))⟩⟩
end
/-! the keys, one by one -/
def Itn (P : Program) (w : World) (d : Addr) (ep : Nat) (kvs : List NdE) : It :=
  ⟨fun i H => H d = some (ndO P w d ep kvs) ∧ i < kvs.length, fun i H x H' => H' = H ∧ ∃ p : NdE, kvs[i]? = some p ∧ x = .ref p.2.1, fun i H => H d = some (ndO P w d ep kvs) ∧ kvs.length ≤ i⟩
theorem nd_raw {X : Cx} {pins : List (Addr × Obj)} {σ : L2.St} {H : Hp} {s : Shared} {d : Addr} {ep : Nat} {kvs : List NdE} (I : Inv X pins σ H s) (h : H d = some (ndO X.prog X.w d ep kvs)) :
    (d == sysModules) = false ∧ ∃ (o : Obj) (es : Array DictEntry), s.heap.get? d = some o ∧ o.ExactDict ∧ o.data = .dict es ep ∧ es.size = kvs.length ∧ ∀ (i : Nat) (p : NdE), kvs[i]? = some p → ∃ en : DictEntry, es[i]? = some en ∧ en.key = .ref p.2.1 := by
  obtain ⟨⟨z, y, xs, pr, o, es, h1, h2, h3, h4, h5⟩, _⟩ := I.hok d _ h
  refine ⟨y, o, es, h1, h2, h3, ?_, fun i p e => ?_⟩
  · have l1 : es.size = xs.length := size_of_entries h4
    have l2 : kvs.length = xs.length := Paired.length pr
    omega
  · obtain ⟨b, hb, e1, e2, _⟩ := L2.paired_get pr e
    have q := entry_at h4 i
    rw [hb] at q
    exact ⟨_, q, by rw [e2]; rfl⟩
theorem turn_nd {P : Program} {w : World} {K : PySem.W.Frag} {tg : Expr} {d : Addr} {ep : Nat} {kvs : List NdE} (it : Addr) : Turn P w K tg (Itn P w d ep kvs) [it] it (fun i h => h.IsKeyIter it d i kvs.length ep) where
  mem := by simp
  obj := fun i h st b hb => by
    have e : b = it := by simpa using hb
    subst e
    obtain ⟨oi, e, c, dd⟩ := st
    exact ⟨oi, e, fun v z => by rw [dd] at z; cases z⟩
  keep := fun i h h' st k => st.at fun oi e => k it (by simp) oi e
  item := by
    intro X hP hw hK hc i pins s σ H E I hf st hg
    subst hP hw hK
    obtain ⟨hd, hi⟩ := hg
    obtain ⟨f0, f1, f2, f3, f4, f5⟩ := hf it (by simp)
    obtain ⟨hs, o, es, hgd, hx, hdt, hsz, ent⟩ := nd_raw I hd
    obtain ⟨p, hkv⟩ : ∃ p, kvs[i]? = some p := ⟨kvs[i], List.getElem?_eq_getElem hi⟩
    obtain ⟨en, hen, hkey⟩ := ent i p hkv
    refine next_key_item st hgd hdt hsz hen fun h' st' sb => ?_
    have I1 : Inv X pins σ H { s with heap := h' } := I.turned (t' := s.toks) (fun b ob hb e => (sb.2 b hb).trans e) f0 f1 f3 f4 f5
    obtain ⟨oi, e, c, dd⟩ := id st'
    exact ⟨en.key, rfl, go_of (s := { s with heap := h' }) e c dd (by decide) ⟨.ref p.2.1, H, I1, hkey, ⟨rfl, p, hkv, rfl⟩, st', fun b hb => (hf b hb).1⟩⟩
  done := by
    intro X hP hw hK hc i pins s σ H E I hf st hg
    subst hP hw hK
    obtain ⟨hd, hi⟩ := hg
    obtain ⟨f0, f1, f2, f3, f4, f5⟩ := hf it (by simp)
    obtain ⟨hs, o, es, hgd, hx, hdt, hsz, ent⟩ := nd_raw I hd
    exact next_key_end (I.ok.hd hc) st hgd hdt hsz hi fun h' eb => ⟨rfl, I.turned (t' := s.toks) (fun b ob hb e => eb b ob hb e) f0 f1 f3 f4 f5⟩
  self := fun A i s Q E st h => by
    refine wpAny_pyIter_slot st.typeIs F.slot_dict_keyiterator_iter (wpAny_call_entry F.slot_dict_keyiterator_iter st.typeIs F.entry_dict_keyiterator_iter ?_ (F.args_dict_keyiterator_iter_1 _))
    show wpAny _ _ (ret (.ref it)) _ _ s
    exact wpAny_pure ⟨_, rfl, "dict_keyiterator", _, st.typeIs, F.slot_dict_keyiterator_next.lookup, h⟩
def iNd (P : Program) (w : World) (td : TE) : TI := fun σ H R => td σ H fun x H1 => ∃ d ep kvs, x = .ref d ∧ H1 d = some (ndO P w d ep kvs) ∧ R (Itn P w d ep kvs) H1
theorem pi_nd {X : Cx} {tg e : Expr} {td : TE} (he : PE X e td) : PI X tg e (iNd X.prog X.w td) := by
  refine ⟨fun pins s σ H R I h => ?_⟩
  refine thn (he.run pins s σ H _ I h) fun u s1 ⟨x, H1, I1, rx, d, ep, kvs, ex, hd, q⟩ => ?_
  subst ex
  obtain rfl : u = Value.ref d := rx
  obtain ⟨hs, o, es, hgd, hx, hdt, hsz, ent⟩ := nd_raw I1 hd
  refine iter_keys hs hgd hx hdt (pi_one (tk := s1.toks) I1 _ (turn_nd _) ⟨_, Heap.get?_push_size _ rfl, rfl, ?_⟩ q)
  rw [hsz] <;> rfl
end G

namespace G
open PySem PySem.Spec PyProof.Rows
/-! ### sorted of a tuple of whole numbers -/
section
variable {prog : Program} {w : World} {A : Around} {E : Value → Shared → Prop} {s : Shared}
theorem collect_tuple {l : Addr} {vs : List Value} {Q : List Value → Shared → Prop} (hl : IsTup s.heap l vs.toArray)
    (h : Q vs { s with heap := (s.heap.push (seqObj "list" #[] 0)).update s.heap.objs.size (Obj.mapSeq (· ++ vs.toArray)) }) (hsz : vs.length ≤ sizeLine := by size_fits) :
    wpAny (model prog w) A (collect (.ref l)) Q E s := by
  obtain ⟨o, ho, hc, n, hd⟩ := id hl
  unfold collect
  refine wpAny_bind (wpAny_runValue (codeAny_builtin entry_proto_collect' ?_))
  show wpAny _ _ (do again (.builtin "list.__iadd__" ⟨[← newList [], .ref l], []⟩)) _ _ s
  refine wpAny_bind (wpAny_newList (wpAny_pure ⟨Code.quiet_builtin _ (by decide +kernel), codeAny_builtin entry_list_iadd' ?_⟩))
  show wpAny _ _ (Builtin.List.listExtendWith (.ref s.heap.objs.size) (.ref l) (.ref s.heap.objs.size)) _ _ { s with heap := s.heap.push (seqObj "list" #[] 0) }
  unfold Builtin.List.listExtendWith
  have ho' : (s.heap.push (seqObj "list" #[] 0)).get? l = some o := Heap.get?_push_of_some _ ho
  refine wpAny_bind (wpAny_typeOf (T := "tuple") ⟨o, ho', hc⟩ ?_)
  have ht : (Value.type "tuple" == Value.type "tuple") = true := by rfl
  rw [if_pos (by rw [ht]; simp)]
  refine wpAny_bind (listItems_at ho' hd ?_)
  refine wpAny_bind (listItems_at (xs := #[]) (n := 0) (Heap.get?_push_size _ rfl) rfl ?_)
  rw [if_neg (by simp)]
  refine wpAny_bind (listUpdate_at (xs := #[]) (n := 0) (Heap.get?_push_size _ rfl) rfl ?_ (Nat.zero_le _) (by show (#[] ++ vs.toArray).size ≤ sizeLine + 1; simp only [Array.size_append, List.size_toArray, List.length_nil]; omega))
  refine wpAny_pure ?_
  show wpAny (model prog w) A (do
      let o ← load s.heap.objs.size
      match o.data with
      | .seq xs _ => pure xs.toList
      | _ => unsupported "internal:collect") Q E { s with heap := (s.heap.push (seqObj "list" #[] 0)).update s.heap.objs.size (Obj.mapSeq (· ++ vs.toArray)) }
  refine wpAny_bind (wpAny_load (get?_update_seq (Heap.get?_push_size _ rfl) _) ?_)
  show wpAny _ _ (pure ((#[] : Array Value) ++ vs.toArray).toList) Q E _
  rw [show ((#[] : Array Value) ++ vs.toArray).toList = vs by simp]
  exact wpAny_pure h
open SrtO Srt in
theorem sorted_tupI {l : Addr} {vs : List Value} {ns : List Int} {Q : Value → Shared → Prop} (hl : IsTup s.heap l vs.toArray) (hz : vs.length ≤ sizeLine) (hI : IntsAre vs ns)
    (h : ∀ out : List Value, Srtd ltIv out → Stb ltIv out vs → Q (.ref (s.heap.objs.size + 1)) { s with heap := sortedAll s.heap vs out.toArray }) :
    wpAny (model prog w) A (call (.builtin "sorted") [.ref l]) Q E s := by
  refine Calls.call_function_entry kind_sorted plain_sorted entry_sorted (args_sorted1 _) ?_
  unfold Builtin.«sorted»
  refine wpAny_bind (m := checkCount "sorted" 1 1 _) (wpAny_pure ?_)
  refine wpAny_bind (collect_tuple hl ?_ hz)
  refine wpAny_bind (wpAny_newList ?_ hz)
  have hsz : ((s.heap.push (seqObj "list" #[] 0)).update s.heap.objs.size (Obj.mapSeq (· ++ vs.toArray))).objs.size = s.heap.objs.size + 1 := by
    rw [Heap.size_update, size_push']
  have hoL : (((s.heap.push (seqObj "list" #[] 0)).update s.heap.objs.size (Obj.mapSeq (· ++ vs.toArray))).push (seqObj "list" vs.toArray 0)).get? (s.heap.objs.size + 1) = some (seqObj "list" vs.toArray 0) := by
    rw [← hsz]; exact Heap.get?_push_size _ rfl
  show wpAny _ _ _ _ _ { s with heap := ((s.heap.push (seqObj "list" #[] 0)).update s.heap.objs.size (Obj.mapSeq (· ++ vs.toArray))).push (seqObj "list" vs.toArray 0) }
  rw [hsz]
  refine wpAny_bind (wpAny_holding (wpAny_call_entry slot_list_sort ⟨_, hoL, rfl⟩ entry_list_sort (list_sort_ord swo_int hoL hz (fun h2 => ints_sortable hI h2) fun out hs hb => ⟨_, rfl, ?_⟩) (args_list_sort _)))
  exact wpAny_pure ⟨_, rfl, h out hs hb⟩
end
open L2
def rSortedTI (K : PySem.W.Frag) : List V → Hp → VK → Prop := fun vs H Q => ∃ (a : Addr) (ns : List Int), vs = [V.ref a] ∧ SqT K H a (ns.map V.int) ∧
  ∀ (ns' : List Int) (p : Addr), ns'.Perm ns → ns'.Pairwise (· ≤ ·) → H p = none → Q (.ref p) (upd H p (.lst (ns'.map V.int)))
theorem cr_sortedTI {X : Cx} : CallR X (.builtin "sorted") (rSortedTI X.K) := by
  intro pins s σ H vs us Q I r h
  obtain ⟨a, ns, rfl, hs, q⟩ := h
  obtain ⟨its, rv, hl, hz⟩ := I.tuple hs
  rw [Vals.ref1 r]
  have hi := rv.ints
  refine sorted_tupI hl (by rw [← rv.length]; exact hz) hi fun out h1 h2 => ?_
  obtain ⟨k1, k2, k3⟩ := SrtO.ints_out hi h1 h2
  obtain ⟨ep, he'⟩ := PyProof.Rows.sortedAll_at s.heap its out.toArray
  have hlen : ((out.map SrtO.iv).map V.int).length ≤ sizeLine := by
    rw [List.length_map, k2.length_eq]
    rw [List.length_map] at hz
    exact hz
  exact ⟨.ref _, upd H (s.heap.objs.size + 1) (.lst ((out.map SrtO.iv).map V.int)), I.laid (t' := s.toks) (fun _ _ => PyProof.Rows.sortedAll_old) (Nat.le_succ _) ⟨hlen, out, ep, vals_of_ints k1, he'⟩, rfl, q _ _ k2 k3 (I.hok.fresh (Nat.le_succ _))⟩
/-! ### min with a default -/
def rMinDf (K : PySem.W.Frag) : List V → List V → Hp → VK → Prop := fun vs zs H Q => ∃ (a : Addr) (xs : List V) (bs : List PyData) (z : V), vs = [V.ref a] ∧ zs = [z] ∧ SqL K H a xs ∧ DpAll K H xs bs ∧ PySem.W.AlikeAll bs ∧ PyData.depthAll bs ≤ 60 ∧
  (bs = [] → Q z H) ∧ ∀ b0 bs', bs = b0 :: bs' → ∀ (i : Nat) (x : V), xs[i]? = some x → bs[i]? = some (PySem.W.minD b0 bs') → Q x H
theorem cr_minDf {X : Cx} (hc : X.calm = true) (hu : X.A.units + 64 < cLine) : CallRK X (.builtin "min") [(Str.ofString "default")] (rMinDf X.K) := by
  intro pins s σ H xs0 zs us ws Q I r1 r2 h
  obtain ⟨a, xs, bs, z, rfl, rfl, hs, hd, hal, hdep, q0, q⟩ := h
  obtain ⟨its, rv, hl, hz⟩ := I.list hs
  rw [Vals.ref1 r1]
  cases r2 with
  | @cons z' u' _ _ rz t =>
    cases t
    obtain ⟨as, hr⟩ := Dp.readsAll I _ xs its hd rv
    show wpAny (model X.prog X.w) X.A (call (.builtin "min") [.ref a] [(Str.ofString "default", u')]) _ X.xe s
    refine PySem.W.min_list_default (vs := its.toArray) (I.ok.hd hc) hl.isList hr hal (by show X.A.units + 1 + _ < _; omega) (fun e h' tk hk => ?_) fun y ys i v h' tk cs e hv hrd hk => ?_
    · exact ⟨z, H, I.kept hk, rz, q0 e⟩
    · have hv' : its[i]? = some v := by rw [← hv]; simp
      obtain ⟨x, hx, rx⟩ := vals_get rv hv'
      subst e
      exact ⟨x, H, I.kept hk, rx, q y ys rfl i x hx (best_at hr hv' hrd hk)⟩
section
variable {C : Ctx} {N : List Str} {sc : Scope} {fn : Str → Bool} {k : Nat} {J : Type} {X : J → Cx}
variable {Z : Hp} {B : Nat → Bool} {E E' : List Cell} {O O1 O2 O3 O' : List Ob} {e a b c tg it : Expr} {es ifs : List Expr} {P : OP} {R R1 R2 R3 R' Ri Re Rk : List Nat} {d d0 d1 d2 d3 : PyData} {ds es1 src : List PyData} {pos p p2 pos' apos cpos tp : Pos} {body rest : List Stmt} {q : Po} {w : Nat} {x : Str} {j : Nat}
theorem ee_sortT {ns ms : List Int} (hx : SX C N sc fn k X) (hm : C.mg "sorted" = none) (hg : Gb sc "sorted") (ha : ED X Z E O a (.tuple (ns.map .int)) R O1) (hp : ms.Perm ns) (hs : ms.Pairwise (· ≤ ·))
    (he : ∀ i, starEach [a] (X i).env = (false, eval a (X i).env) :: starEach [] (X i).env) (hpl : ∀ i, (backTo pos (starEach [] (X i).env)).any (·.1) = false) :
    ED X Z E O (.Call (.Name "sorted" p) [a] [] pos) (.list (ms.map .int)) [] O1 := fun ρ π K σ H h Q qq =>
  ⟨tCB (rSortedTI C.K) (wA X [a]), fun i => pe_callB (by rw [← hx.K i]; exact cr_sortedTI) (gl_of hx hg i) (by rw [hx.mg i]; exact hm) (by decide +kernel) (pa_w [a] i) (by decide) (by decide) (he i) (hpl i),
    ea_cons' ha ea_nil' he ρ π K σ H h _ fun vs ρ1 π1 H1 h1 g1 rs ws => by
      obtain ⟨v, rfl, r2⟩ := rs.one
      cases r2 with
      | @tup y xs _ hA e1 q1 =>
        rw [q1.toInts] at e1
        refine ⟨y, ns, rfl, SqT.of e1, fun ns' z hp' hs' hz => ?_⟩
        have e : ns' = ms := List.Perm.eq_of_pairwise (fun a b _ _ x y => Int.le_antisymm x y) hs' hs (hp'.trans hp.symm)
        subst e
        have s : Same H1 (upd H1 z (.lst (ns'.map V.int))) := same_new hz
        have w1 : (ns.map PyData.int).length < sizeLine ∧ _ := ws.1
        exact qq _ ρ1 π1 _ (h1.same s) (g1.trans (Go.same s)) ⟨.lst (vis_new h1 g1 hz) upd_same (FdA.ints _), by rw [List.length_map, hp.length_eq]; have := w1.1; rwa [List.length_map] at this, wfA_iff.mpr fun d hd => by
          obtain ⟨i, _, rfl⟩ := List.mem_map.mp hd; trivial⟩⟩
/-- the least, or what is told for none -/
def minO (z : PyData) : List PyData → PyData
  | [] => z
  | d0 :: ds => PySem.W.minD d0 ds
theorem ee_minDf (hx : SX C N sc fn k X) (hm : C.mg "min" = none) (hg : Gb sc "min") (ha : ED X Z E O a (.list ds) R1 O1) (hb : ED X Z E O1 b d2 R2 O2) (hal : PySem.W.AlikeAll ds) (hdep : PyData.depthAll ds ≤ 60) (hd : minO d2 ds = d) (hR : (∀ r ∈ R1, r ∈ R) ∧ ∀ r ∈ R2, r ∈ R) {kp : Pos}
    (he : ∀ i, backTo pos (starEach [a] (X i).env) = (false, eval a (X i).env) :: backTo pos (starEach [] (X i).env)) (hpl : ∀ i, (backTo pos (starEach [a] (X i).env)).any (·.1) = false)
    (hall : ∀ i, (backToKw pos (keywordEach [⟨some "default", b, kp⟩] (X i).env)).all (·.1.isSome) = true) (hnone : ∀ i, (backToKw pos (keywordEach [⟨some "default", b, kp⟩] (X i).env)).any (·.1.isNone) = false) (hks : ∀ i, (backToKw pos (keywordEach [⟨some "default", b, kp⟩] (X i).env)).filterMap (·.1) = [(Str.ofString "default")])
    (hst : ∀ i, starEach [a] (X i).env = (false, eval a (X i).env) :: starEach [] (X i).env) :
    ED X Z E O (.Call (.Name "min" p) [a] [⟨some "default", b, kp⟩] pos) d R O2 := fun ρ π K σ H h Q qq =>
  ⟨tCKw (rMinDf C.K) (tCons (wE X a) tNil) (tCons (wE X b) tNil), fun i => pe_callBK (by rw [← hx.K i]; exact cr_minDf (hx.calm i) (hx.room i).units) (gl_of hx hg i) (by rw [hx.mg i]; exact hm) (by decide +kernel) (pa_cons (pe_w a i) pa_nil (hst i)) (pk_cons (pe_w b i) pk_nil) (by decide) (by decide) (he i) (hpl i) (hall i) (hnone i) (hks i),
    ha ρ π K σ H h _ fun v1 ρ1 π1 H1 h1 g1 r1 => hb ρ1 π1 K σ H1 h1 _ fun v2 ρ2 π2 H2 h2 g2 r2 => by
      have r1' := r1.1.cut fun a o ha e => vis_keep h1 g2 ha e
      have w1 := r1.2
      have g := g1.trans g2
      cases r1' with
      | @lst y xs _ hA e1 q1 =>
        refine ⟨y, xs, ds, v2, rfl, rfl, SqL.of e1, q1.dp _, hal, hdep, fun e => ?_, fun b0 bs' e i x hx' hb' => ?_⟩
        · subst e
          exact qq v2 ρ2 π2 H2 h2 g (by
            have hd' : d2 = d := hd
            exact ⟨hd' ▸ r2.1.mono (fun a ha => vis_sub hR.2 (vis_from g1 ha)) (Same.refl _), hd' ▸ r2.2⟩)
        · subst e
          obtain ⟨v, hv, rv⟩ := q1.get hb'
          rw [hx'] at hv
          cases hv
          have hd' : PySem.W.minD b0 bs' = d := hd
          exact qq x ρ2 π2 H2 h2 g ⟨hd' ▸ rv.mono (fun a ha => vis_sub hR.1 ha) (Same.refl _), hd' ▸ wfA_iff.mp w1.2 _ (List.mem_of_getElem? hb')⟩⟩
end
end G

namespace G
open PySem PySem.Spec PyProof.Rows L2
/-! ### a Plan -/
abbrev PKey := List Nat × Option Nat
abbrev PVal := Nat × List Nat
def lD : Option Nat → PyData
  | none => .none
  | some n => .int (n : Nat)
theorem lD_flat (o : Option Nat) : flatD (lD o) = true := by cases o <;> rfl
def gK (k : PKey) : PyData := .tuple [.tuple (k.1.map gN), lD k.2]
def gV (v : PVal) : PyData := .tuple [.int (v.1 : Nat), .list (v.2.map gN)]
structure PA where
  p : Addr
  dx : Addr
  kd : Addr
  wa : Addr
  na : Addr
structure PSt where
  ws : List (List Nat)
  ns : List Nat
  kn : List (PKey × PVal)
abbrev pF (u : PA) : List (Str × V) := [("every", .ref u.wa), ("numbers", .ref u.na), ("known", .ref u.kd)]
abbrev knD (kn : List (PKey × PVal)) : List (PyData × PyData) := kn.map fun e => (gK e.1, gV e.2)
def lookK (kn : List (PKey × PVal)) (k : PKey) : Option PVal := (kn.find? fun e => decide (e.1 = k)).map (·.2)
theorem nkDs_N : ∀ l : List Nat, nkDs (l.map gN) = l.map fun n => NestedKey.num (n : Nat)
  | [] => rfl
  | n :: l => by show nkD (gN n) :: nkDs (l.map gN) = _; rw [nkDs_N l]; rfl
theorem nk_K (k : PKey) : nkD (gK k) = .tup [.tup (k.1.map fun n => NestedKey.num (n : Nat)), nkD (lD k.2)] := by
  show NestedKey.tup [.tup (nkDs (k.1.map gN)), nkD (lD k.2)] = _
  rw [nkDs_N]
theorem nums_inj : ∀ {l m : List Nat}, (l.map fun n => NestedKey.num (n : Nat)) = m.map (fun n => NestedKey.num (n : Nat)) → l = m
  | [], [], _ => rfl
  | [], _ :: _, h => by simp at h
  | _ :: _, [], h => by simp at h
  | a :: l, b :: m, h => by
    rw [List.map_cons, List.map_cons] at h
    obtain ⟨h1, h2⟩ := List.cons.inj h
    have h1 : ((a : Nat) : Int) = b := NestedKey.num.inj h1
    rw [nums_inj h2, Int.ofNat.inj h1]
theorem lD_inj {a b : Option Nat} (h : nkD (lD a) = nkD (lD b)) : a = b := by
  cases a <;> cases b
  · rfl
  · exact nomatch h
  · exact nomatch h
  · next a b =>
    have h1 : ((a : Nat) : Int) = b := NestedKey.num.inj h
    rw [Int.ofNat.inj h1]
theorem gK_inj {a b : PKey} (h : nkD (gK a) = nkD (gK b)) : a = b := by
  rw [nk_K, nk_K] at h
  have h := NestedKey.tup.inj h
  obtain ⟨h1, h2⟩ := List.cons.inj h
  obtain ⟨h2, _⟩ := List.cons.inj h2
  exact Prod.ext (nums_inj (NestedKey.tup.inj h1)) (lD_inj h2)
theorem look_K (kn : List (PKey × PVal)) (k : PKey) : lookN (knD kn) (nkD (gK k)) = (lookK kn k).map gV := by
  unfold lookN lookK
  induction kn with
  | nil => rfl
  | cons e kn ih =>
    show Option.map _ (List.find? _ ((gK e.1, gV e.2) :: knD kn)) = _
    rw [List.find?_cons, List.find?_cons]
    have e1 : decide (nkD (gK e.1) = nkD (gK k)) = decide (e.1 = k) := decide_eq_decide.mpr ⟨gK_inj, fun h => by rw [h]⟩
    show Option.map _ (match decide (nkD (gK e.1) = nkD (gK k)) with | true => _ | false => _) = _
    rw [e1]
    cases decide (e.1 = k) with
    | true => rfl
    | false => exact ih
theorem okKys_N : ∀ l : List Nat, okKys (l.map gN) = true
  | [] => rfl
  | n :: l => okKys_N l
theorem ok_K (k : PKey) : okKy (gK k) = true := by
  show (okKys (k.1.map gN) && (okKy (lD k.2) && true)) = true
  rw [okKys_N]
  cases k.2 <;> rfl
theorem depthN : ∀ l : List Nat, NestedKey.depthAll (l.map fun n => NestedKey.num (n : Nat)) = 0
  | [] => rfl
  | n :: l => by show max 0 _ = 0; rw [depthN l]; rfl
theorem dep_K (k : PKey) : (nkD (gK k)).depth ≤ 8 := by
  rw [nk_K]
  show max (NestedKey.depthAll (k.1.map fun n => NestedKey.num (n : Nat)) + 1) (max (nkD (lD k.2)).depth 0) + 1 ≤ 8
  rw [depthN]
  cases k.2 with
  | none => decide
  | some v => exact (by decide : max (0 + 1) (max 0 0) + 1 ≤ 8)
theorem keyAt_K {A : Addr → Prop} {H : Hp} {y : V} {k : PKey} (h : Fd A H y (gK k)) : KeyAt H y (gK k) := ⟨A, ok_K k, dep_K k, h, by cases h with | tup _ _ _ => exact ⟨_, rfl⟩⟩
structure PlanAt (C : Ctx) (A : Addr) (S : Addr → Prop) (H : Hp) (u : PA) (k : PSt) : Prop where
  ob : H u.p = some (.ins A u.dx (pF u))
  ev : Fd S H (.ref u.wa) (.list (k.ws.map dS))
  nu : Fd S H (.ref u.na) (.list (k.ns.map gN))
  kn : ∃ ep kvs, H u.kd = some (ndO C.P C.w u.kd ep kvs) ∧ NdA S H kvs (knD k.kn)
  wev : wfD (.list (k.ws.map dS))
  wnu : k.ns.length < sizeLine
  wv : ∀ e ∈ k.kn, e.2.2.length < sizeLine
theorem PlanAt.cut {C : Ctx} {A : Addr} {S T : Addr → Prop} {H H' : Hp} {u : PA} {k : PSt} (h : PlanAt C A S H u k) (h1 : H' u.p = some (.ins A u.dx (pF u))) (h2 : ∀ o, H u.kd = some o → H' u.kd = some o) (hc : ∀ a o, S a → H a = some o → H' a = some o ∧ T a) : PlanAt C A T H' u k := by
  obtain ⟨ep, kvs, e, n⟩ := h.kn
  exact ⟨h1, h.ev.cut hc, h.nu.cut hc, ⟨ep, kvs, h2 _ e, n.cut hc⟩, h.wev, h.wnu, h.wv⟩
def planP (C : Ctx) (A : Addr) (u : PA) (k : PSt) : OQ := ⟨fun v S Cs H => v = .ref u.p ∧ (S u.p ∧ S u.kd ∧ ∀ a, S a → a = u.p ∨ a = u.kd) ∧ PlanAt C A Cs H u k,
  fun h1 h2 ⟨e, ⟨a1, a2, a3⟩, q⟩ => ⟨e, ⟨a1, a2, a3⟩, q.cut (h1 _ _ a1 q.ob) (fun o e => h1 _ _ a2 e) h2⟩⟩
def dumP : OQ := ⟨fun _ _ _ _ => True, fun _ _ h => h⟩
def updC (O : List Ob) (j : Nat) (P : OQ) (R : List Nat) : List Ob := O.map fun o => if o.1 = j then (j, P, R) else o
theorem wfN (l : List Nat) : wfA (l.map gN) := wfA_iff.mpr fun d hd => by obtain ⟨n, _, rfl⟩ := List.mem_map.mp hd; trivial
theorem wf_gV {v : PVal} (h : v.2.length < sizeLine) : wfD (gV v) := ⟨by rw [sizeLine_eq]; show 2 < 16777216; decide, trivial, ⟨by rw [List.length_map]; exact h, wfN _⟩, trivial⟩
section
variable {C : Ctx} {N : List Str} {sc : Scope} {fn : Str → Bool} {k : Nat} {J : Type} {X : J → Cx}
variable {Z : Hp} {B : Nat → Bool} {E E' : List Cell} {O O1 O2 O3 O' : List Ob} {e a b c tg it : Expr} {es ifs : List Expr} {P : OP} {R R1 R2 R3 R' Ri Re Rk Rn : List Nat} {d d0 d1 d2 d3 : PyData} {ds es1 src : List PyData} {pos p p2 pos' apos cpos tp : Pos} {body rest : List Stmt} {q : Po} {w : Nat} {x m : Str} {j kk : Nat} {A : Addr} {u : PA} {ks k' : PSt} {ps : List Str}
theorem plan_at {ρ π : Cols} {K : Held} {σ : L2.St} {H : Hp} (h : Rel Z ρ π E O K σ H) (ho : (j, planP C A u ks, Rk) ∈ O) : σ[j]? = some (some (.ref u.p)) ∧ (π j u.p ∧ π j u.kd ∧ ∀ a, π j a → a = u.p ∨ a = u.kd) ∧ PlanAt C A (col ρ Rk) H u ks := by
  obtain ⟨v, e, rfl, h1, h2⟩ := h.obj _ ho
  exact ⟨e, h1, h2⟩
theorem Rel.objSet {ρ π : Cols} {K : Held} {σ : L2.St} {H : Hp} {P P' : OQ} {v : V} (h : Rel Z ρ π E (updO O j P) K σ H) (hsl : σ[j]? = some (some v)) (hp : P'.p v (π j) (col ρ Rn) H) : Rel Z ρ π E (updC O j P' Rn) K σ H := {
  cell := h.cell
  obj := fun o ho => by
    obtain ⟨o', ho', rfl⟩ := List.mem_map.mp ho
    by_cases c : o'.1 = j
    · rw [if_pos c]; exact ⟨v, hsl, hp⟩
    · rw [if_neg c]
      have := h.obj o' (List.mem_map.mpr ⟨o', ho', if_neg c⟩)
      exact this
  held := h.held
  len := h.len
  dj := h.dj
  dp := h.dp
  dx := h.dx
  lr := h.lr
  lp := h.lp
  keep := h.keep
  zr := h.zr
  zp := h.zp
  z0 := h.z0 }
theorem Rel.dummy {ρ π : Cols} {K : Held} {σ : L2.St} {H : Hp} (h : Rel Z ρ π E O K σ H) : Rel Z ρ π E (updO O j dumP) K σ H := {
  cell := h.cell
  obj := fun o ho => by
    obtain ⟨o', ho', rfl⟩ := List.mem_map.mp ho
    obtain ⟨v, e, q⟩ := h.obj o' ho'
    by_cases c : o'.1 = j
    · rw [if_pos c]; exact ⟨v, c ▸ e, trivial⟩
    · rw [if_neg c]; exact ⟨v, e, q⟩
  held := h.held
  len := h.len
  dj := h.dj
  dp := h.dp
  dx := h.dx
  lr := h.lr
  lp := h.lp
  keep := h.keep
  zr := h.zr
  zp := h.zp
  z0 := h.z0 }
theorem pF_every (u : PA) : (pF u).lookup ("every" : Str) = some (.ref u.wa) := rfl
theorem pF_numbers (u : PA) : (pF u).lookup ("numbers" : Str) = some (.ref u.na) := by
  have h1 : (("numbers" : Str) == "every") = false := by decide +kernel
  show (match ("numbers" : Str) == "every" with | true => some (V.ref u.wa) | false => _) = _
  rw [h1]; rfl
theorem pF_known (u : PA) : (pF u).lookup ("known" : Str) = some (.ref u.kd) := by
  have h1 : (("known" : Str) == "every") = false := by decide +kernel
  have h2 : (("known" : Str) == "numbers") = false := by decide +kernel
  show (match ("known" : Str) == "every" with | true => some (V.ref u.wa) | false => (match ("known" : Str) == "numbers" with | true => some (V.ref u.na) | false => _)) = _
  rw [h1, h2]; rfl
theorem pF_no (u : PA) {m : Str} (h1 : (m == "every") = false) (h2 : (m == "numbers") = false) (h3 : (m == "known") = false) : (pF u).lookup m = none := by
  show (match m == "every" with | true => some (V.ref u.wa) | false => (match m == "numbers" with | true => some (V.ref u.na) | false => (match m == "known" with | true => _ | false => _))) = _
  rw [h1, h2, h3]; rfl
theorem ee_every (hx : SX C N sc fn k X) (nm : Nm N j x) (hv : Vis sc x) (cA : Cls C.K A) (nA : NoAttr C.K A "every") (ho : (j, planP C A u ks, Rk) ∈ O) (hb : ∀ i, attributeBase (.Name x p) "every" (X i).env (eval (.Name x p) (X i).env) = eval (.Name x p) (X i).env) :
    ED X Z E O (.Attribute (.Name x p) "every" pos) (.list (ks.ws.map dS)) Rk O := fun ρ π K σ H h Q qq => by
  obtain ⟨e1, _, ka⟩ := plan_at h ho
  exact ⟨tFld C.K (tVar j) "every", fun i => by rw [← hx.K i]; exact pe_fld (pe_nm hx nm hv i) (hb i), _, e1, u.p, A, u.dx, _, _, rfl, ka.ob, cA, nA, pF_every _, qq _ ρ π H h (Go.refl _ _ _) ⟨ka.ev.mono (fun a ha => .inl ha) (Same.refl _), ka.wev⟩⟩
theorem ee_numbers (hx : SX C N sc fn k X) (nm : Nm N j x) (hv : Vis sc x) (cA : Cls C.K A) (nA : NoAttr C.K A "numbers") (ho : (j, planP C A u ks, Rk) ∈ O) (hb : ∀ i, attributeBase (.Name x p) "numbers" (X i).env (eval (.Name x p) (X i).env) = eval (.Name x p) (X i).env) :
    ED X Z E O (.Attribute (.Name x p) "numbers" pos) (.list (ks.ns.map gN)) Rk O := fun ρ π K σ H h Q qq => by
  obtain ⟨e1, _, ka⟩ := plan_at h ho
  exact ⟨tFld C.K (tVar j) "numbers", fun i => by rw [← hx.K i]; exact pe_fld (pe_nm hx nm hv i) (hb i), _, e1, u.p, A, u.dx, _, _, rfl, ka.ob, cA, nA, pF_numbers _, qq _ ρ π H h (Go.refl _ _ _) ⟨ka.nu.mono (fun a ha => .inl ha) (Same.refl _), by rw [List.length_map]; exact ka.wnu, wfN _⟩⟩
theorem look_is (o : Option PVal) : (o.map gV).isSome = o.isSome := by cases o <;> rfl
theorem et_nnotin {ky : PKey} (hx : SX C N sc fn k X) (nm : Nm N j x) (hv : Vis sc x) (cA : Cls C.K A) (nA : NoAttr C.K A "known") (hb : ED X Z E O b (gK ky) R O) (ho : (j, planP C A u ks, Rk) ∈ O) (hbb : ∀ i, attributeBase (.Name x p) "known" (X i).env (eval (.Name x p) (X i).env) = eval (.Name x p) (X i).env) :
    ET X Z E O (.Compare b [.NotIn] [.Attribute (.Name x p) "known" pos] pos') (lookK ks.kn ky).isNone O := fun ρ π K σ H h Q qq => by
  refine ⟨tB (tNIn C.P C.w true (wE X b) (tFld C.K (tVar j) "known")), fun i => by rw [← hx.P i, ← hx.w i, ← hx.K i]; exact pt_cmp (pc_nnotin (hx.room i).units (pe_w b i) (pe_fld (pe_nm hx nm hv i) (hbb i))), hb ρ π K σ H h _ fun v ρ1 π1 H1 h1 g1 r => ?_⟩
  obtain ⟨e1, _, ka⟩ := plan_at h1 ho
  obtain ⟨ep, kvs, e2, n⟩ := ka.kn
  refine ⟨_, e1, u.p, A, u.dx, _, _, rfl, ka.ob, cA, nA, pF_known _, u.kd, ep, kvs, col ρ1 Rk, _, gK ky, rfl, e2, n, keyAt_K r.1, _, rfl, ?_⟩
  rw [look_K, look_is]
  have : (if true = true then !(lookK ks.kn ky).isSome else (lookK ks.kn ky).isSome) = (lookK ks.kn ky).isNone := by cases lookK ks.kn ky <;> rfl
  rw [this]
  exact qq ρ1 π1 H1 h1 g1
theorem ee_ngetp {ky : PKey} {vl : PVal} (hx : SX C N sc fn k X) (nm : Nm N j x) (hv : Vis sc x) (cA : Cls C.K A) (nA : NoAttr C.K A "known") (hb : ED X Z E O b (gK ky) R O) (ho : (j, planP C A u ks, Rk) ∈ O) (hl : lookK ks.kn ky = some vl) (hbb : ∀ i, attributeBase (.Name x p) "known" (X i).env (eval (.Name x p) (X i).env) = eval (.Name x p) (X i).env) (hs : NoSl b) :
    ED X Z E O (.Subscript (.Attribute (.Name x p) "known" pos) b pos') (gV vl) Rk O := fun ρ π K σ H h Q qq => by
  obtain ⟨e1, _, ka⟩ := plan_at h ho
  refine ⟨tNGet C.P C.w (tFld C.K (tVar j) "known") (wE X b), fun i => by rw [← hx.P i, ← hx.w i, ← hx.K i]; exact pe_nget (hx.room i).units (pe_fld (pe_nm hx nm hv i) (hbb i)) (pe_w b i) hs, _, e1, u.p, A, u.dx, _, _, rfl, ka.ob, cA, nA, pF_known _, hb ρ π K σ H h _ fun v ρ1 π1 H1 h1 g1 r => ?_⟩
  obtain ⟨_, _, ka1⟩ := plan_at h1 ho
  obtain ⟨ep, kvs, e2, n⟩ := ka1.kn
  refine ⟨u.kd, ep, kvs, col ρ1 Rk, _, gK ky, gV vl, rfl, e2, n, keyAt_K r.1, (by rw [look_K, hl]; rfl), fun v fv => qq v ρ1 π1 H1 h1 g1 ⟨fv.mono (fun a ha => .inl ha) (Same.refl _), wf_gV (ka1.wv (ky, vl) ?_)⟩⟩
  unfold lookK at hl
  obtain ⟨e3, h3, h4⟩ := Option.map_eq_some_iff.mp hl
  have h5 := List.mem_of_find?_eq_some h3
  have h6 : e3.1 = ky := by simpa using List.find?_some h3
  obtain ⟨a1, a2⟩ := e3
  have h6 : a1 = ky := h6
  have h4 : a2 = vl := h4
  subst h6 h4
  exact h5
theorem PlanAt.ne {S : Addr → Prop} {H : Hp} (ka : PlanAt C A S H u ks) : u.p ≠ u.kd := by
  obtain ⟨ep, kvs, e2, n⟩ := ka.kn
  exact ne_of ka.ob e2 (by intro z; cases z)
theorem sb_nput {ky : PKey} {vl : PVal} {pp : Pos} (hx : SX C N sc fn k X) (nm : Nm N j x) (hv : Vis sc x) (cA : Cls C.K A) (nA : NoAttr C.K A "known") (he : ED X Z E O e (gV vl) R O) (hb : ED X Z E O b (gK ky) R2 O) (ho : (j, planP C A u ks, Rk) ∈ O) (hl : lookK ks.kn ky = none) (hz : ks.kn.length < 16000000) (hvl : vl.2.length < sizeLine)
    (hRn : (∀ r ∈ Rk, r ∈ Rn) ∧ (∀ r ∈ R, r ∈ Rn) ∧ (∀ r ∈ R2, r ∈ Rn) ∧ j + 1 ∈ Rn) (hbb : ∀ i, attributeBase (.Name x p) "known" (X i).env (eval (.Name x p) (X i).env) = eval (.Name x p) (X i).env)
    (hs : ∀ i, swapsWith e (some (.Subscript (.Attribute (.Name x p) "known" p2) b pp)) pos.line (X i).env = pure false)
    (kn : SB X Z B E (updC O j (planP C A u ⟨ks.ws, ks.ns, ks.kn ++ [(ky, vl)]⟩) Rn) rest q) : SB X Z B E O (.Assign [.Subscript (.Attribute (.Name x p) "known" p2) b pp] e pos :: rest) q := fun K hK D m ρ π σ H h =>
  wB_cons ⟨sNPut C.P C.w (tFld C.K (tVar j) "known") (wE X b) (wE X e), fun i => by rw [← hx.P i, ← hx.w i, ← hx.K i]; exact ps_nput (hx.room i).units (pe_fld (pe_nm hx nm hv i) (hbb i)) (pe_w b i) (pe_w e i) (hs i), he ρ π K σ H h _ fun v ρ1 π1 H1 h1 g1 r => by
    obtain ⟨e1, _, ka⟩ := plan_at h1 ho
    refine ⟨_, e1, u.p, A, u.dx, _, _, rfl, ka.ob, cA, nA, pF_known _, hb ρ1 π1 K σ H1 h1 _ fun v2 ρ2 π2 H2 h2 g2 r2 => ?_⟩
    obtain ⟨b2, rfl⟩ : ∃ b2, v2 = .ref b2 := by
      have := r2.1
      cases this with
      | tup _ _ _ => exact ⟨_, rfl⟩
    -- the new things get a colour
    have h3 := h2.paint (w := j + 1) (H := H) (Nat.succ_ne_zero _) fun a e => h.keep.free e
    obtain ⟨ρ3, hρ⟩ : ∃ ρ3, ρ3 = paint ρ2 π2 (j + 1) H H2 := ⟨_, rfl⟩
    rw [← hρ] at h3
    have rv : Fd (col ρ3 Rn) H2 v (gV vl) := r.1.cut fun a o ha e => by
      obtain ⟨e', hv'⟩ := vis_keep h1 g2 ha e
      refine ⟨e', ?_⟩
      obtain ⟨r', hr', c⟩ := vis_paint (w := j + 1) hv' e'
      rw [← hρ] at c
      rcases List.mem_cons.mp hr' with z | z
      · exact ⟨r', z ▸ hRn.2.2.2, c⟩
      · exact ⟨r', hRn.2.1 _ z, c⟩
    have rk : Fd (col ρ3 Rn) H2 (.ref b2) (gK ky) := r2.1.cut fun a o ha e => by
      refine ⟨e, ?_⟩
      obtain ⟨r', hr', c⟩ := vis_paint (w := j + 1) (vis_from g1 ha) e
      rw [← hρ] at c
      rcases List.mem_cons.mp hr' with z | z
      · exact ⟨r', z ▸ hRn.2.2.2, c⟩
      · exact ⟨r', hRn.2.2.1 _ z, c⟩
    obtain ⟨e3, ⟨p1, p2', p3⟩, ka3⟩ := plan_at h3 ho
    obtain ⟨ep, kvs, e4, n⟩ := ka3.kn
    have nln := n.length
    rw [List.length_map] at nln
    refine ⟨u.kd, ep, kvs, col ρ3 Rk, _, gK ky, b2, rfl, rfl, e4, n, keyAt_K rk, (by rw [look_K, hl]; rfl), by rw [sizeLine_eq]; omega, fun ep' => ?_⟩
    have off : ∀ R a o, col ρ3 R a → H2 a = some o → upd H2 u.kd (ndO C.P C.w u.kd ep' (kvs ++ [(nkD (gK ky), b2, v)])) a = some o := fun R a o ha e => by
      rw [upd_ne (fun z => by subst z; obtain ⟨r, _, c⟩ := ha; exact h3.dx r j _ c p2')]; exact e
    have sub : ∀ a, col ρ3 Rk a → col ρ3 Rn a := fun a ⟨r, hr, c⟩ => ⟨r, hRn.1 r hr, c⟩
    obtain ⟨h4, _⟩ := h3.objPut (P' := dumP) (A' := π2 j) (H' := upd H2 u.kd (ndO C.P C.w u.kd ep' (kvs ++ [(nkD (gK ky), b2, v)]))) e3 (fun a o hn e => by rw [upd_ne (fun z => hn (by rw [z]; exact p2'))]; exact e) (fun a h => .inl h) (fun a e => grow_upd a e) (fun a ha => by
      rcases p3 a ha with z | z
      · rw [z, upd_ne ka3.ne, ka3.ob]; exact fun z => nomatch z
      · rw [z, upd_same]; exact fun z => nomatch z) fun C => trivial
    have hpi : (fun s a => if s = j then π2 j a else π2 s a) = π2 := by
      funext s a
      by_cases c : s = j
      · rw [if_pos c, c]
      · rw [if_neg c]
    rw [hpi] at h4
    refine kn K hK D m _ _ _ _ (h4.objSet (Rn := Rn) (P' := planP C A u ⟨ks.ws, ks.ns, ks.kn ++ [(ky, vl)]⟩) e3 ⟨rfl, ⟨p1, p2', p3⟩, ?_⟩)
    refine ⟨by rw [upd_ne ka3.ne]; exact ka3.ob, ka3.ev.cut fun a o ha e => ⟨off _ a o ha e, sub a ha⟩, ka3.nu.cut fun a o ha e => ⟨off _ a o ha e, sub a ha⟩, ⟨ep', kvs ++ [(nkD (gK ky), b2, v)], upd_same, ?_⟩, ka3.wev, ka3.wnu, fun e he => ?_⟩
    · show NdA _ _ _ ((ks.kn ++ [(ky, vl)]).map fun e => (gK e.1, gV e.2))
      rw [List.map_append]
      exact (n.cut fun a o ha e => ⟨off _ a o ha e, sub a ha⟩).app (.cons rfl (ok_K ky) (dep_K ky) (rk.cut fun a o ha e => ⟨off _ a o ha e, ha⟩) (rv.cut fun a o ha e => ⟨off _ a o ha e, ha⟩) .nil)
    · rcases List.mem_append.mp he with he | he
      · exact ka3.wv e he
      · rw [List.mem_singleton.mp he]; exact hvl⟩
/-! methods of a plan -/
def offP (u : PA) (S : Addr → Prop) : Prop := ∀ a, S a → a ≠ u.p ∧ a ≠ u.kd
def spPM (C : Ctx) (A : Addr) (I : PSt → List PyData → PyData → PSt → Prop) : Sp := fun vs H Q _ => ∃ (u : PA) (ks : PSt) (rest : List V) (ds : List PyData) (d : PyData) (k' : PSt) (S B : Addr → Prop), vs = .ref u.p :: rest ∧ PlanAt C A S H u ks ∧ offP u S ∧ FdA B H rest ds ∧ offP u B ∧ wfA ds ∧ I ks ds d k' ∧
  ∀ v H', (∀ a o, a ≠ u.p → a ≠ u.kd → H a = some o → H' a = some o) → (∀ a, H' a = none → H a = none) → PlanAt C A (fun a => S a ∨ B a ∨ H a = none) H' u k' → Fd (fun a => S a ∨ B a ∨ H a = none) H' v d → wfD d → Q v H'
/-- behind a method -/
theorem plan_after {ρ π : Cols} {K : Held} {σ : L2.St} {H H1 H' : Hp} {ρ1 π1 : Cols} (h : Rel Z ρ π E O1 K σ H) (h1 : Rel Z ρ1 π1 E O K σ H1) (g1 : Go ρ π H ρ1 π1 H1) (ho : (j, planP C A u ks, Rk) ∈ O) {T : Addr → Prop} (hT : ∀ a, T a → col ρ1 Rk a ∨ vis ρ1 π1 R H a ∨ H1 a = none)
    (hk : ∀ a o, a ≠ u.p → a ≠ u.kd → H1 a = some o → H' a = some o) (live : ∀ a, H' a = none → H1 a = none) (ka : PlanAt C A T H' u k') (hRn : (∀ r ∈ Rk, r ∈ Rn) ∧ (∀ r ∈ R, r ∈ Rn) ∧ j + 1 ∈ Rn) :
    ∃ ρ', Rel Z ρ' π1 E (updC O j (planP C A u k') Rn) K σ H' ∧ Go ρ π H ρ' π1 H' ∧ ∀ a o, T a → H' a = some o → col ρ' Rn a := by
  obtain ⟨e1, ⟨p1, p2, p3⟩, k0⟩ := plan_at h1 ho
  obtain ⟨h2, g2⟩ := h1.objPut (P' := dumP) (A' := π1 j) (H' := H') e1 (fun a o hn e => hk a o (fun z => hn (z ▸ p1)) (fun z => hn (z ▸ p2)) e) (fun a h => .inl h) live (fun a ha => by
    rcases p3 a ha with z | z
    · rw [z, ka.ob]; exact fun z => nomatch z
    · obtain ⟨ep, kvs, e2, _⟩ := ka.kn
      rw [z, e2]; exact fun z => nomatch z) fun C => trivial
  have hpi : (fun s a => if s = j then π1 j a else π1 s a) = π1 := by
    funext s a
    by_cases c : s = j
    · rw [if_pos c, c]
    · rw [if_neg c]
  rw [hpi] at h2 g2
  have h3 := h2.paint (w := j + 1) (H := H) (Nat.succ_ne_zero _) fun a e => h.keep.free e
  have g3 : Go ρ π H (paint ρ1 π1 (j + 1) H H') π1 H' := (g1.trans g2).paint
  have key : ∀ a o, T a → H' a = some o → col (paint ρ1 π1 (j + 1) H H') Rn a := fun a o ha e => by
    rcases hT a ha with z | z | z
    · obtain ⟨r, hr, c⟩ := z
      exact ⟨r, hRn.1 r hr, .inl c⟩
    · obtain ⟨r', hr', c⟩ := vis_paint (w := j + 1) (H1 := H') z e
      · exact ⟨r', (List.mem_cons.mp hr').elim (fun z => z ▸ hRn.2.2) (hRn.2.1 r'), c⟩
    · obtain ⟨r', hr', c⟩ := vis_paint (w := j + 1) (R := R) (H1 := H') (vis_new h1 g1 z) e
      · exact ⟨r', (List.mem_cons.mp hr').elim (fun z => z ▸ hRn.2.2) (hRn.2.1 r'), c⟩
  exact ⟨_, h3.objSet (Rn := Rn) (P' := planP C A u k') e1 ⟨rfl, ⟨p1, p2, p3⟩, ka.cut ka.ob (fun o e => e) fun a o ha e => ⟨e, key a o ha e⟩⟩, g3, key⟩
/-- o.m(e, ..), o a plan at a name -/
theorem ee_pm {I : PSt → List PyData → PyData → PSt → Prop} {pl : J → Sem Bool} (hx : SX C N sc fn k X) (ok : OkM C A kk m ps (spPM C A I)) (hk : kk ≤ k) (cA : Cls C.K A) (nm : Nm N j x) (hv : Vis sc x) (ho : (j, planP C A u ks, Rk) ∈ O) (ha : EA X Z E O (e :: es) ds R O) (hI : wfA ds → I ks ds d k')
    (hRn : (∀ r ∈ Rk, r ∈ Rn) ∧ (∀ r ∈ R, r ∈ Rn) ∧ j + 1 ∈ Rn) (n1 : (m == "every") = false) (n2 : (m == "numbers") = false) (n3 : (m == "known") = false)
    (hst : ∀ i, starEach (e :: es) (X i).env = (false, eval e (X i).env) :: starEach es (X i).env) (hpl : ∀ i, (backTo pos (starEach es (X i).env)).any (·.1) = false)
    (ht : ∀ i, eval (.Call (.Attribute (.Name x p) m apos) (e :: es) [] pos) (X i).env = (do
      let ov ← eval (.Name x p) (X i).env
      standAt apos.atName
      let (f, first) ← holding [ov] (getMethod ov m (pl i))
      callWith pos f first (backTo pos (starEach (e :: es) (X i).env)) (backToKw pos (keywordEach [] (X i).env)))) :
    ED X Z E O (.Call (.Attribute (.Name x p) m apos) (e :: es) [] pos) d Rn (updC O j (planP C A u k') Rn) := fun ρ π K σ H h Q qq => by
  obtain ⟨f, fd, hm, hb, G⟩ := ok.ex
  obtain ⟨e1, _, ka⟩ := plan_at h ho
  refine ⟨tMeth A m (spPM C A I) [] E0 (tVar j) (wA X (e :: es)), fun i => pe_meth (CX := CX0) (ds := []) (f := f) (fd := fd) (ps := ps) (k := kk) (pl := pl i) (pe_nm hx nm hv i) (by rw [hx.K i]; exact cA) (by rw [hx.K i]; exact hm) (by rw [hx.P i, hx.w i, hx.K i, hx.mg i, hx.base i]; exact G) ((hx.room i).mono hk) (by rw [hx.K i]; exact hb) .nil pass0 (pa_w (e :: es) i) (hst i) (hpl i) (ht i), _, e1, u.p, u.dx, _, rfl, ka.ob, pF_no _ n1 n2 n3, ha ρ π K σ H h _ fun vs ρ1 π1 H1 h1 g1 rs ws => ?_⟩
  rw [List.append_nil]
  obtain ⟨e2, ⟨p1, p2, p3⟩, ka1⟩ := plan_at h1 ho
  have o1 : offP u (col ρ1 Rk) := fun a ⟨r, _, c⟩ => ⟨fun z => h1.dx r j a c (z ▸ p1), fun z => h1.dx r j a c (z ▸ p2)⟩
  have o2 : offP u (vis ρ1 π1 R H) := fun a ha => by
    rcases ha with ⟨r, _, c⟩ | ⟨_, _, c⟩
    · exact ⟨fun z => h1.dx r j a c (z ▸ p1), fun z => h1.dx r j a c (z ▸ p2)⟩
    · exact ⟨fun z => c j (z ▸ p1), fun z => c j (z ▸ p2)⟩
  refine ⟨u, ks, vs, ds, d, k', col ρ1 Rk, vis ρ1 π1 R H, rfl, ka1, o1, rs, o2, ws, hI ws, fun v H' hk2 live k2 rv w => ?_⟩
  obtain ⟨ρ2, r2, g2, key⟩ := plan_after (R := R) h h1 g1 ho (fun a h => h) hk2 live k2 hRn
  exact qq v ρ2 π1 H' r2 g2 ⟨rv.cut fun a o ha e => ⟨e, .inl (key a o ha e)⟩, w⟩
end
section
variable {C : Ctx} {N ps : List Str} {x qual : Str} {st : Stmt} {kk : Nat} {A : Addr}
theorem ok_PM {I : PSt → List PyData → PyData → PSt → Prop} (d : MethAt C.K A x qual st ps) (S : FnScope N ps (defScope st)) (hps : ps.length ≤ N.length) (len : ∀ ks ds r k', I ks ds r k' → ds.length + 1 = ps.length)
    (body : ∀ X : Unit → Cx, SX C N (defScope st) (fun _ => true) kk X → ∀ ks ds r k', I ks ds r k' → wfA ds → ∀ Z u, SB X Z allB (cellsB N ds) [(0, planP C A u ks, [0])] (defBody st) { nx := fun _ O => False, rt := fun P R _ O => P = dP r ∧ R.contains 4242 = false ∧ ∃ Ro, Ro.contains 4242 = false ∧ O = [(0, planP C A u k', Ro)] }) :
    OkM C A (kk + 1) x ps (spPM C A I) := by
  refine ok_meth d S (fun vs H Q E h => ?_) fun X hx vs H Q E h => ?_
  · obtain ⟨u, ks, rest, ds, r, k', S, B, rfl, _, _, hd, _, _, hi, _⟩ := h
    rw [List.length_cons, hd.length, len ks ds r k' hi]
  · obtain ⟨u, ks, rest, ds, r, k', Sp, Bp, rfl, ka, oS, hd, oB, hw, hi, qq⟩ := h
    have hv := hd.length
    have hN : ds.length + 1 ≤ N.length := by rw [len ks ds r k' hi]; exact hps
    classical
    obtain ⟨F, hF⟩ : ∃ F : Hp, F = fun a => if Sp a ∨ Bp a then H a else none := ⟨_, rfl⟩
    have f1 : ∀ a, (Sp a ∨ Bp a) → F a = H a := fun a h => by rw [hF]; exact if_pos h
    have f2 : ∀ a, ¬(Sp a ∨ Bp a) → F a = none := fun a h => by rw [hF]; exact if_neg h
    have fS : Same F H := fun a o e => by
      by_cases c : Sp a ∨ Bp a
      · rw [f1 a c] at e; exact e
      · rw [f2 a c] at e; cases e
    have off : ∀ a, (Sp a ∨ Bp a) → a ≠ u.p ∧ a ≠ u.kd := fun a h => h.elim (oS a) (oB a)
    have fn0 : ∀ a, F a ≠ none → (Sp a ∨ Bp a) ∧ H a ≠ none := fun a h => by
      by_cases c : Sp a ∨ Bp a
      · exact ⟨c, by rw [← f1 a c]; exact h⟩
      · exact absurd (f2 a c) h
    have hp := ka.ob
    obtain ⟨ep0, kvs0, hkd, _⟩ := ka.kn
    have r0 : Rel F (fun r a => (r = 0 ∧ F a ≠ none) ∨ (r = 4242 ∧ F a = none ∧ H a ≠ none ∧ a ≠ u.p ∧ a ≠ u.kd)) (fun s a => s = 0 ∧ (a = u.p ∨ a = u.kd)) (cellsB N ds) [(0, planP C A u ks, [0])] [(.non, keepP (minus H u.p u.kd), [0, 4242])] (L2.start N (.ref u.p :: rest)) H := {
      cell := fun i P R e => by
        obtain ⟨j, d, rfl, hd1, rfl, rfl⟩ := cellsB_get e
        obtain ⟨v, e1, rv⟩ := hd.get hd1
        exact ⟨v, start_get (vs := .ref u.p :: rest) (i := j + 1) e1, dP_rOf (rv.cut fun a o ha e => ⟨e, 0, List.mem_singleton.mpr rfl, .inl ⟨rfl, by rw [f1 a (.inr ha), e]; exact fun z => nomatch z⟩⟩) (wfA_iff.mp hw d (List.mem_of_getElem? hd1))⟩
      obj := fun o ho => by
        have e : o = (0, planP C A u ks, [0]) := by simpa using ho
        subst e
        exact ⟨.ref u.p, start_get (vs := .ref u.p :: rest) (i := 0) rfl, rfl, ⟨⟨rfl, .inl rfl⟩, ⟨rfl, .inr rfl⟩, fun a h => h.2⟩, ka.cut ka.ob (fun o e => e) fun a o ha e => ⟨e, 0, List.mem_singleton.mpr rfl, .inl ⟨rfl, by rw [f1 a (.inl ha), e]; exact fun z => nomatch z⟩⟩⟩
      held := fun k hk => by
        have e : k = (.non, keepP (minus H u.p u.kd), [0, 4242]) := by simpa using hk
        subst e
        refine fun a o e => ⟨minus_sub _ _ e, ?_⟩
        by_cases c : F a = none
        · refine ⟨4242, by simp, .inr ⟨rfl, c, (by rw [minus_sub _ _ e]; exact fun z => nomatch z), fun z => ?_, fun z => ?_⟩⟩
          · rw [z] at e; unfold minus at e; rw [if_pos (.inl rfl)] at e; cases e
          · rw [z] at e; unfold minus at e; rw [if_pos (.inr rfl)] at e; cases e
        · exact ⟨0, by simp, .inl ⟨rfl, c⟩⟩
      len := by rw [cellsB_len hN, start_len (by rw [List.length_cons]; omega)]
      dj := fun r s a h1 h2 => by
        rcases h1 with ⟨e1, h1⟩ | ⟨e1, h1, _⟩ <;> rcases h2 with ⟨e2, h2⟩ | ⟨e2, h2, _⟩
        · rw [e1, e2]
        · exact absurd h2 h1
        · exact absurd h1 h2
        · rw [e1, e2]
      dp := fun r s a h1 h2 => h1.1.trans h2.1.symm
      dx := fun r s a h1 h2 => by
        have hne : a ≠ u.p ∧ a ≠ u.kd := by
          rcases h1 with ⟨_, h1⟩ | ⟨_, _, _, h1⟩
          · exact off a (fn0 a h1).1
          · exact h1
        exact h2.2.elim hne.1 hne.2
      lr := fun r a h e => by
        rcases h with ⟨_, h⟩ | ⟨_, _, h, _⟩
        · exact (fn0 a h).2 e
        · exact h e
      lp := fun r a h e => by
        rcases h.2 with c | c
        · subst c; rw [hp] at e; cases e
        · subst c; rw [hkd] at e; cases e
      keep := fS
      zr := fun r a h hr => by
        rcases h with ⟨e, _⟩ | ⟨_, e, _⟩
        · exact absurd e hr
        · exact e
      zp := fun r a h => f2 a fun c => by
        obtain ⟨n1, n2⟩ := off a c
        exact h.2.elim n1 n2
      z0 := fun a h => by
        rcases h with ⟨_, h⟩ | ⟨e, _⟩
        · exact h
        · exact absurd e (by decide) }
    refine wB_nonx (body X hx ks ds r k' hi hw F u _ (fun k hk => by
      have e : k = (.non, keepP (minus H u.p u.kd), [0, 4242]) := by simpa using hk
      subst e
      intro r hr
      have : r = 0 ∨ r = 4242 := by simpa using hr
      rcases this with e | e <;> subst e <;> rfl) _ ⟨?_, ?_, ?_, ?_⟩ _ _ _ H r0)
    · exact fun σ H ρ π E O x _ => x
    · rintro v σ H1 ρ π E O P' R ⟨rfl, h42, Ro, h42o, rfl⟩ rr rv
      have kp := rr.held _ List.mem_cons_self
      obtain ⟨_, ⟨p1, p2, p3⟩, k1⟩ := plan_at rr (List.mem_cons_self)
      obtain ⟨ep1, kvs1, hkd1, _⟩ := k1.kn
      have kpH : ∀ a o, a ≠ u.p → a ≠ u.kd → H a = some o → H1 a = some o ∧ col ρ [0, 4242] a := fun a o n1 n2 e => kp a o (by rw [minus_at n1 n2]; exact e)
      have live : ∀ a, H1 a = none → H a = none := fun a e => by
        by_cases c1 : a = u.p
        · rw [c1, k1.ob] at e; cases e
        · by_cases c2 : a = u.kd
          · rw [c2, hkd1] at e; cases e
          · cases hh : H a with
            | none => rfl
            | some o => rw [(kpH a o c1 c2 hh).1] at e; cases e
      have key : ∀ (R : List Nat), R.contains 4242 = false → ∀ a, (col ρ R a ∨ (F a = none ∧ (∀ r, ¬ρ r a) ∧ ∀ s, ¬π s a)) → Sp a ∨ Bp a ∨ H a = none := fun R h42 a ha => by
        have h42 : 4242 ∉ R := by simpa using h42
        by_cases cF : F a = none
        · refine .inr (.inr (Classical.byContradiction fun cH => ?_))
          have nb : a ≠ u.p := fun z => by
            rcases ha with ⟨r, _, c⟩ | ⟨_, _, c⟩
            · exact rr.dx r 0 a c (z ▸ p1)
            · exact c 0 (z ▸ p1)
          have nl : a ≠ u.kd := fun z => by
            rcases ha with ⟨r, _, c⟩ | ⟨_, _, c⟩
            · exact rr.dx r 0 a c (z ▸ p2)
            · exact c 0 (z ▸ p2)
          obtain ⟨o, ho⟩ := Option.ne_none_iff_exists'.mp cH
          obtain ⟨_, r2, hr2, c2⟩ := kpH a o nb nl ho
          rcases ha with ⟨r, hr, c⟩ | ⟨_, c, _⟩
          · have : r = r2 := rr.dj r r2 a c c2
            subst this
            have h0 : r = 0 ∨ r = 4242 := by simpa using hr2
            rcases h0 with e | e
            · subst e; exact rr.z0 a c cF
            · subst e; exact h42 hr
          · exact c r2 c2
        · exact (fn0 a cF).1.elim .inl fun z => .inr (.inl z)
      exact qq v H1 (fun a o n1 n2 e => (kpH a o n1 n2 e).1) live (k1.cut k1.ob (fun o e => e) fun a o ha e => ⟨e, key Ro h42o a (.inl ha)⟩) (rv.1.cut fun a o ha e => ⟨e, key R h42 a ha⟩) rv.2
    · exact fun σ H ρ π E O x _ => x
    · exact fun σ H ρ π E O x _ => x
end
end G

namespace G
open PySem PySem.Spec PyProof.Rows L2
/-! ### the making of a plan -/
def spPInit (C : Ctx) (A : Addr) : Sp := fun vs H Q _ => ∃ (p dx wa na : Addr), vs = [.ref p, .ref wa, .ref na] ∧ H p = some (.ins A dx []) ∧
  ∀ (kd : Addr) (ep : Nat) (H' : Hp), H kd = none → H' p = some (.ins A dx (pF ⟨p, dx, kd, wa, na⟩)) → H' kd = some (ndO C.P C.w kd ep []) → (∀ b o, H b = some o → b ≠ p → H' b = some o) → Q .non H'
section
variable {C : Ctx} {N : List Str} {sc : Scope} {fn : Str → Bool} {k : Nat} {J : Type} {X : J → Cx}
variable {Z : Hp} {B : Nat → Bool} {E E' : List Cell} {O O1 O2 O3 O' : List Ob} {e e1 e2 a b c tg it : Expr} {es ifs : List Expr} {P : OP} {R R1 R2 R3 R' Ri Re Rk Rn R0 : List Nat} {d d0 d1 d2 d3 : PyData} {ds es1 src : List PyData} {pos p p2 pos' apos cpos tp : Pos} {body rest : List Stmt} {q : Po} {w : Nat} {x m : Str} {j kk : Nat} {A : Addr} {u : PA} {ks k' : PSt} {ps : List Str}
theorem Rel.objSet2 {ρ π : Cols} {K : Held} {σ : L2.St} {H : Hp} {P P' : OQ} {v : V} (h : Rel Z ρ π E (O ++ [(j, P, R0)]) K σ H) (hsl : σ[j]? = some (some v)) (hp : P'.p v (π j) (col ρ Rn) H) : Rel Z ρ π E (O ++ [(j, P', Rn)]) K σ H := {
  cell := h.cell
  obj := fun o ho => by
    rcases List.mem_append.mp ho with ho | ho
    · exact h.obj o (List.mem_append_left _ ho)
    · have e : o = (j, P', Rn) := by simpa using ho
      subst e
      exact ⟨v, hsl, hp⟩
  held := h.held
  len := h.len
  dj := h.dj
  dp := h.dp
  dx := h.dx
  lr := h.lr
  lp := h.lp
  keep := h.keep
  zr := h.zr
  zp := h.zp
  z0 := h.z0 }
/-- x = Plan(words, numbers) -/
theorem sb_makeP {cn : Str} {pz : Pos} {ws : List (List Nat)} {ns : List Nat} (hx : SX C N sc fn k X) (ok : OkI C A kk ps (spPInit C A)) (hk : kk + 1 ≤ k) (hg : Gb sc cn) (hm : C.mg cn = some (.ref A)) (nm : Nm N j x) (hl : Loc sc x) (hf : fn x = true ∨ sc.names.lookup x = some .local) (hj : j < E.length)
    (ha : EA X Z E O [e1, e2] [.list (ws.map dS), .list (ns.map gN)] R O1) (hO : noOb O1 [j] = true) (hRn : (∀ r ∈ R, r ∈ Rn) ∧ j + 1 ∈ Rn) (hsw : ∀ i, swapsWith (.Call (.Name cn p) [e1, e2] [] pos) (some (.Name x pz)) pos'.line (X i).env = pure false) (hdb : (cn == ("__debug__" : Str)) = false)
    (he : ∀ i, starEach [e1, e2] (X i).env = (false, eval e1 (X i).env) :: starEach [e2] (X i).env) (hpl : ∀ i, (backTo pos (starEach [e2] (X i).env)).any (·.1) = false)
    (kn : ∀ u, SB X Z B (E.set j none) (O1 ++ [(j, planP C A u ⟨ws, ns, []⟩, Rn)]) rest q) : SB X Z B E O (.Assign [.Name x pz] (.Call (.Name cn p) [e1, e2] [] pos) pos' :: rest) q := fun K hK D m ρ π σ H h => by
  obtain ⟨f, fd, hmk, hb, G⟩ := ok.ex
  refine wB_cons ⟨_, fun i => ps_set (by rw [hx.Nx i]; exact hx.nd) (by rw [hx.Nx i]; exact nm.at_) (by rw [hx.scx i]; exact hl) (pe_make (E := E0) (dvs := []) (ds := []) (CX := CX0) (C := A) (sp := spPInit C A) (by rw [hx.K i]; exact hmk) (by rw [hx.P i, hx.w i, hx.K i, hx.mg i, hx.base i]; exact G) ((hx.room i).mono hk) (gl_of hx hg i) (by rw [hx.mg i]; exact hm) (by rw [hx.K i]; exact hb) .nil pass0 (pa_w [e1, e2] i) hdb (he i) (hpl i)) (hsw i) (hf.elim (fun h => .inl (hx.fnx i _ h)) (fun h => .inr (by rw [hx.scx i]; exact h))), ?_⟩
  refine ha ρ π K σ H h _ fun vs ρ1 π1 H1 h1 g1 rs wds => ?_
  obtain ⟨v1, v2, rfl, r1, r2⟩ := rs.two
  obtain ⟨wa, rfl⟩ : ∃ a, v1 = .ref a := by cases r1 with | lst _ _ _ => exact ⟨_, rfl⟩
  obtain ⟨na, rfl⟩ : ∃ a, v2 = .ref a := by cases r2 with | lst _ _ _ => exact ⟨_, rfl⟩
  intro x' dx nx ndx nex
  refine ⟨x', dx, wa, na, rfl, upd_same, fun kd ep H' n1 o1 o2 kp => ⟨rfl, ?_⟩⟩
  have s0 : Same H1 (upd (upd H1 dx (.own x')) x' (.ins A dx [])) := fun b o e => by
    rw [upd_ne (ne_of_none e nx), upd_ne (ne_of_none e ndx)]; exact e
  have s1 : Same H1 H' := fun b o e => kp b o (s0 b o e) (ne_of_none e nx)
  have hkd : H1 kd = none := s0.free n1
  have h2 := h1.objNew (A' := fun a => a = x' ∨ a = kd) (v := .ref x') (P' := dumP) hO s1 (by rw [← h1.len]; exact hj) (fun a ha => by
    rcases ha with e | e
    · rw [e]; exact nx
    · rw [e]; exact hkd) (fun a ha => by
    rcases ha with e | e
    · rw [e, o1]; exact fun z => nomatch z
    · rw [e, o2]; exact fun z => nomatch z) fun C => trivial
  have h3 := h2.paint (w := j + 1) (H := H) (Nat.succ_ne_zero _) fun a e => h.keep.free e
  have hsl : (σ.set j (some (V.ref x')))[j]? = some (some (.ref x')) := by rw [List.getElem?_set, if_pos rfl, if_pos (by rw [← h1.len]; exact hj)]
  have cut : ∀ a o, vis ρ1 π1 R H a → H1 a = some o → H' a = some o ∧ col (paint ρ1 (fun s a => if s = j then a = x' ∨ a = kd else π1 s a) (j + 1) H H') Rn a := fun a o ha e => by
    refine ⟨s1 a o e, ?_⟩
    have ha' : vis ρ1 (fun s a => if s = j then a = x' ∨ a = kd else π1 s a) R H a := by
      rcases ha with c | ⟨n, c1, c2⟩
      · exact .inl c
      · refine .inr ⟨n, c1, fun s z => ?_⟩
        have z : if s = j then a = x' ∨ a = kd else π1 s a := z
        split at z
        · rcases z with z | z
          · rw [z, nx] at e; cases e
          · rw [z, hkd] at e; cases e
        · exact c2 s z
    obtain ⟨r', hr', c⟩ := vis_paint (w := j + 1) (H1 := H') ha' (s1 a o e)
    exact ⟨r', (List.mem_cons.mp hr').elim (fun z => z ▸ hRn.2) (hRn.1 r'), c⟩
  refine kn ⟨x', dx, kd, wa, na⟩ K hK D m _ _ _ H' (h3.objSet2 (P' := planP C A ⟨x', dx, kd, wa, na⟩ ⟨ws, ns, []⟩) hsl ⟨rfl, ⟨?_, ?_, fun a ha => ?_⟩, o1, r1.cut cut, r2.cut cut, ⟨ep, [], o2, .nil⟩, wds.1, ?_, fun e he => absurd he (by simp)⟩)
  · show if j = j then _ else _
    rw [if_pos rfl]; exact .inl rfl
  · show if j = j then _ else _
    rw [if_pos rfl]; exact .inr rfl
  · have ha : if j = j then a = x' ∨ a = kd else π1 j a := ha
    rw [if_pos rfl] at ha; exact ha
  · have := wds.2.1.1
    rwa [List.length_map] at this
end
end G

namespace G
open PySem PySem.Spec PyProof.Rows L2
section
variable {J : Type} {X : J → Cx} {Z : Hp} {B : Nat → Bool} {E : List Cell} {O : List Ob} {R R' : List Nat} {P : OQ} {j : Nat} {q : Po} {sts : List Stmt}
theorem Rel.wide {ρ π : Cols} {K : Held} {σ : L2.St} {H : Hp} (h : Rel Z ρ π E ((j, P, R) :: O) K σ H) (hs : ∀ r ∈ R, r ∈ R') : Rel Z ρ π E ((j, P, R') :: O) K σ H := {
  cell := h.cell
  obj := fun o ho => by
    rcases List.mem_cons.mp ho with e | ho
    · subst e
      obtain ⟨v, e, q⟩ := h.obj _ List.mem_cons_self
      exact ⟨v, e, P.loc (fun _ _ _ e => e) (fun a o ⟨r, hr, c⟩ e => ⟨e, r, hs r hr, c⟩) q⟩
    · exact h.obj o (List.mem_cons_of_mem _ ho)
  held := h.held
  len := h.len
  dj := h.dj
  dp := h.dp
  dx := h.dx
  lr := h.lr
  lp := h.lp
  keep := h.keep
  zr := h.zr
  zp := h.zp
  z0 := h.z0 }
theorem sb_wide (hs : ∀ r ∈ R, r ∈ R') (k : SB X Z B E ((j, P, R') :: O) sts q) : SB X Z B E ((j, P, R) :: O) sts q := fun K hK D m ρ π σ H h => k K hK D m ρ π σ H (h.wide hs)
end
end G

namespace G
open PySem PySem.Spec PyProof.Rows L2
theorem getD_tx (w : List Nat) (i : Nat) : (tx w).cps.getD i 0 = w.getD i 0 := by
  show w.toArray.getD i 0 = _
  rw [Array.getD_eq_getD_getElem?, List.getD_eq_getElem?_getD]
  simp
theorem rev_tx (w : List Nat) (u : Tok) : Txt.sliceBy (tx w) none none (-1, u) = tx w.reverse := by
  refine TL.ext_tl ?_
  show (Txt.sliceBy (tx w) none none (-1, u)).cps.toList = w.reverse.toArray.toList
  rw [step_rev_list, List.toList_toArray, tx_len]
  refine List.ext_getElem (by simp) fun i h1 h2 => ?_
  rw [List.getElem_map, List.getElem_range, List.getElem_reverse, getD_tx, List.getD_eq_getElem?_getD, List.getElem?_eq_getElem (by simp at h1; omega)]
  rfl
def tRevS (te : TE) : TE := fun σ H Q => te σ H fun x H1 => ∃ a : List Nat, x = .str (tx a) ∧ a.length ≤ sizeLine ∧ Q (.str (tx a.reverse)) H1
theorem pe_revS {X : Cx} {e : Expr} {te : TE} {k : Nat} {p1 p2 p3 pos : Pos} (he : PE X e te) (ht : ∀ o r, letTemporaryGo e o r = pure ()) : PE X (.Subscript e (.Slice none none (some (.UnaryOp .USub (.Constant (.int 1) k p1) p2)) p3) pos) (tRevS te) := by
  refine ⟨fun pins s σ H Q I h => ?_⟩
  refine Subscript_ (thn (he.run pins s σ H _ I h) fun v s1 ⟨x, H1, I1, r1, q1⟩ => ?_)
  obtain ⟨a, rfl, hz, q⟩ := q1
  obtain ⟨t, rfl⟩ := r1
  have hst : PO X (some (.UnaryOp .USub (.Constant (.int 1) k p1) p2)) (tPart (tUn (rU fun i => .int (-i)) (tC (.int 1)))) := po_some (pe_un un_neg pe_int)
  refine wpAny_Slice (thn (po_none.run pins s1 σ H1 (fun o H2 => o = none ∧ H2 = H1) I1 ⟨rfl, rfl⟩) fun vl s2 ⟨l, H2, I2, pl, el, e2⟩ => ?_)
  subst el e2
  refine thn (po_none.run pins s2 σ H2 (fun o H3 => o = none ∧ H3 = H2) I2 ⟨rfl, rfl⟩) fun vu s3 ⟨u, H3, I3, pu, eu, e3⟩ => ?_
  subst eu e3
  refine thn (hst.run pins s3 σ H3 (fun o H4 => o = some (-1) ∧ H4 = H3) I3 ⟨1, rfl, -1, rfl, rfl, rfl⟩) fun vs s4 ⟨o, H4, I4, ps, eo, e4⟩ => ?_
  subst eo e4
  have I5 : Inv X pins σ H4 { s4 with heap := s4.heap.push { cls := .type "slice", data := .fields #[vl, vu, vs] } } := I4.kept (t' := s4.toks) fun b ob q => Heap.get?_push_of_some _ q
  cases pl
  cases pu
  obtain ⟨uk, rfl⟩ : ∃ uk, vs = .int (-1) uk := by cases ps; exact ⟨_, rfl⟩
  refine tail_of_ItemOn (ops := [.ref s4.heap.objs.size, .str (tx a) t]) ⟨"str", _, PySem.F.slot_str_getitem.lookup, typeIs_str _ _ _, wpAny_getItem_str_slice (l := none) (u := none) (st := some (-1, uk)) ⟨_, Heap.get?_push_size _ rfl, rfl, rfl⟩ rfl
    (post_val_or_str ⟨Nat.le_trans (Txt.sliceBy_le (tx a) none none (-1, uk) (fun h : (-1 : Int) = 0 => nomatch h)) (by rw [tx_len]; exact hz), fun t' c => ?_⟩)⟩ (by with_unfolding_all rfl) (ht _)
  refine ⟨.str (tx a.reverse), _, I5.tok c, ⟨t', ?_⟩, q⟩
  exact congrArg (fun z => Value.str z t') (rev_tx a uk)
section
variable {C : Ctx} {N : List Str} {sc : Scope} {fn : Str → Bool} {k : Nat} {J : Type} {X : J → Cx}
variable {Z : Hp} {E E' : List Cell} {O O1 O2 O3 O' : List Ob} {e a b c : Expr} {es : List Expr} {P : OP} {R R1 R2 R3 R' : List Nat} {d d1 d2 d3 : PyData} {ds : List PyData} {pos p p1 p2 p3 pos' : Pos}
theorem ee_revS {kk : Nat} {w : List Nat} (ha : ED X Z E O a (dS w) R O1) (ht : ∀ o r, letTemporaryGo a o r = pure ()) : ED X Z E O (.Subscript a (.Slice none none (some (.UnaryOp .USub (.Constant (.int 1) kk p1) p2)) p3) pos) (dS w.reverse) [] O1 := fun ρ π K σ H h Q q =>
  ⟨_, fun n => pe_revS (pe_w a n) ht, ha ρ π K σ H h _ fun v1 ρ1 π1 H1 h1 g1 r1 => by
    have w1 := r1.2.s
    cases r1.1
    exact ⟨w, rfl, by rw [sizeLine_eq] at w1 ⊢; exact w1.2, q _ ρ1 π1 H1 h1 g1 ⟨.str _, wfD.mkS (fun c hc => w1.1 c (List.mem_reverse.mp hc)) (by rw [List.length_reverse]; exact w1.2)⟩⟩⟩
theorem ee_sindex {apos : Pos} {u w : List Nat} {i : Nat} {rest : List Nat} (ha : ED X Z E O a (dS u) R1 O1) (hb : ED X Z E O1 b (dS w) R2 O2) (ho : Builtin.Str.occurrences (tx u) (tx w) 0 (tx u).length 1 = i :: rest)
    (hs : ∀ i, starEach [b] (X i).env = [(false, eval b (X i).env)]) (hbase : ∀ i, attributeBase a "index" (X i).env (eval a (X i).env) = eval a (X i).env) (hline : (apos.endLine == pos.line) = true) :
    ED X Z E O (.Call (.Attribute a "index" apos) [b] [] pos) (.int (i : Nat)) [] O2 :=
  ee_m1 PySem.F.slot_str_index PySem.F.type_str_index (fun _ => mt_sindex) ha hb ⟨_, rfl⟩ (fun _ _ => ⟨trivial, fun v u H A r1 r2 Q q => by cases r1; cases r2; exact ⟨_, _, i, rest, rfl, rfl, ho, q _ H (Same.refl _) (.int _)⟩⟩) hs hbase hline
theorem ee_join0 {apos : Pos} {ws : List (List Nat)} (hx : SX C N sc fn k X) (ha : ED X Z E O a (dS []) R1 O1) (hb : ED X Z E O1 b (.list (ws.map dS)) R2 O2) (hz : (ws.map (·.length)).sum ≤ 16777216) (hw : wfD (dS ws.flatten))
    (hs : ∀ i, starEach [b] (X i).env = [(false, eval b (X i).env)]) (hbase : ∀ i, attributeBase a "join" (X i).env (eval a (X i).env) = eval a (X i).env) (hline : (apos.endLine == pos.line) = true) :
    ED X Z E O (.Call (.Attribute a "join" apos) [b] [] pos) (dS ws.flatten) [] O2 :=
  ee_m1 PySem.F.slot_str_join PySem.F.type_str_join (r := rJoin C.K) (fun i => by rw [← hx.K i]; exact mt_join) ha hb ⟨_, rfl⟩ (fun _ _ => ⟨hw, fun v u H A r1 r2 Q q => by
    cases r1
    cases r2 with
    | lst _ e1 q1 =>
      have q2 := FdA.toStrs (ns := ws.map tx) (by rw [List.map_map]; exact q1)
      rw [q2] at e1
      refine ⟨_, _, ws.map tx, rfl, rfl, .inl (SqL.of e1), ?_, ?_⟩
      · have z : (tx []).length = 0 := rfl
        rw [z, Nat.mul_zero, Nat.add_zero, List.map_map]
        have : ((fun x => x.length) ∘ tx) = fun w : List Nat => w.length := by funext w; exact tx_len w
        rw [this]
        exact hz
      · rw [TL.join_eq, join_empty]
        exact q _ H (Same.refl _) (.str _)⟩) hs hbase hline
end
end G

namespace G
/-! ### words -/
def smallL : List Nat := [97, 98, 99, 100, 101, 102, 103, 104, 105, 106, 107, 108, 109, 110, 111, 112, 113, 114, 115, 116, 117, 118, 119, 120, 121, 122]
def goodM (w : List Nat) : Prop := 1 ≤ w.length ∧ w.length ≤ 12 ∧ ∀ c ∈ w, c ∈ smallL
instance (w : List Nat) : Decidable (goodM w) := inferInstanceAs (Decidable (_ ∧ _ ∧ _))
def isWordM (w : List Nat) : Bool := decide (goodM w)
theorem lit_small : (PySem.Str.ofString "abcdefghijklmnopqrstuvwxyz").cps.toList = smallL := by decide +kernel
theorem goodM.ok {w : List Nat} (h : goodM w) : okW w := fun c hc => by
  have := h.2.2 c hc
  revert this
  simp only [smallL, List.mem_cons, List.not_mem_nil, or_false]
  omega
theorem isWord_eq (w : List Nat) : ((decide ((1 : Int) ≤ (w.length : Int)) && decide ((w.length : Int) ≤ 12)) && ((w.filter fun a => !(smallL.contains a)).map fun a => dS [a]).isEmpty) = isWordM w := by
  have e : isWordM w = decide (1 ≤ w.length ∧ w.length ≤ 12 ∧ ∀ c ∈ w, c ∈ smallL) := by
    unfold isWordM
    exact decide_eq_decide.mpr Iff.rfl
  rw [e, Bool.eq_iff_iff]
  simp only [Bool.and_eq_true, decide_eq_true_eq, List.isEmpty_iff, List.map_eq_nil_iff, List.filter_eq_nil_iff, Bool.not_eq_true', List.contains_eq_mem, decide_eq_false_iff_not, Classical.not_not]
  constructor
  · intro q; exact ⟨by have := q.1.1; omega, by have := q.1.2; omega, fun c hc => q.2 c hc⟩
  · intro q; exact ⟨⟨by have := q.1; omega, by have := q.2.1; omega⟩, fun c hc => q.2.2 c hc⟩
theorem dropGetD (l : List Nat) (k p : Nat) : (l.drop k).getD p default = l.getD (k + p) default := by
  rw [List.getD_eq_getElem?_getD, List.getElem?_drop, List.getD_eq_getElem?_getD]
theorem one_beq (a b : Nat) : ([a] == [b]) = (a == b) := by
  rw [Bool.eq_iff_iff]; simp
end G

namespace G
/-! ### overlaps -/
def fitsM (one other : List Nat) (m : Nat) : Bool := one.drop (one.length - m) == other.take m
/-- the greatest below n that fits, 0 for none -/
def farG (one other : List Nat) : Nat → Nat
  | 0 => 0
  | n + 1 => if fitsM one other n = true then n else farG one other n
def farM (one other : List Nat) : Nat := farG one other (min one.length other.length)
theorem fits0 (one other : List Nat) : fitsM one other 0 = true := by
  unfold fitsM
  simp
theorem farG_fits (one other : List Nat) : ∀ n, fitsM one other (farG one other n) = true
  | 0 => fits0 one other
  | n + 1 => by
    unfold farG
    split
    · assumption
    · exact farG_fits one other n
theorem farG_lt (one other : List Nat) : ∀ n, 0 < n → farG one other n < n
  | 0, h => absurd h (by omega)
  | n + 1, _ => by
    unfold farG
    split
    · omega
    · by_cases c : n = 0
      · subst c; show 0 < 1; omega
      · have := farG_lt one other n (by omega); omega
theorem farG_max (one other : List Nat) : ∀ n m, m < n → fitsM one other m = true → m ≤ farG one other n
  | 0, m, h, _ => absurd h (by omega)
  | n + 1, m, h, hf => by
    unfold farG
    split
    · omega
    · rename_i hn
      by_cases c : m = n
      · subst c; exact absurd hf hn
      · exact farG_max one other n m (by omega) hf
theorem farM_lt {one other : List Nat} (h : 1 ≤ one.length) (h2 : 1 ≤ other.length) : farM one other < min one.length other.length := farG_lt _ _ _ (by omega)
theorem farM_le (one other : List Nat) : farM one other ≤ min one.length other.length := by
  by_cases c : 0 < min one.length other.length
  · exact Nat.le_of_lt (farG_lt _ _ _ c)
  · have : min one.length other.length = 0 := by omega
    unfold farM; rw [this]; exact Nat.le_refl _
theorem far_list {one other : List Nat} (h : 1 ≤ one.length) (h2 : 1 ≤ other.length) {n : Nat} (hn : n = min one.length other.length) {p : Nat → Bool} (hp : ∀ a, a < n → p a = fitsM one other a) :
    ((farM one other : Nat) : Int) ∈ ((List.range n).filter p).map (fun a : Nat => (a : Int)) ∧ ∀ y ∈ ((List.range n).filter p).map (fun a : Nat => (a : Int)), y ≤ ((farM one other : Nat) : Int) := by
  subst hn
  constructor
  · refine List.mem_map.mpr ⟨farM one other, List.mem_filter.mpr ⟨List.mem_range.mpr (farM_lt h h2), ?_⟩, rfl⟩
    rw [hp _ (farM_lt h h2)]; exact farG_fits _ _ _
  · intro y hy
    obtain ⟨a, ha, rfl⟩ := List.mem_map.mp hy
    obtain ⟨h3, h4⟩ := List.mem_filter.mp ha
    have h3 := List.mem_range.mp h3
    rw [hp _ h3] at h4
    have := farG_max one other _ a h3 h4
    unfold farM
    omega
theorem far_not {one other : List Nat} {m : Nat} (h : farM one other < m) (h2 : m < min one.length other.length) : fitsM one other m = false := by
  cases c : fitsM one other m with
  | false => rfl
  | true => exact absurd (farG_max one other _ m h2 c) (by unfold farM at h; omega)
/-- the places at which the end of so many signs has another sign -/
def unlikeL (one other : List Nat) (m : Nat) : List Nat := (List.range m).filter fun p => !(one.getD (one.length - m + p) default == other.getD p default)
def unlikeM (one other : List Nat) (m : Nat) : Nat := (unlikeL one other m).getD 0 default
theorem fits_iff {one other : List Nat} {m : Nat} (h1 : m ≤ one.length) (h2 : m ≤ other.length) : fitsM one other m = true ↔ ∀ p, p < m → one.getD (one.length - m + p) default = other.getD p default := by
  unfold fitsM
  rw [beq_iff_eq]
  constructor
  · intro e p hp
    have := congrArg (fun l => l[p]?) e
    simp only [List.getElem?_drop, List.getElem?_take, if_pos hp] at this
    rw [List.getD_eq_getElem?_getD, List.getD_eq_getElem?_getD, this]
  · intro h
    refine List.ext_getElem? fun p => ?_
    rw [List.getElem?_drop, List.getElem?_take]
    by_cases hp : p < m
    · rw [if_pos hp]
      have := h p hp
      rw [List.getD_eq_getElem?_getD, List.getD_eq_getElem?_getD, List.getElem?_eq_getElem (by omega), List.getElem?_eq_getElem (by omega)] at this
      rw [List.getElem?_eq_getElem (by omega), List.getElem?_eq_getElem (by omega)]
      exact congrArg some this
    · rw [if_neg hp]
      exact List.getElem?_eq_none (by omega)
theorem unlikeL_nil {one other : List Nat} {m : Nat} (h1 : m ≤ one.length) (h2 : m ≤ other.length) : unlikeL one other m = [] ↔ fitsM one other m = true := by
  rw [fits_iff h1 h2]
  unfold unlikeL
  rw [List.filter_eq_nil_iff]
  simp only [List.mem_range, Bool.not_eq_true', Bool.not_eq_false, beq_iff_eq]
theorem unlikeL_pos {one other : List Nat} {m : Nat} (h1 : m ≤ one.length) (h2 : m ≤ other.length) (h : fitsM one other m = false) : 0 < (unlikeL one other m).length := by
  refine List.length_pos_iff.mpr fun e => ?_
  rw [(unlikeL_nil h1 h2).mp e] at h
  cases h
/-- the first of them, as it is told; None for none -/
def unlikeR (one other : List Nat) (m : Nat) : PySem.PyData := match unlikeL one other m with
  | [] => .none
  | p :: _ => .int (p : Nat)
theorem unlikeR_some {one other : List Nat} {m : Nat} (h1 : m ≤ one.length) (h2 : m ≤ other.length) (h : fitsM one other m = false) : unlikeR one other m = .int (unlikeM one other m : Nat) := by
  have := unlikeL_pos h1 h2 h
  unfold unlikeR unlikeM
  cases e : unlikeL one other m with
  | nil => rw [e] at this; exact absurd this (by simp)
  | cons p r => rfl
theorem unlikeR_none {one other : List Nat} {m : Nat} (h1 : m ≤ one.length) (h2 : m ≤ other.length) : (match unlikeR one other m with | .none => true | _ => false) = fitsM one other m := by
  cases c : fitsM one other m with
  | true =>
    have := (unlikeL_nil h1 h2).mpr c
    unfold unlikeR; rw [this]
  | false => rw [unlikeR_some h1 h2 c]
theorem unlikeR_hit {one other : List Nat} {m n : Nat} (hn : n < m) (h : ∀ p, p < n → one.getD (one.length - m + p) default = other.getD p default) (c : one.getD (one.length - m + n) default ≠ other.getD n default) : unlikeR one other m = .int (n : Nat) := by
  have e : unlikeL one other m = n :: (List.range' (n + 1) (m - (n + 1))).filter fun p => !(one.getD (one.length - m + p) default == other.getD p default) := by
    unfold unlikeL
    have : List.range m = List.range n ++ n :: List.range' (n + 1) (m - (n + 1)) := by
      rw [← List.range'_succ, List.range_eq_range', List.range_eq_range']
      have e2 := List.range'_append_1 (s := 0) (m := n) (n := m - (n + 1) + 1)
      rw [Nat.zero_add] at e2
      rw [e2]
      congr 1
      omega
    rw [this, List.filter_append, List.filter_cons, if_pos (by rw [Bool.not_eq_true', beq_eq_false_iff_ne]; exact c)]
    rw [List.filter_eq_nil_iff.mpr (fun p hp => by
      rw [List.mem_range] at hp
      rw [h p hp]; simp), List.nil_append]
  unfold unlikeR
  rw [e]
theorem unlikeR_miss {one other : List Nat} {m : Nat} (h : ∀ p, p < m → one.getD (one.length - m + p) default = other.getD p default) : unlikeR one other m = .none := by
  have e : unlikeL one other m = [] := by
    unfold unlikeL
    rw [List.filter_eq_nil_iff]
    intro p hp
    rw [h p (List.mem_range.mp hp)]; simp
  unfold unlikeR
  rw [e]
/-- what why_no_more tells -/
def rowsM (one other : List Nat) : List PySem.PyData := (List.range (min one.length other.length - (farM one other + 1))).map fun i => .tuple [.int ((farM one other + 1 + i : Nat) : Int), .int (unlikeM one other (farM one other + 1 + i) : Nat)]
theorem dropRange (n k : Nat) : (List.range n).drop k = (List.range (n - k)).map (k + ·) := by
  refine List.ext_getElem (by simp) fun i h1 h2 => by simp
theorem rows_cut {one other : List Nat} {n : Nat} (hn : n = min one.length other.length) : ((List.range n).drop (farM one other + 1)).map (fun m : Nat => PySem.PyData.tuple [.int (m : Int), unlikeR one other m]) = rowsM one other := by
  subst hn
  rw [dropRange, List.map_map]
  refine List.map_congr_left fun i hi => ?_
  have hi := List.mem_range.mp hi
  show PySem.PyData.tuple [_, unlikeR one other (farM one other + 1 + i)] = _
  rw [unlikeR_some (by omega) (by omega) (far_not (by omega) (by omega))]
theorem rows_cutI {one other : List Nat} {n : Nat} (hn : n = min one.length other.length) : (cutL (List.range n) (some ((farM one other : Int) + 1)) none).map (fun m : Nat => PySem.PyData.tuple [.int (m : Int), unlikeR one other (m : Int).toNat]) = rowsM one other := by
  have e : ((farM one other : Int) + 1) = ((farM one other + 1 : Nat) : Int) := by omega
  rw [e, cutL_from]
  exact rows_cut hn
theorem rows_len (one other : List Nat) : (rowsM one other).length ≤ one.length := by
  unfold rowsM; rw [List.length_map, List.length_range]; omega
theorem rows_ok {one other : List Nat} (h : one.length ≤ 12) : okD 4 (.list (rowsM one other)) := by
  refine okD.list (by have := rows_len one other; omega) fun d hd => ?_
  obtain ⟨i, _, rfl⟩ := List.mem_map.mp hd
  refine okD.tup (show (2 : Nat) ≤ _ by omega) fun d hd => ?_
  simp only [List.mem_cons, List.not_mem_nil, or_false] at hd
  rcases hd with rfl | rfl <;> exact okD.int _
end G

namespace G
/-! ### words drawn -/
def drawS (L : Int) (s : Bx) : Nat → Bx
  | 0 => s
  | n + 1 => takeB (drawS L s n) L
def drawV (letters : List Nat) (s : Bx) (n : Nat) : Nat := letters.getD (takeV (drawS letters.length s n) letters.length).toNat default
def wordN (most : Int) (s : Bx) : Nat := (1 + takeV s most).toNat
def wordV (letters : List Nat) (most : Int) (s : Bx) : List Nat := (List.range (wordN most s)).map (drawV letters (takeB s most))
def wordB (letters : List Nat) (most : Int) (s : Bx) : Bx := drawS letters.length (takeB s most) (wordN most s)
theorem wordN_le {most : Int} {s : Bx} (h : 0 < most) : 1 ≤ wordN most s ∧ (wordN most s : Int) ≤ most := by
  have := takeV_nn s h
  unfold wordN
  omega
theorem wordV_len (letters : List Nat) (most : Int) (s : Bx) : (wordV letters most s).length = wordN most s := by
  unfold wordV; rw [List.length_map, List.length_range]
theorem getD_mem {l : List Nat} {n : Nat} (h : n < l.length) : l.getD n default ∈ l := by
  rw [List.getD_eq_getElem?_getD, List.getElem?_eq_getElem h]
  exact List.getElem_mem h
theorem drawV_mem {letters : List Nat} (h : letters ≠ []) (s : Bx) (n : Nat) : drawV letters s n ∈ letters := by
  have hp : 0 < letters.length := List.length_pos_iff.mpr h
  have := takeV_nn (drawS letters.length s n) (m := (letters.length : Int)) (by omega)
  exact getD_mem (by omega)
theorem wordV_mem {letters : List Nat} (h : letters ≠ []) {most : Int} {s : Bx} {c : Nat} (hc : c ∈ wordV letters most s) : c ∈ letters := by
  obtain ⟨n, _, rfl⟩ := List.mem_map.mp hc
  exact drawV_mem h _ n
theorem kept_all (f : Nat → PySem.PyData) : ∀ n, kept (fun _ => true) f n = (List.range n).map f
  | 0 => rfl
  | n + 1 => by
    show kept (fun _ => true) f n ++ (if true = true then [f n] else []) = _
    rw [kept_all f n, if_pos rfl, List.range_succ, List.map_append]; rfl
theorem flatten_one {α : Type} (f : Nat → α) (n : Nat) : ((List.range n).map fun k => [f k]).flatten = (List.range n).map f := by
  induction n with
  | zero => rfl
  | succ n ih => rw [List.range_succ, List.map_append, List.flatten_append, ih, List.map_append]; rfl
def abczL : List Nat := [97, 98, 99, 122]
theorem lit_abcz : (PySem.Str.ofString "abcz").cps.toList = abczL := by decide +kernel
def lettersM (s : Bx) : List Nat := abczL.take (2 + takeV s 3).toNat
theorem lettersM_is (s : Bx) : cutL (PySem.Str.ofString "abcz").cps.toList none (some (2 + takeV s 3)) = lettersM s := by
  have h := takeV_nn s (m := 3) (by omega)
  have e : 2 + takeV s 3 = ((2 + takeV s 3).toNat : Int) := by omega
  rw [lit_abcz, e, cutL_to]; rfl
structure LetL (L : List Nat) : Prop where
  ne : L ≠ []
  len : L.length ≤ 100
  small : ∀ c ∈ L, c ∈ smallL
  ok : okW L
theorem lettersM_ok (s : Bx) : LetL (lettersM s) := by
  have h := takeV_nn s (m := 3) (by omega)
  have hs : ∀ c ∈ lettersM s, c ∈ smallL := fun c hc => by
    have : c ∈ abczL := List.mem_of_mem_take hc
    exact (by decide : ∀ x ∈ abczL, x ∈ smallL) c this
  have hlen : (lettersM s).length ≤ 4 := by unfold lettersM; rw [List.length_take]; show min _ 4 ≤ 4; omega
  refine ⟨fun e => ?_, by omega, hs, fun c hc => ?_⟩
  · have : (lettersM s).length = 0 := by rw [e]; rfl
    unfold lettersM at this
    rw [List.length_take] at this
    have : min (2 + takeV s 3).toNat 4 = 0 := this
    omega
  · have := hs c hc
    revert this
    simp only [smallL, List.mem_cons, List.not_mem_nil, or_false]
    omega
theorem LetL.word {L : List Nat} (h : LetL L) {most : Int} (h0 : 0 < most) (h1 : most ≤ 12) (s : Bx) : goodM (wordV L most s) := by
  have := wordN_le (s := s) h0
  refine ⟨by rw [wordV_len]; omega, by rw [wordV_len]; omega, fun c hc => h.small c (wordV_mem h.ne hc)⟩
theorem goodM.join {one other : List Nat} (h1 : goodM one) (h2 : goodM other) {t : Int} (a : 0 ≤ t) (b : t < one.length) : goodM (cutL (cutL one (some t) none ++ other) none (some 12)) := by
  obtain ⟨n, rfl⟩ : ∃ n : Nat, t = (n : Int) := ⟨t.toNat, by omega⟩
  have e : ((12 : Int)) = ((12 : Nat) : Int) := rfl
  rw [e, cutL_from, cutL_to]
  refine ⟨?_, ?_, fun c hc => ?_⟩
  · rw [List.length_take, List.length_append, List.length_drop]; have := h2.1; omega
  · rw [List.length_take]; omega
  · rcases List.mem_append.mp (List.mem_of_mem_take hc) with z | z
    · exact h1.2.2 c (List.mem_of_mem_drop z)
    · exact h2.2.2 c z
end G

namespace G
/-! ### lists of words -/
structure goodWs (most signs : Int) (ws : List (List Nat)) : Prop where
  good : ∀ w ∈ ws, goodM w ∧ (w.length : Int) ≤ signs
  nd : ws.Nodup
  ne : ws ≠ []
  len : (ws.length : Int) ≤ most
structure soFar (i : Nat) (signs : Int) (ws : List (List Nat)) : Prop where
  good : ∀ w ∈ ws, goodM w ∧ (w.length : Int) ≤ signs
  nd : ws.Nodup
  ne : 0 < i → ws ≠ []
  len : ws.length ≤ i
theorem soFar.add {i : Nat} {signs : Int} {ws : List (List Nat)} (h : soFar i signs ws) {w : List Nat} (g : goodM w) (gl : (w.length : Int) ≤ signs) (hw : (!(ws.contains w)) = true) : soFar (i + 1) signs (ws ++ [w]) := by
  have hn : w ∉ ws := by simpa using hw
  refine ⟨fun u hu => ?_, ?_, fun _ => by simp, by rw [List.length_append]; have := h.len; simp; omega⟩
  · rcases List.mem_append.mp hu with z | z
    · exact h.good u z
    · obtain rfl : u = w := by simpa using z
      exact ⟨g, gl⟩
  · refine List.nodup_append.mpr ⟨h.nd, by simp, fun x hx y hy => ?_⟩
    obtain rfl : y = w := by simpa using hy
    exact fun e => hn (e ▸ hx)
theorem soFar.stay {i : Nat} {signs : Int} {ws : List (List Nat)} (h : soFar i signs ws) {w : List Nat} (hw : (!(ws.contains w)) = false) : soFar (i + 1) signs ws := by
  have hn : w ∈ ws := by simpa using hw
  exact ⟨h.good, h.nd, fun _ e => (by rw [e] at hn; cases hn), by have := h.len; omega⟩
theorem goodM.cutTo {w : List Nat} (h : goodM w) (n : Nat) (hn : 1 ≤ n) : goodM (w.take n) := by
  refine ⟨by rw [List.length_take]; have := h.1; omega, by rw [List.length_take]; have := h.2.1; omega, fun c hc => h.2.2 c (List.mem_of_mem_take hc)⟩
/-- a word made of another one and a drawn one -/
def madeM (w o : List Nat) (at' way signs : Int) : List Nat := cutL (if way = 0 then cutL o (some at') none ++ w else if way = 1 then w ++ cutL o none (some (at' + 1)) else cutL o (some at') none) none (some signs)
theorem madeM_len {w o : List Nat} {at' way signs : Int} (h2 : 0 < signs) : ((madeM w o at' way signs).length : Int) ≤ signs := by
  obtain ⟨m, rfl⟩ : ∃ n : Nat, signs = (n : Int) := ⟨signs.toNat, by omega⟩
  unfold madeM
  rw [cutL_to, List.length_take]
  omega
theorem madeM_good {w o : List Nat} {at' way signs : Int} (g1 : goodM w) (g2 : goodM o) (h0 : 0 ≤ at') (h1 : at' < o.length) (h2 : 0 < signs) (h3 : signs ≤ 12) : goodM (madeM w o at' way signs) := by
  obtain ⟨n, rfl⟩ : ∃ n : Nat, at' = (n : Int) := ⟨at'.toNat, by omega⟩
  obtain ⟨m, rfl⟩ : ∃ n : Nat, signs = (n : Int) := ⟨signs.toNat, by omega⟩
  have e1 : ((n : Int) + 1) = ((n + 1 : Nat) : Int) := by omega
  unfold madeM
  rw [e1, cutL_to, cutL_from, cutL_to]
  have hd : ∀ c ∈ o.drop n, c ∈ smallL := fun c hc => g2.2.2 c (List.mem_of_mem_drop hc)
  have ht : ∀ c ∈ o.take (n + 1), c ∈ smallL := fun c hc => g2.2.2 c (List.mem_of_mem_take hc)
  have l1 := g1.1
  have l2 := g2.1
  refine ⟨?_, by rw [List.length_take]; omega, fun c hc => ?_⟩
  · rw [List.length_take]
    split
    · rw [List.length_append, List.length_drop]; omega
    · split
      · rw [List.length_append]; omega
      · rw [List.length_drop]; omega
  · have hc := List.mem_of_mem_take hc
    split at hc
    · rcases List.mem_append.mp hc with z | z
      · exact hd c z
      · exact g1.2.2 c z
    · split at hc
      · rcases List.mem_append.mp hc with z | z
        · exact g1.2.2 c z
        · exact ht c z
      · exact hd c hc
theorem getD_memL {ws : List (List Nat)} {n : Nat} (h : n < ws.length) : ws.getD n default ∈ ws := by
  rw [List.getD_eq_getElem?_getD, List.getElem?_eq_getElem h]
  exact List.getElem_mem h
structure Ws (ws : List (List Nat)) : Prop where
  good : ∀ w ∈ ws, goodM w
  nd : ws.Nodup
  ne : ws ≠ []
  len : ws.length ≤ 40
theorem goodWs.ws {most signs : Int} {ws : List (List Nat)} (h : goodWs most signs ws) (hm : most ≤ 40) : Ws ws := ⟨fun w hw => (h.good w hw).1, h.nd, h.ne, by have := h.len; omega⟩
theorem zipGet {α : Type} {l : List α} {i : Nat} {a : α × Nat} (h : l.zipIdx[i]? = some a) : ∃ (hi : i < l.length), a = (l[i], i) := by
  obtain ⟨h1, h2⟩ := List.getElem?_eq_some_iff.mp h
  have hi : i < l.length := by simpa using h1
  refine ⟨hi, ?_⟩
  rw [← h2, List.getElem_zipIdx]
  simp
theorem nd_notin {ws : List (List Nat)} (h : ws.Nodup) {i : Nat} (hi : i < ws.length) : (ws.take i).contains ws[i] = false := by
  rw [Bool.eq_false_iff]
  intro c
  have c : ws[i] ∈ ws.take i := by simpa using c
  obtain ⟨j, hj, e⟩ := List.getElem_of_mem c
  rw [List.length_take] at hj
  rw [List.getElem_take] at e
  have := (List.getElem_inj h).mp e
  omega
end G

namespace G
/-! ### a word laid behind a text -/
/-- the first place of the text from p on at which the word has another sign -/
def uAt (t w : List Nat) (p : Nat) : Option Nat := ((List.range (min t.length (p + w.length) - p)).find? fun i => !(t.getD (p + i) default == w.getD i default)).map (p + ·)
def uD : Option Nat → PySem.PyData
  | none => .none
  | some n => .int (n : Nat)
def uV : Option Nat → L2.V
  | none => .non
  | some n => .int (n : Nat)
theorem uS (o : Option Nat) : scalV (uD o) = some (uV o) := by cases o <;> rfl
theorem uF {S : PySem.Addr → Prop} {H : L2.Hp} (o : Option Nat) : Fd S H (uV o) (uD o) := by cases o with | none => exact .non | some n => exact .int _
theorem uAt_hit {t w : List Nat} {p i : Nat} (hi : i < min t.length (p + w.length) - p) (h : ∀ j, j < i → t.getD (p + j) default = w.getD j default) (c : t.getD (p + i) default ≠ w.getD i default) : uAt t w p = some (p + i) := by
  unfold uAt
  have : (List.range (min t.length (p + w.length) - p)).find? (fun i => !(t.getD (p + i) default == w.getD i default)) = some i := by
    rw [List.find?_range_eq_some]
    exact ⟨by rw [Bool.not_eq_true', beq_eq_false_iff_ne]; exact c, List.mem_range.mpr hi, fun j hj => by rw [h j hj]; simp⟩
  rw [this]; rfl
theorem uAt_miss {t w : List Nat} {p : Nat} (h : ∀ j, j < min t.length (p + w.length) - p → t.getD (p + j) default = w.getD j default) : uAt t w p = none := by
  unfold uAt
  have : (List.range (min t.length (p + w.length) - p)).find? (fun i => !(t.getD (p + i) default == w.getD i default)) = none := by
    rw [List.find?_range_eq_none]
    exact fun j hj => by rw [h j hj]; simp
  rw [this]; rfl
theorem uAt_some {t w : List Nat} {p n : Nat} (h : uAt t w p = some n) : p ≤ n ∧ n < t.length ∧ n < p + w.length ∧ t.getD n default ≠ w.getD (n - p) default ∧ ∀ j, p ≤ j → j < n → t.getD j default = w.getD (j - p) default := by
  unfold uAt at h
  obtain ⟨i, hi, rfl⟩ := Option.map_eq_some_iff.mp h
  rw [List.find?_range_eq_some] at hi
  obtain ⟨h1, h2, h3⟩ := hi
  have h2 := List.mem_range.mp h2
  refine ⟨by omega, by omega, by omega, ?_, fun j hj hj2 => ?_⟩
  · rw [show p + i - p = i by omega]; simpa using h1
  · have := h3 (j - p) (by omega)
    rw [show p + (j - p) = j by omega] at this
    simpa using this
theorem uAt_none {t w : List Nat} {p : Nat} (h : uAt t w p = none) : ∀ j, p ≤ j → j < t.length → j < p + w.length → t.getD j default = w.getD (j - p) default := by
  unfold uAt at h
  rw [Option.map_eq_none_iff, List.find?_range_eq_none] at h
  intro j h1 h2 h3
  have := h (j - p) (by omega)
  rw [show p + (j - p) = j by omega] at this
  simpa using this
/-- the place at which the word comes to stand -/
def goP (t w : List Nat) : Nat → Nat → Nat
  | 0, p => p
  | f + 1, p => match uAt t w p with
    | none => p
    | some _ => goP t w f (p + 1)
/-- the places passed by -/
def goL (t w : List Nat) : Nat → Nat → List (Nat × Nat)
  | 0, _ => []
  | f + 1, p => match uAt t w p with
    | none => []
    | some n => (p, n) :: goL t w f (p + 1)
abbrev plM (t w : List Nat) (p : Nat) : Nat := goP t w (t.length - p) p
abbrev paM (t w : List Nat) (p : Nat) : List (Nat × Nat) := goL t w (t.length - p) p
theorem plM_none {t w : List Nat} {p : Nat} (h : uAt t w p = none) : plM t w p = p ∧ paM t w p = [] := by
  unfold plM paM
  cases e : t.length - p with
  | zero => exact ⟨rfl, rfl⟩
  | succ f => unfold goP goL; rw [h]; exact ⟨rfl, rfl⟩
theorem plM_some {t w : List Nat} {p n : Nat} (h : uAt t w p = some n) : plM t w p = plM t w (p + 1) ∧ paM t w p = (p, n) :: paM t w (p + 1) := by
  have hn := uAt_some h
  obtain ⟨f, e⟩ : ∃ f, t.length - p = f + 1 := ⟨t.length - p - 1, by omega⟩
  have e2 : t.length - (p + 1) = f := by omega
  unfold plM paM
  rw [e, e2]
  constructor
  · conv => lhs; unfold goP
    rw [h]
  · conv => lhs; unfold goL
    rw [h]
theorem goP_le (t w : List Nat) : ∀ f p, t.length - p = f → p ≤ t.length → p ≤ goP t w f p ∧ goP t w f p ≤ t.length
  | 0, p, e, hp => ⟨Nat.le_refl _, hp⟩
  | f + 1, p, e, hp => by
    unfold goP
    cases h : uAt t w p with
    | none => exact ⟨Nat.le_refl _, hp⟩
    | some n =>
      have := goP_le t w f (p + 1) (by omega) (by omega)
      exact ⟨by simp only; omega, this.2⟩
theorem plM_le {t w : List Nat} {p : Nat} (hp : p ≤ t.length) : p ≤ plM t w p ∧ plM t w p ≤ t.length := goP_le t w _ p rfl hp
theorem goP_ind {t w : List Nat} (Q : Nat → Nat → List (Nat × Nat) → Prop) (h0 : ∀ p, uAt t w p = none → Q p p []) (h1 : ∀ p n, uAt t w p = some n → Q (p + 1) (plM t w (p + 1)) (paM t w (p + 1)) → Q p (plM t w (p + 1)) ((p, n) :: paM t w (p + 1))) : ∀ f p, t.length - p = f → Q p (plM t w p) (paM t w p) := by
  intro f
  induction f with
  | zero =>
    intro p e
    cases h : uAt t w p with
    | none => rw [(plM_none h).1, (plM_none h).2]; exact h0 p h
    | some n => have := uAt_some h; omega
  | succ f ih =>
    intro p e
    cases h : uAt t w p with
    | none => rw [(plM_none h).1, (plM_none h).2]; exact h0 p h
    | some n =>
      rw [(plM_some h).1, (plM_some h).2]
      exact h1 p n h (ih (p + 1) (by omega))
theorem paM_len {t w : List Nat} {p : Nat} : (paM t w p).length + p = plM t w p := goP_ind (fun p a b => b.length + p = a) (fun p h => by simp) (fun p n h ih => by simp only [List.length_cons]; omega) _ p rfl
theorem plM_stands (t w : List Nat) (p : Nat) : uAt t w (plM t w p) = none := goP_ind (fun p a b => uAt t w a = none) (fun p h => h) (fun p n h ih => ih) _ p rfl
/-- the text behind -/
def txM (t w : List Nat) (p : Nat) : List Nat := t ++ w.drop (t.length - p)
abbrev gP (x : Nat × Nat) : PySem.PyData := .tuple [.int (x.1 : Nat), .int (x.2 : Nat)]
/-! all words laid -/
def lastN (bs : List Nat) : Nat := bs.getLast?.getD 0
theorem lastN_app (bs : List Nat) (p : Nat) : lastN (bs ++ [p]) = p := by unfold lastN; simp
def layStep (s : List Nat × List Nat) (w : List Nat) : List Nat × List Nat := (txM s.1 w (plM s.1 w (lastN s.2)), s.2 ++ [plM s.1 w (lastN s.2)])
def layM (ws : List (List Nat)) : List Nat × List Nat := ws.foldl layStep ([], [])
abbrev layI (ws : List (List Nat)) (i : Nat) : List Nat × List Nat := layM (ws.take i)
theorem layI_all (ws : List (List Nat)) : layI ws ws.length = layM ws := by unfold layI; rw [List.take_length]
theorem layI_succ {ws : List (List Nat)} {i : Nat} (hi : i < ws.length) : layI ws (i + 1) = layStep (layI ws i) ws[i] := by
  unfold layI layM
  rw [List.take_succ_eq_append_getElem hi, List.foldl_append]; rfl
theorem txM_len {t w : List Nat} {p : Nat} : (txM t w p).length ≤ t.length + w.length := by unfold txM; rw [List.length_append, List.length_drop]; omega
theorem layI_ok {ws : List (List Nat)} (g : ∀ w ∈ ws, goodM w) : ∀ i, i ≤ ws.length → (layI ws i).1.length ≤ 12 * i ∧ lastN (layI ws i).2 ≤ (layI ws i).1.length ∧ okW (layI ws i).1 ∧ (layI ws i).2.length = i
  | 0, _ => ⟨Nat.le_refl _, Nat.le_refl _, fun c hc => (nomatch hc), rfl⟩
  | i + 1, h => by
    have hi : i < ws.length := by omega
    obtain ⟨h1, h2, h3, h4⟩ := layI_ok g i (by omega)
    have gw : goodM ws[i] := g _ (List.getElem_mem hi)
    rw [layI_succ hi]
    have hp := (plM_le (t := (layI ws i).1) (w := ws[i]) h2).2
    have hl := @txM_len (layI ws i).1 ws[i] (plM (layI ws i).1 ws[i] (lastN (layI ws i).2))
    have gl := gw.2.1
    refine ⟨?_, ?_, ?_, ?_⟩
    · show (txM _ _ _).length ≤ _; omega
    · show lastN (_ ++ [_]) ≤ (txM _ _ _).length
      rw [lastN_app]; unfold txM; rw [List.length_append]; omega
    · intro c hc
      rcases List.mem_append.mp (show c ∈ (layI ws i).1 ++ _ from hc) with z | z
      · exact h3 c z
      · exact gw.ok c (List.mem_of_mem_drop z)
    · show (_ ++ [_]).length = _; rw [List.length_append, h4]; rfl
/-- what is told of the places passed by -/
def resTo (ws : List (List Nat)) : Nat → List (Nat × Nat × Nat)
  | 0 => []
  | i + 1 => resTo ws i ++ (paM (layI ws i).1 (ws.getD i default) (lastN (layI ws i).2)).map fun x => (i, x.1, x.2)
def resM (ws : List (List Nat)) : List (Nat × Nat × Nat) := resTo ws ws.length
theorem resTo_len {ws : List (List Nat)} : ∀ i, i ≤ ws.length → (resTo ws i).length = lastN (layI ws i).2
  | 0, _ => rfl
  | i + 1, h => by
    have hi : i < ws.length := by omega
    rw [layI_succ hi]
    show (resTo ws i ++ _).length = lastN (_ ++ [_])
    rw [lastN_app, List.length_append, List.length_map, resTo_len i (by omega), List.getD_eq_getElem?_getD, List.getElem?_eq_getElem hi]
    have := @paM_len (layI ws i).1 ws[i] (lastN (layI ws i).2)
    simp only [Option.getD_some]
    omega
abbrev gR (x : Nat × Nat × Nat) : PySem.PyData := .tuple [.int (x.1 : Nat), .int (x.2.1 : Nat), .int (x.2.2 : Nat)]
theorem lastN_ne {bs : List Nat} (h : bs ≠ []) : bs.getLast?.getD default = lastN bs := rfl
theorem txM_short {t w : List Nat} {p : Nat} (h : p + w.length ≤ t.length) : txM t w p = t := by
  unfold txM; rw [List.drop_eq_nil_of_le (by omega), List.append_nil]
theorem ldr {α : Type} (l : List α) : l.drop 0 = l := rfl
theorem layStep0 (w : List Nat) : layStep ([], []) w = (w, [0]) := by
  have h0 : uAt [] w 0 = none := uAt_miss fun j hj => absurd hj (by simp)
  unfold layStep
  show (txM [] w (plM [] w (lastN [])), [] ++ [plM [] w (lastN [])]) = _
  rw [show lastN [] = 0 from rfl, (plM_none h0).1]
  rfl
theorem layI_one {ws : List (List Nat)} (h : 0 < ws.length) : layI ws 1 = (ws[0], [0]) := by
  have := layI_succ h
  rw [this, ← layStep0]; rfl
theorem uAt_isNone {t w : List Nat} {p : Nat} (hp : p ≤ t.length) : ((t.drop p).take w.length == w.take (t.length - p)) = (uAt t w p).isNone := by
  cases h : uAt t w p with
  | none =>
    have := uAt_none h
    show _ = true
    rw [beq_iff_eq]
    refine List.ext_getElem? fun j => ?_
    rw [List.getElem?_take, List.getElem?_take, List.getElem?_drop]
    by_cases h1 : j < w.length
    · rw [if_pos h1]
      by_cases h2 : j < t.length - p
      · rw [if_pos h2]
        have := this (p + j) (by omega) (by omega) (by omega)
        rw [List.getD_eq_getElem?_getD, List.getD_eq_getElem?_getD, show p + j - p = j by omega, List.getElem?_eq_getElem (by omega), List.getElem?_eq_getElem h1] at this
        rw [List.getElem?_eq_getElem (by omega), List.getElem?_eq_getElem h1]
        exact congrArg some this
      · rw [if_neg h2]; exact List.getElem?_eq_none (by omega)
    · rw [if_neg h1]
      by_cases h2 : j < t.length - p
      · rw [if_pos h2]; exact (List.getElem?_eq_none (by omega)).symm
      · rw [if_neg h2]
  | some n =>
    obtain ⟨h1, h2, h3, h4, h5⟩ := uAt_some h
    show _ = false
    rw [beq_eq_false_iff_ne]
    intro e
    have e2 := congrArg (fun l => l[n - p]?) e
    simp only [List.getElem?_take, List.getElem?_drop] at e2
    rw [if_pos (by omega), if_pos (by omega), show p + (n - p) = n by omega] at e2
    refine h4 ?_
    rw [List.getD_eq_getElem?_getD, List.getD_eq_getElem?_getD, e2]
/-- each place passed by, and what is told of it -/
theorem paM_get {t w : List Nat} {p : Nat} : ∀ j, j < (paM t w p).length → ∃ n, (paM t w p)[j]? = some (p + j, n) ∧ uAt t w (p + j) = some n :=
  goP_ind (fun p a b => ∀ j, j < b.length → ∃ n, b[j]? = some (p + j, n) ∧ uAt t w (p + j) = some n) (fun p h j hj => absurd hj (by simp)) (fun p n h ih j hj => by
    cases j with
    | zero => exact ⟨n, rfl, h⟩
    | succ j =>
      obtain ⟨n', e1, e2⟩ := ih j (by simp only [List.length_cons] at hj; omega)
      refine ⟨n', ?_, ?_⟩
      · rw [List.getElem?_cons_succ, e1]; congr 2; omega
      · rw [← e2]; congr 1; omega) _ p rfl
/-- the first unlike place by going through the text -/
theorem uAt_head {t w : List Nat} {p n m : Nat} (hm : m = t.length - p) (h : uAt t w p = some n) {f g : Nat → Bool} (hf : ∀ i, i < m → f i = decide (i < w.length)) (hg : ∀ i, i < m → i < w.length → g i = !(t.getD (p + i) default == w.getD i default)) :
    0 < (((List.range m).filter f).filter g).length ∧ (((List.range m).filter f).filter g).getD 0 default = n - p := by
  subst hm
  obtain ⟨h1, h2, h3, h4, h5⟩ := uAt_some h
  have e : (List.range (t.length - p)) = List.range (n - p) ++ (n - p) :: List.range' (n - p + 1) (t.length - p - (n - p + 1)) := by
    rw [← List.range'_succ, List.range_eq_range', List.range_eq_range']
    have e2 := List.range'_append_1 (s := 0) (m := n - p) (n := t.length - p - (n - p + 1) + 1)
    rw [Nat.zero_add] at e2
    rw [e2]
    congr 1
    omega
  have hn : g (n - p) = true := by
    rw [hg _ (by omega) (by omega), show p + (n - p) = n by omega, Bool.not_eq_true', beq_eq_false_iff_ne]
    exact h4
  have hfn : f (n - p) = true := by rw [hf _ (by omega)]; exact decide_eq_true (by omega)
  have e3 : ((List.range (n - p)).filter f).filter g = [] := by
    rw [List.filter_eq_nil_iff]
    intro i hi
    have hi := List.mem_range.mp (List.mem_filter.mp hi).1
    rw [hg i (by omega) (by omega)]
    have := h5 (p + i) (by omega) (by omega)
    rw [show p + i - p = i by omega] at this
    rw [this]; simp
  rw [e, List.filter_append, List.filter_append, e3, List.filter_cons, if_pos hfn, List.filter_cons, if_pos hn]
  exact ⟨Nat.succ_pos _, rfl⟩
end G
namespace G
open PySem
theorem lay_wf {ws : List (List Nat)} (g : ∀ w ∈ ws, goodM w) (hl : ws.length ≤ 40) : wfD (.tuple [dS (layM ws).1, .list ((layM ws).2.map gN)]) := by
  have h := layI_ok g ws.length (Nat.le_refl _)
  rw [layI_all] at h
  refine ⟨by rw [sizeLine_eq]; exact (by decide : 2 < 16777216), wfD.mkS h.2.2.1 (by rw [sizeLine_eq]; omega), ⟨by rw [List.length_map, sizeLine_eq]; omega, wfA_iff.mpr fun d hd => ?_⟩, trivial⟩
  obtain ⟨n, _, rfl⟩ := List.mem_map.mp hd
  trivial
theorem good_wf {w : List Nat} (g : goodM w) : wfD (dS w) := wfD.mkS g.ok (by rw [sizeLine_eq]; have := g.2.1; omega)
theorem ws_wf {ws : List (List Nat)} (g : ∀ w ∈ ws, goodM w) (hl : ws.length ≤ 1000) : wfD (.list (ws.map dS)) := ⟨by rw [List.length_map, sizeLine_eq]; omega, wfA_iff.mpr fun d hd => by
  obtain ⟨w, hw, rfl⟩ := List.mem_map.mp hd
  exact good_wf (g w hw)⟩
end G

namespace G
open PySem
/-! ### going through orders -/
def insM (done : List Nat) (m : Nat) : List Nat := (done ++ [m]).mergeSort fun a b => decide (a ≤ b)
theorem ins_perm (done : List Nat) (m : Nat) : (insM done m).Perm (done ++ [m]) := List.mergeSort_perm _ _
theorem ins_le (done : List Nat) (m : Nat) : (insM done m).Pairwise (· ≤ ·) := by
  have := List.pairwise_mergeSort (le := fun a b : Nat => decide (a ≤ b)) (fun a b c h1 h2 => by simp at *; omega) (fun a b => by simp; omega) (done ++ [m])
  exact this.imp fun {a b} h => of_decide_eq_true h
theorem ins_mem {done : List Nat} {m x : Nat} : x ∈ insM done m ↔ x ∈ done ∨ x = m := by
  rw [(ins_perm done m).mem_iff, List.mem_append, List.mem_singleton]
theorem ins_len (done : List Nat) (m : Nat) : (insM done m).length = done.length + 1 := by rw [(ins_perm done m).length_eq, List.length_append]; rfl
def stepM (ws : List (List Nat)) (last : Option Nat) (m : Nat) : Nat := (ws.getD m default).length - (match last with | none => 0 | some l => farM (ws.getD l default) (ws.getD m default))
def bestOf : List PVal → PVal
  | [] => (0, [])
  | x :: xs => xs.foldl (fun a y => if PySem.W.dataLt (gV y) (gV a) = true then y else a) x
theorem bestOf_data (l : List PVal) : minO (gV (0, [])) (l.map gV) = gV (bestOf l) := by
  cases l with
  | nil => rfl
  | cons x xs =>
    show PySem.W.minD (gV x) (xs.map gV) = gV (xs.foldl _ x)
    induction xs generalizing x with
    | nil => rfl
    | cons y xs ih =>
      show List.foldl _ (if PySem.W.dataLt (gV y) (gV x) = true then gV y else gV x) (xs.map gV) = gV (xs.foldl _ (if PySem.W.dataLt (gV y) (gV x) = true then y else x))
      have : (if PySem.W.dataLt (gV y) (gV x) = true then gV y else gV x) = gV (if PySem.W.dataLt (gV y) (gV x) = true then y else x) := by split <;> rfl
      rw [this]
      exact ih _
theorem bestOf_memA : ∀ (xs : List PVal) (x : PVal), xs.foldl (fun a y => if PySem.W.dataLt (gV y) (gV a) = true then y else a) x ∈ x :: xs
  | [], x => List.mem_cons_self
  | y :: xs, x => by
    show xs.foldl _ (if PySem.W.dataLt (gV y) (gV x) = true then y else x) ∈ _
    split
    · exact List.mem_cons_of_mem _ (bestOf_memA xs y)
    · rcases List.mem_cons.mp (bestOf_memA xs x) with e | h
      · rw [e]; exact List.mem_cons_self
      · exact List.mem_cons_of_mem _ (List.mem_cons_of_mem _ h)
theorem bestOf_mem : ∀ {l : List PVal}, l ≠ [] → bestOf l ∈ l
  | [], h => absurd rfl h
  | x :: xs, _ => bestOf_memA xs x
abbrev Kn := List (PKey × PVal)
abbrev RecB := Kn → List Nat → Option Nat → Kn × PVal
def stepB (ws : List (List Nat)) (rec : RecB) (done : List Nat) (last : Option Nat) (a : Kn × List PVal) (m : Nat) : Kn × List PVal :=
  if done.contains m then a else ((rec a.1 (insM done m) (some m)).1, a.2 ++ [(stepM ws last m + (rec a.1 (insM done m) (some m)).2.1, m :: (rec a.1 (insM done m) (some m)).2.2)])
def bestF (ws : List (List Nat)) (ns : List Nat) (rec : RecB) : RecB := fun kn done last => match lookK kn (done, last) with
  | some v => (kn, v)
  | none => ((ns.foldl (stepB ws rec done last) (kn, [])).1 ++ [((done, last), bestOf (ns.foldl (stepB ws rec done last) (kn, [])).2)], bestOf (ns.foldl (stepB ws rec done last) (kn, [])).2)
def bestS (ws : List (List Nat)) (ns : List Nat) : Nat → RecB
  | 0 => bestF ws ns fun kn _ _ => (kn, (0, []))
  | n + 1 => bestF ws ns (bestS ws ns n)
def recS (ws : List (List Nat)) (ns : List Nat) : Nat → RecB
  | 0 => fun kn _ _ => (kn, (0, []))
  | n + 1 => bestS ws ns n
theorem bestS_rec (ws : List (List Nat)) (ns : List Nat) (n : Nat) : bestS ws ns n = bestF ws ns (recS ws ns n) := by cases n <;> rfl
/-- how many are left -/
def remM (ns done : List Nat) : Nat := (ns.filter fun m => !done.contains m).length
theorem rem_ins {ns done : List Nat} {m : Nat} (hm : m ∈ ns) (hd : done.contains m = false) : remM ns (insM done m) < remM ns done := by
  have hsub : ∀ l : List Nat, (l.filter fun x => !(insM done m).contains x).length ≤ (l.filter fun x => !done.contains x).length := fun l => by
    induction l with
    | nil => exact Nat.le_refl _
    | cons x l ih =>
      rw [List.filter_cons, List.filter_cons]
      by_cases c : x ∈ done
      · have c2 : x ∈ insM done m := ins_mem.mpr (.inl c)
        rw [if_neg (by simp [c2]), if_neg (by simp [c])]
        exact ih
      · rw [if_pos (c := (!done.contains x) = true) (by simp [c])]
        split
        · rw [List.length_cons, List.length_cons]; omega
        · rw [List.length_cons]; omega
  unfold remM
  have : ∀ l : List Nat, m ∈ l → (l.filter fun x => !(insM done m).contains x).length < (l.filter fun x => !done.contains x).length := fun l => by
    induction l with
    | nil => exact fun h => absurd h (by simp)
    | cons x l ih =>
      intro h
      rw [List.filter_cons, List.filter_cons]
      by_cases e : x = m
      · subst e
        have hd' : x ∉ done := by simpa using hd
        have c2 : x ∈ insM done x := ins_mem.mpr (.inr rfl)
        rw [if_neg (by simp [c2]), if_pos (by simp [hd']), List.length_cons]
        have := hsub l
        omega
      · have hl : m ∈ l := (List.mem_cons.mp h).resolve_left fun z => e z.symm
        have ih := ih hl
        by_cases c : x ∈ done
        · have c2 : x ∈ insM done m := ins_mem.mpr (.inl c)
          rw [if_neg (by simp [c2]), if_neg (by simp [c])]
          exact ih
        · have c2 : x ∉ insM done m := fun z => (ins_mem.mp z).elim c e
          rw [if_pos (by simp [c2]), if_pos (by simp [c]), List.length_cons, List.length_cons]
          omega
  exact this ns hm
def cntB : Nat → Nat
  | 0 => 1
  | n + 1 => 1 + (n + 1) * cntB n
theorem cnt8 : cntB 8 = 109601 := by decide
theorem cnt_pos : ∀ n, 1 ≤ cntB n
  | 0 => Nat.le_refl _
  | n + 1 => by show 1 ≤ 1 + _; omega
/-- orders are no longer than what is left -/
def KnB (ns : List Nat) (kn : Kn) : Prop := ∀ e ∈ kn, e.2.2.length ≤ remM ns e.1.1 ∧ ∀ x ∈ e.2.2, x ∈ ns
theorem lookK_mem {kn : Kn} {k : PKey} {v : PVal} (h : lookK kn k = some v) : (k, v) ∈ kn := by
  unfold lookK at h
  obtain ⟨e3, h3, h4⟩ := Option.map_eq_some_iff.mp h
  have h5 := List.mem_of_find?_eq_some h3
  have h6 : e3.1 = k := by simpa using List.find?_some h3
  obtain ⟨a1, a2⟩ := e3
  have h6 : a1 = k := h6
  have h4 : a2 = v := h4
  subst h6 h4
  exact h5
structure BestInv (ns : List Nat) (n : Nat) (kn : Kn) (done : List Nat) (r : Kn × PVal) : Prop where
  kb : KnB ns r.1
  len : r.2.2.length ≤ remM ns done
  mem : ∀ x ∈ r.2.2, x ∈ ns
  cnt : r.1.length ≤ kn.length + cntB n
/-- what a turn's call may be relied on for -/
def RecOk (ns : List Nat) (n : Nat) (rec : RecB) : Prop := ∀ m, n = m + 1 → ∀ kn done last, remM ns done ≤ m → KnB ns kn → BestInv ns m kn done (rec kn done last)
structure LoopInv (ns : List Nat) (n : Nat) (kn : Kn) (done pre : List Nat) (r : Kn × List PVal) : Prop where
  kb : KnB ns r.1
  len : ∀ v ∈ r.2, v.2.length ≤ remM ns done ∧ ∀ x ∈ v.2, x ∈ ns
  cnt : r.1.length + 1 ≤ kn.length + 1 + (pre.filter fun m => !done.contains m).length * cntB (n - 1)
  many : r.2.length ≤ pre.length
theorem loop_inv {ws : List (List Nat)} {ns : List Nat} {n : Nat} {rec : RecB} (hr : RecOk ns n rec) {kn : Kn} {done : List Nat} {last : Option Nat} (hn : remM ns done ≤ n) (hk : KnB ns kn) :
    ∀ pre : List Nat, (∀ m ∈ pre, m ∈ ns) → LoopInv ns n kn done pre (pre.foldl (stepB ws rec done last) (kn, [])) := by
  have : ∀ (k : Nat) (pre : List Nat), pre.length = k → (∀ m ∈ pre, m ∈ ns) → LoopInv ns n kn done pre (pre.foldl (stepB ws rec done last) (kn, [])) := by
    intro k
    induction k with
    | zero =>
      intro pre hp _
      rw [List.eq_nil_of_length_eq_zero hp]
      exact ⟨hk, fun v hv => absurd hv (by simp), by simp, Nat.le_refl _⟩
    | succ k ih =>
      intro pre hp hm
      have hne : pre ≠ [] := by intro e; rw [e] at hp; cases hp
      obtain ⟨us, x, rfl⟩ : ∃ us x, pre = us ++ [x] := ⟨pre.dropLast, pre.getLast hne, (List.dropLast_concat_getLast hne).symm⟩
      have ih := ih us (by simpa using hp) fun m h => hm m (List.mem_append_left _ h)
      have hx := hm x (by simp)
      rw [List.foldl_append]
      show LoopInv _ _ _ _ _ (stepB ws rec done last _ x)
      generalize us.foldl (stepB ws rec done last) (kn, []) = a at ih
      unfold stepB
      by_cases c : done.contains x = true
      · rw [if_pos c]
        refine ⟨ih.kb, ih.len, ?_, Nat.le_trans ih.many (by simp)⟩
        rw [List.filter_append, List.filter_cons, if_neg (by rw [c]; simp), List.filter_nil, List.append_nil]
        exact ih.cnt
      · have c : done.contains x = false := by simpa using c
        rw [if_neg (by rw [c]; exact Bool.false_ne_true)]
        have hlt := rem_ins hx c
        obtain ⟨m, rfl⟩ : ∃ m, n = m + 1 := ⟨n - 1, by omega⟩
        have bi := hr m rfl a.1 (insM done x) (some x) (by omega) ih.kb
        refine ⟨bi.kb, fun v hv => ?_, ?_, ?_⟩
        · rcases List.mem_append.mp hv with hv | hv
          · exact ih.len v hv
          · rw [List.mem_singleton.mp hv]
            refine ⟨?_, fun y hy => ?_⟩
            · show (_ :: _).length ≤ _
              rw [List.length_cons]
              have := bi.len
              omega
            · rcases List.mem_cons.mp hy with e | hy
              · rw [e]; exact hx
              · exact bi.mem y hy
        · rw [List.filter_append, List.filter_cons, if_pos (by rw [c]; rfl), List.filter_nil, List.length_append]
          have h1 := ih.cnt
          have h2 := bi.cnt
          show (rec a.1 (insM done x) (some x)).1.length + 1 ≤ _
          show _ ≤ kn.length + 1 + (_ + 1) * cntB (m + 1 - 1)
          rw [Nat.add_mul, Nat.one_mul]
          rw [show m + 1 - 1 = m by omega] at h1 ⊢
          omega
        · rw [List.length_append, List.length_append]
          have := ih.many
          show _ + 1 ≤ _ + 1
          omega
  exact fun pre => this _ pre rfl
theorem bestF_inv {ws : List (List Nat)} {ns : List Nat} {n : Nat} {rec : RecB} (hr : RecOk ns n rec) {kn : Kn} {done : List Nat} {last : Option Nat} (hn : remM ns done ≤ n) (hk : KnB ns kn) : BestInv ns n kn done (bestF ws ns rec kn done last) := by
  unfold bestF
  cases hl : lookK kn (done, last) with
  | some v => exact ⟨hk, (hk _ (lookK_mem hl)).1, (hk _ (lookK_mem hl)).2, Nat.le_add_right _ _⟩
  | none =>
    have li := loop_inv (ws := ws) (last := last) hr hn hk ns fun _ h => h
    have hb : (bestOf (ns.foldl (stepB ws rec done last) (kn, [])).2).2.length ≤ remM ns done ∧ ∀ x ∈ (bestOf (ns.foldl (stepB ws rec done last) (kn, [])).2).2, x ∈ ns := by
      by_cases c : (ns.foldl (stepB ws rec done last) (kn, [])).2 = []
      · rw [c]; exact ⟨Nat.zero_le _, fun x hx => absurd hx (by simp [bestOf])⟩
      · exact li.len _ (bestOf_mem c)
    refine ⟨fun e he => ?_, hb.1, hb.2, ?_⟩
    · rcases List.mem_append.mp he with he | he
      · exact li.kb e he
      · rw [List.mem_singleton.mp he]; exact hb
    · show (_ ++ [_]).length ≤ _
      rw [List.length_append]
      have h1 := li.cnt
      show _ + 1 ≤ _
      refine Nat.le_trans h1 ?_
      have h2 : (ns.filter fun m => !done.contains m).length ≤ n := hn
      cases n with
      | zero =>
        have : (ns.filter fun m => !done.contains m).length = 0 := by omega
        rw [this]
        show kn.length + 1 + 0 * _ ≤ kn.length + 1
        omega
      | succ m =>
        show kn.length + 1 + _ * cntB m ≤ kn.length + (1 + (m + 1) * cntB m)
        have := Nat.mul_le_mul_right (cntB m) h2
        omega
theorem bestS_inv (ws : List (List Nat)) (ns : List Nat) : ∀ n, ∀ kn done last, remM ns done ≤ n → KnB ns kn → BestInv ns n kn done (bestS ws ns n kn done last)
  | 0, kn, done, last, hn, hk => bestF_inv (fun m h => absurd h (by omega)) hn hk
  | n + 1, kn, done, last, hn, hk => bestF_inv (fun m h kn done last h1 h2 => by
    obtain rfl : n = m := by omega
    exact bestS_inv ws ns n kn done last h1 h2) hn hk
theorem recS_ok (ws : List (List Nat)) (ns : List Nat) (n : Nat) : RecOk ns n (recS ws ns n) := fun m h kn done last h1 h2 => by
  subst h
  exact bestS_inv ws ns m kn done last h1 h2
theorem lookK_app {kn : Kn} {e : PKey × PVal} {k : PKey} : lookK (kn ++ [e]) k = (lookK kn k).or (if e.1 = k then some e.2 else none) := by
  unfold lookK
  rw [List.find?_append]
  cases kn.find? fun e => decide (e.1 = k) with
  | some x => rfl
  | none =>
    by_cases c : e.1 = k
    · simp [c]
    · simp [c]
theorem bestS_key (ws : List (List Nat)) (ns : List Nat) (n : Nat) (kn : Kn) (done : List Nat) (last : Option Nat) (hno : lookK kn (done, last) = none → lookK (ns.foldl (stepB ws (recS ws ns n) done last) (kn, [])).1 (done, last) = none) : lookK (bestS ws ns n kn done last).1 (done, last) = some (bestS ws ns n kn done last).2 := by
  rw [bestS_rec]
  unfold bestF
  cases hl : lookK kn (done, last) with
  | some v => exact hl
  | none =>
    show lookK (_ ++ [_]) _ = _
    rw [lookK_app, hno hl]
    simp
/-- only keys of more done words are put in -/
def Bigger (done : List Nat) (kn kn' : Kn) : Prop := ∀ k, k.1.length ≤ done.length → lookK kn k = none → lookK kn' k = none
theorem bigger_rec (ws : List (List Nat)) (ns : List Nat) : ∀ (n : Nat) (kn : Kn) (done : List Nat) (last : Option Nat) (k : PKey), k.1.length < done.length → lookK kn k = none → lookK (bestS ws ns n kn done last).1 k = none := by
  have loop : ∀ (rec : RecB) (done : List Nat) (last : Option Nat) (k : PKey), k.1.length ≤ done.length → (∀ kn done' last', done'.length = done.length + 1 → lookK kn k = none → lookK (rec kn done' last').1 k = none) → ∀ (l : List Nat) (a : Kn × List PVal), lookK a.1 k = none → lookK (l.foldl (stepB ws rec done last) a).1 k = none := by
    intro rec done last k hk hr l
    induction l with
    | nil => exact fun a h => h
    | cons x l ih =>
      intro a h
      refine ih _ ?_
      unfold stepB
      split
      · exact h
      · exact hr _ _ _ (ins_len _ _) h
  have main : ∀ (n : Nat) (kn : Kn) (done : List Nat) (last : Option Nat) (k : PKey), k.1.length < done.length → lookK kn k = none → lookK (bestS ws ns n kn done last).1 k = none := by
    intro n
    induction n with
    | zero =>
      intro kn done last k hk h
      rw [bestS_rec]
      unfold bestF
      cases hl : lookK kn (done, last) with
      | some v => exact h
      | none =>
        show lookK (_ ++ [_]) _ = _
        rw [lookK_app, loop _ done last k (by omega) (fun kn done' last' _ h => h) ns (kn, []) h, if_neg (fun e => by rw [← e] at hk; exact Nat.lt_irrefl _ hk)]; rfl
    | succ n ih =>
      intro kn done last k hk h
      rw [bestS_rec]
      unfold bestF
      cases hl : lookK kn (done, last) with
      | some v => exact h
      | none =>
        show lookK (_ ++ [_]) _ = _
        rw [lookK_app, loop (recS ws ns (n + 1)) done last k (by omega) (fun kn done' last' hd h => ih kn done' last' k (by omega) h) ns (kn, []) h, if_neg (fun e => by rw [← e] at hk; exact Nat.lt_irrefl _ hk)]; rfl
  exact main
theorem loop_key (ws : List (List Nat)) (ns : List Nat) (n : Nat) {kn : Kn} {done : List Nat} {last : Option Nat} (hk : lookK kn (done, last) = none) : lookK (ns.foldl (stepB ws (recS ws ns n) done last) (kn, [])).1 (done, last) = none := by
  have : ∀ (l : List Nat) (a : Kn × List PVal), lookK a.1 (done, last) = none → lookK (l.foldl (stepB ws (recS ws ns n) done last) a).1 (done, last) = none := fun l => by
    induction l with
    | nil => exact fun a h => h
    | cons x l ih =>
      intro a h
      refine ih _ ?_
      unfold stepB
      split
      · exact h
      · cases n with
        | zero => exact h
        | succ n => exact bigger_rec ws ns n _ _ _ (done, last) (by rw [ins_len]; show done.length < _; omega) h
  exact this ns (kn, []) hk
/-! the free words -/
def freeB (ws : List (List Nat)) (w : List Nat) : Bool := (ws.filter fun o => !(o == w) && inS w o).isEmpty
def freeM (ws : List (List Nat)) : List Nat := (ws.zipIdx.filter fun q => freeB ws q.1).map (·.2)
theorem free_lt {ws : List (List Nat)} : ∀ n ∈ freeM ws, n < ws.length := fun n hn => by
  obtain ⟨q, hq, rfl⟩ := List.mem_map.mp hn
  have := List.mk_mem_zipIdx_iff_getElem?.mp (List.mem_filter.mp hq).1
  exact (List.getElem?_eq_some_iff.mp this).1
theorem free_len (ws : List (List Nat)) : (freeM ws).length ≤ ws.length := by
  unfold freeM
  rw [List.length_map]
  exact Nat.le_trans (List.length_filter_le _ _) (by rw [List.length_zipIdx]; exact Nat.le_refl _)
theorem alikeV (l : List PVal) : PySem.W.AlikeAll (l.map gV) := ⟨fun x hx y hy => by
  obtain ⟨a, _, rfl⟩ := List.mem_map.mp hx
  obtain ⟨b, _, rfl⟩ := List.mem_map.mp hy
  have e : ∀ l : List Nat, l.map gN = (l.map fun n : Nat => (n : Int)).map PyData.int := fun l => by rw [List.map_map]; rfl
  show PySem.W.alikeAll [.int (a.1 : Nat), .list (a.2.map gN)] [.int (b.1 : Nat), .list (b.2.map gN)] = true
  rw [e, e]
  show (true && (PySem.W.alikeAll _ _ && true)) = true
  rw [PySem.W.alike_ints]; rfl, fun x hx => by
  obtain ⟨a, _, rfl⟩ := List.mem_map.mp hx
  exact fun h => PyData.noConfusion h⟩
theorem depth_gV (v : PVal) : PyData.depth (gV v) ≤ 2 := depT (n := 1) fun d hd => by
  rcases List.mem_cons.mp hd with e | hd
  · rw [e]; exact Nat.zero_le _
  · rw [List.mem_singleton.mp hd]
    exact depLM (n := 0) fun a => Nat.le_refl 0
theorem depthV (l : List PVal) : PyData.depthAll (l.map gV) ≤ 60 := Nat.le_trans (depAll (n := 2) fun d hd => by
  obtain ⟨a, _, rfl⟩ := List.mem_map.mp hd
  exact depth_gV a) (by decide)
/-- what best tells -/
def bestV (ws : List (List Nat)) : PVal := (bestS ws (freeM ws) 8 [] [] none).2
def bestD (ws : List (List Nat)) : PyData := .tuple [.int ((bestV ws).1 : Nat), .list ((bestV ws).2.map gN), dS (layM ((bestV ws).2.map fun n => ws.getD n default)).1]
theorem rem_nil (ns : List Nat) : remM ns [] = ns.length := by unfold remM; rw [show (ns.filter fun m => !([] : List Nat).contains m) = ns from List.filter_eq_self.mpr (fun _ _ => rfl)]
theorem best_inv8 {ws : List (List Nat)} (h : (freeM ws).length ≤ 8) : BestInv (freeM ws) 8 [] [] (bestS ws (freeM ws) 8 [] [] none) := bestS_inv ws (freeM ws) 8 [] [] none (by rw [rem_nil]; exact h) fun e he => absurd he (by simp)
end G

namespace G
/-! ### no text is shorter than the laid one -/
def St (T w : List Nat) (p : Nat) : Prop := ∀ j, j < w.length → T[p + j]? = w[j]?
def Pre (t T : List Nat) : Prop := ∀ j, j < t.length → T[j]? = t[j]?
def Feas (T : List Nat) : Nat → List (List Nat) → Prop
  | _, [] => True
  | b, w :: ws => ∃ p, b ≤ p ∧ St T w p ∧ Feas T p ws
def gre : List (List Nat) → List Nat → Nat → List Nat
  | [], t, _ => t
  | w :: ws, t, b => gre ws (txM t w (plM t w b)) (plM t w b)
theorem gre_lay : ∀ (ws : List (List Nat)) (t : List Nat) (bs : List Nat), (ws.foldl layStep (t, bs)).1 = gre ws t (lastN bs)
  | [], t, bs => rfl
  | w :: ws, t, bs => by
    show (ws.foldl layStep (txM t w (plM t w (lastN bs)), bs ++ [plM t w (lastN bs)])).1 = _
    rw [gre_lay ws, lastN_app]; rfl
theorem Pre.le {t T : List Nat} (h : Pre t T) : t.length ≤ T.length := Classical.byContradiction fun c => by
  have := h T.length (by omega)
  rw [List.getElem?_eq_none (Nat.le_refl _), List.getElem?_eq_getElem (by omega)] at this
  cases this
theorem Feas.mono {T : List Nat} : ∀ {ws : List (List Nat)} {a b : Nat}, a ≤ b → Feas T b ws → Feas T a ws
  | [], _, _, _, _ => trivial
  | _ :: _, _, _, h, ⟨p, h1, h2, h3⟩ => ⟨p, Nat.le_trans h h1, h2, h3⟩
theorem plM_first {t w : List Nat} {b x : Nat} (h1 : b ≤ x) (h2 : x < plM t w b) : ∃ n, uAt t w x = some n := by
  have hl := @paM_len t w b
  obtain ⟨n, _, h⟩ := paM_get (t := t) (w := w) (p := b) (x - b) (by omega)
  exact ⟨n, by rw [← h]; congr 1; omega⟩
theorem getD_eq {l : List Nat} {i : Nat} (h : i < l.length) : l[i]? = some (l.getD i default) := by
  rw [List.getD_eq_getElem?_getD, List.getElem?_eq_getElem h]; rfl
theorem txM_get1 {t w : List Nat} {p j : Nat} (h : j < t.length) : (txM t w p)[j]? = t[j]? := by
  unfold txM; rw [List.getElem?_append_left h]
theorem txM_get2 {t w : List Nat} {p j : Nat} (hp : p ≤ t.length) (h : t.length ≤ j) : (txM t w p)[j]? = w[j - p]? := by
  unfold txM
  rw [List.getElem?_append_right h, List.getElem?_drop]
  congr 1; omega
theorem txM_leng {t w : List Nat} {p : Nat} (hp : p ≤ t.length) : (txM t w p).length = max t.length (p + w.length) := by
  unfold txM; rw [List.length_append, List.length_drop]; omega
theorem fits_get {t w : List Nat} {p j : Nat} (h : uAt t w p = none) (h1 : p ≤ j) (h2 : j < t.length) (h3 : j < p + w.length) : t[j]? = w[j - p]? := by
  rw [getD_eq h2, getD_eq (show j - p < w.length by omega), uAt_none h j h1 h2 h3]
theorem txM_st {t w : List Nat} {p : Nat} (hp : p ≤ t.length) (h : uAt t w p = none) : St (txM t w p) w p := fun j hj => by
  by_cases c : p + j < t.length
  · rw [txM_get1 c, fits_get h (by omega) c (by omega)]; congr 1; omega
  · rw [txM_get2 hp (by omega)]; congr 1; omega
theorem Feas.shift {T : List Nat} {p p' : Nat} (hp : p ≤ p') (hT : p' ≤ T.length) : ∀ {ws : List (List Nat)} {b : Nat}, p' ≤ b → Feas T b ws → Feas (T.take p ++ T.drop p') (b - (p' - p)) ws
  | [], _, _, _ => trivial
  | w :: ws, b, hb, ⟨q, h1, h2, h3⟩ => by
    refine ⟨q - (p' - p), by omega, fun j hj => ?_, Feas.shift hp hT (by omega) h3⟩
    rw [List.getElem?_append_right (by rw [List.length_take]; omega), List.length_take, List.getElem?_drop, ← h2 j hj]
    congr 1; omega
theorem gre_least : ∀ (ws : List (List Nat)) (t : List Nat) (b : Nat) (T : List Nat), (∀ w ∈ ws, w ≠ []) → b ≤ t.length → Pre t T → Feas T b ws → (gre ws t b).length ≤ T.length
  | [], t, b, T, _, _, h, _ => h.le
  | w :: ws, t, b, T, hne, hb, h, ⟨p', h1, h2, h3⟩ => by
    have hne' : ∀ w ∈ ws, w ≠ [] := fun x hx => hne x (List.mem_cons_of_mem _ hx)
    have hw : 0 < w.length := List.length_pos_iff.mpr (hne w List.mem_cons_self)
    have hp := plM_le (t := t) (w := w) hb
    have hf := plM_stands t w b
    have htl := h.le
    have hpp : plM t w b ≤ p' := Classical.byContradiction fun c => by
      obtain ⟨n, hn⟩ := plM_first (t := t) (w := w) h1 (by omega)
      obtain ⟨a1, a2, a3, a4, _⟩ := uAt_some hn
      have e1 := h n a2
      have e2 := h2 (n - p') (by omega)
      rw [show p' + (n - p') = n by omega, e1, getD_eq a2, getD_eq (show n - p' < w.length by omega)] at e2
      exact a4 (Option.some.inj e2)
    show (gre ws (txM t w (plM t w b)) (plM t w b)).length ≤ _
    have first : ∀ {p : Nat}, p ≤ t.length → p ≤ (txM t w p).length := fun {p} hp => by rw [txM_leng hp]; omega
    generalize plM t w b = p at hp hf hpp
    by_cases c : p + w.length ≤ t.length
    · rw [txM_short c]
      exact gre_least ws t p T hne' hp.2 h (h3.mono hpp)
    · have hT : p' + w.length ≤ T.length := Classical.byContradiction fun c2 => by
        have := h2 (w.length - 1) (by omega)
        rw [List.getElem?_eq_none (by omega), List.getElem?_eq_getElem (by omega)] at this
        cases this
      have hl : (T.take p ++ T.drop p').length ≤ T.length := by rw [List.length_append, List.length_take, List.length_drop]; omega
      refine Nat.le_trans (gre_least ws (txM t w p) p (T.take p ++ T.drop p') hne' (first hp.2) (fun j hj => ?_) ?_) hl
      · rw [txM_leng hp.2] at hj
        by_cases cj : j < p
        · rw [List.getElem?_append_left (by rw [List.length_take]; omega), List.getElem?_take, if_pos cj, txM_get1 (by omega)]
          exact h j (by omega)
        · rw [List.getElem?_append_right (by rw [List.length_take]; omega), List.length_take, List.getElem?_drop]
          have e := h2 (j - p) (by omega)
          rw [show p' + (j - min p T.length) = p' + (j - p) by omega, e]
          by_cases ct : j < t.length
          · rw [txM_get1 ct, fits_get hf (by omega) ct (by omega)]
          · rw [txM_get2 hp.2 (by omega)]
      · have := Feas.shift (T := T) (p := p) (p' := p') hpp (by omega) (Nat.le_refl _) h3
        rwa [show p' - (p' - p) = p by omega] at this
theorem gre_feas : ∀ (ws : List (List Nat)) (t : List Nat) (b : Nat), b ≤ t.length → Pre t (gre ws t b) ∧ Feas (gre ws t b) b ws
  | [], t, b, _ => ⟨fun _ _ => rfl, trivial⟩
  | w :: ws, t, b, hb => by
    have hp := plM_le (t := t) (w := w) hb
    have hf := plM_stands t w b
    show Pre t (gre ws (txM t w (plM t w b)) (plM t w b)) ∧ Feas (gre ws (txM t w (plM t w b)) (plM t w b)) b (w :: ws)
    generalize plM t w b = p at hp hf
    obtain ⟨h1, h2⟩ := gre_feas ws (txM t w p) p (by rw [txM_leng hp.2]; omega)
    refine ⟨fun j hj => ?_, p, hp.1, fun j hj => ?_, h2⟩
    · rw [h1 j (by rw [txM_leng hp.2]; omega), txM_get1 hj]
    · rw [h1 (p + j) (by rw [txM_leng hp.2]; omega)]
      exact txM_st hp.2 hf j hj
/-- behind each place at which the word may begin the text is no shorter -/
theorem gre_step {w : List Nat} {ws : List (List Nat)} {t : List Nat} {b p : Nat} (hne : ∀ x ∈ w :: ws, x ≠ []) (hb : b ≤ t.length) (h1 : b ≤ p) (h2 : p ≤ t.length) (hf : uAt t w p = none) : (gre (w :: ws) t b).length ≤ (gre ws (txM t w p) p).length := by
  obtain ⟨a1, a2⟩ := gre_feas ws (txM t w p) p (by rw [txM_leng h2]; omega)
  refine gre_least (w :: ws) t b _ hne hb (fun j hj => ?_) ⟨p, h1, fun j hj => ?_, a2⟩
  · rw [a1 j (by rw [txM_leng h2]; omega), txM_get1 hj]
  · rw [a1 (p + j) (by rw [txM_leng h2]; omega)]
    exact txM_st h2 hf j hj
def leastM : List (List Nat) → List Nat → Nat → Nat → Nat
  | [], t, _, most => min most t.length
  | w :: ws, t, b, most => if most ≤ t.length then most else (List.range (t.length + 1 - b)).foldl (fun m i => if (uAt t w (b + i)).isNone = true then leastM ws (txM t w (b + i)) (b + i) m else m) most
theorem foldl_min {G : Nat} {f : Nat → Nat → Nat} : ∀ (l : List Nat) (m : Nat), (∀ i ∈ l, ∀ m, min m G ≤ f m i ∧ f m i ≤ m) → (m ≤ G ∨ ∃ i ∈ l, ∀ m, f m i ≤ G) → l.foldl f m = min m G
  | [], m, _, h2 => by
    rcases h2 with h | ⟨_, h, _⟩
    · show m = min m G; omega
    · cases h
  | i :: l, m, h1, h2 => by
    have hi := h1 i List.mem_cons_self m
    show l.foldl f (f m i) = _
    rw [foldl_min l (f m i) (fun j hj => h1 j (List.mem_cons_of_mem _ hj)) ?_]
    · omega
    · rcases h2 with h | ⟨j, hj, h⟩
      · left; omega
      · rcases List.mem_cons.mp hj with rfl | hj
        · left; exact h m
        · right; exact ⟨j, hj, h⟩
theorem leastM_eq : ∀ (ws : List (List Nat)) (t : List Nat) (b most : Nat), (∀ w ∈ ws, w ≠ []) → b ≤ t.length → leastM ws t b most = min most (gre ws t b).length
  | [], t, b, most, _, _ => rfl
  | w :: ws, t, b, most, hne, hb => by
    have hne' : ∀ w ∈ ws, w ≠ [] := fun x hx => hne x (List.mem_cons_of_mem _ hx)
    have hpre := (gre_feas (w :: ws) t b hb).1.le
    unfold leastM
    split
    · omega
    · refine foldl_min _ _ (fun i hi m => ?_) ?_
      · have hi := List.mem_range.mp hi
        split
        · next c =>
          have hf : uAt t w (b + i) = none := by simpa using c
          rw [leastM_eq ws _ _ m hne' (by rw [txM_leng (by omega)]; omega)]
          have := gre_step hne hb (p := b + i) (by omega) (by omega) hf
          omega
        · omega
      · right
        have hp := plM_le (t := t) (w := w) hb
        have hf := plM_stands t w b
        refine ⟨plM t w b - b, List.mem_range.mpr (by omega), fun m => ?_⟩
        rw [show b + (plM t w b - b) = plM t w b by omega, if_pos (by rw [hf]; rfl), leastM_eq ws _ _ m hne' (by rw [txM_leng hp.2]; omega)]
        exact Nat.min_le_right _ _
/-- the walk's step -/
def lstep (w : List Nat) (ws : List (List Nat)) (t : List Nat) (b : Nat) (m i : Nat) : Nat := if (uAt t w (b + i)).isNone = true then leastM ws (txM t w (b + i)) (b + i) m else m
def lto (w : List Nat) (ws : List (List Nat)) (t : List Nat) (b most n : Nat) : Nat := (List.range n).foldl (lstep w ws t b) most
theorem lto_succ (w : List Nat) (ws : List (List Nat)) (t : List Nat) (b most n : Nat) : lto w ws t b most (n + 1) = lstep w ws t b (lto w ws t b most n) n := by
  unfold lto; rw [List.range_succ, List.foldl_append]; rfl
theorem leastM_cons (w : List Nat) (ws : List (List Nat)) (t : List Nat) (b most : Nat) (h : ¬ most ≤ t.length) : leastM (w :: ws) t b most = lto w ws t b most (t.length + 1 - b) := by
  conv => lhs; unfold leastM
  rw [if_neg h]; rfl
theorem least_lay {ws : List (List Nat)} (hne : ∀ w ∈ ws, w ≠ []) (hl : (layM ws).1.length ≤ 1000) : leastM ws [] 0 1000 = (layM ws).1.length := by
  rw [leastM_eq ws [] 0 1000 hne (Nat.le_refl _)]
  have : (layM ws).1 = gre ws [] 0 := gre_lay ws [] []
  rw [← this]; omega
end G

namespace G
open PySem
theorem Pre.trans {a b c : List Nat} (h : Pre a b) (h2 : Pre b c) : Pre a c := fun j hj => by
  rw [h2 j (Nat.lt_of_lt_of_le hj h.le), h j hj]
theorem lay_pref (ws : List (List Nat)) : ∀ k i, i + k = ws.length → Pre (layI ws i).1 (layM ws).1
  | 0, i, h => by
    have : i = ws.length := by omega
    subst this
    rw [layI_all]; exact fun _ _ => rfl
  | k + 1, i, h => by
    refine Pre.trans (fun j hj => ?_) (lay_pref ws k (i + 1) (by omega))
    rw [layI_succ (show i < ws.length by omega)]
    exact txM_get1 hj
theorem beg_to (ws : List (List Nat)) : ∀ i, i ≤ ws.length → ∀ k, k < i → (layI ws i).2[k]? = some (lastN (layI ws (k + 1)).2)
  | 0, _, k, h => absurd h (by omega)
  | i + 1, hi, k, h => by
    have hl : (layI ws i).2.length = i := by
      have : ∀ i, i ≤ ws.length → (layI ws i).2.length = i := fun i => by
        induction i with
        | zero => intro _; rfl
        | succ i ih =>
          intro h
          rw [layI_succ (show i < ws.length by omega)]
          show (_ ++ [_]).length = _
          rw [List.length_append, ih (by omega)]; rfl
      exact this i (by omega)
    by_cases c : k < i
    · rw [layI_succ (show i < ws.length by omega)]
      show (_ ++ [_])[k]? = _
      rw [List.getElem?_append_left (by omega)]
      exact beg_to ws i (by omega) k c
    · obtain rfl : k = i := by omega
      have : lastN (layI ws (k + 1)).2 = plM (layI ws k).1 ws[k] (lastN (layI ws k).2) := by
        rw [layI_succ (show k < ws.length by omega)]; exact lastN_app _ _
      rw [this, layI_succ (show k < ws.length by omega)]
      show (_ ++ [_])[k]? = _
      rw [List.getElem?_append_right (by omega), hl]
      simp
theorem beg_get {ws : List (List Nat)} {k : Nat} (h : k < ws.length) : (layM ws).2.getD k default = lastN (layI ws (k + 1)).2 := by
  have := beg_to ws ws.length (Nat.le_refl _) k h
  rw [layI_all] at this
  rw [List.getD_eq_getElem?_getD, this]; rfl
theorem len_max {ws : List (List Nat)} (g : ∀ w ∈ ws, goodM w) : ∀ i, 1 ≤ i → i ≤ ws.length → ∃ k, k < i ∧ (layI ws i).1.length = lastN (layI ws (k + 1)).2 + (ws.getD k default).length
  | 0, h, _ => absurd h (by omega)
  | i + 1, _, h => by
    have hi : i < ws.length := by omega
    obtain ⟨b1, b2, _, _⟩ := layI_ok g i (by omega)
    have hp := plM_le (t := (layI ws i).1) (w := ws[i]) b2
    have hlast : lastN (layI ws (i + 1)).2 = plM (layI ws i).1 ws[i] (lastN (layI ws i).2) := by
      rw [layI_succ hi]; exact lastN_app _ _
    have hl : (layI ws (i + 1)).1.length = max (layI ws i).1.length (plM (layI ws i).1 ws[i] (lastN (layI ws i).2) + ws[i].length) := by
      rw [layI_succ hi]; exact txM_leng hp.2
    have hgd : ws.getD i default = ws[i] := by rw [List.getD_eq_getElem?_getD, List.getElem?_eq_getElem hi]; rfl
    by_cases c : (layI ws i).1.length ≤ plM (layI ws i).1 ws[i] (lastN (layI ws i).2) + ws[i].length
    · exact ⟨i, by omega, by rw [hl, hlast, hgd]; omega⟩
    · have h1 : 1 ≤ i := by
        cases i with
        | zero =>
          have : (layI ws 0).1.length = 0 := rfl
          omega
        | succ i => omega
      obtain ⟨k, hk, e⟩ := len_max g i h1 (by omega)
      exact ⟨k, by omega, by rw [hl, ← e]; omega⟩
theorem res_row {ws : List (List Nat)} : ∀ i, i ≤ ws.length → ∀ x ∈ resTo ws i, 1 ≤ x.1 ∧ x.1 < i ∧ uAt (layI ws x.1).1 (ws.getD x.1 default) x.2.1 = some x.2.2
  | 0, _, x, hx => by cases hx
  | i + 1, h, x, hx => by
    rcases List.mem_append.mp (show x ∈ resTo ws i ++ _ from hx) with z | z
    · obtain ⟨h1, h2, h3⟩ := res_row i (by omega) x z
      exact ⟨h1, by omega, h3⟩
    · obtain ⟨y, hy, rfl⟩ := List.mem_map.mp z
      obtain ⟨j, hj, e⟩ := List.getElem_of_mem hy
      obtain ⟨n, e1, e2⟩ := paM_get (t := (layI ws i).1) (w := ws.getD i default) (p := lastN (layI ws i).2) j hj
      rw [List.getElem?_eq_getElem hj, e] at e1
      cases e1
      refine ⟨?_, by show i < i + 1; omega, e2⟩
      show 1 ≤ i
      cases i with
      | zero =>
        have : (layI ws 0).1 = [] := rfl
        have := uAt_some e2
        rw [show (layI ws 0).1 = [] from rfl] at this
        exact absurd this.2.1 (by simp)
      | succ i => omega
theorem pa_fst (t w : List Nat) (p : Nat) : (paM t w p).map (·.1) = (List.range (plM t w p - p)).map (p + ·) := by
  have hl := @paM_len t w p
  refine List.ext_getElem? fun j => ?_
  rw [List.getElem?_map, List.getElem?_map]
  by_cases c : j < (paM t w p).length
  · obtain ⟨n, e, _⟩ := paM_get (t := t) (w := w) (p := p) j c
    rw [e, List.getElem?_range (by omega)]; rfl
  · rw [List.getElem?_eq_none (by omega), List.getElem?_eq_none (by rw [List.length_range]; omega)]; rfl
def pairs (ws : List (List Nat)) (i : Nat) : List (Nat × Nat) := (resTo ws i).map fun x => (x.1, x.2.1)
theorem pairs_succ {ws : List (List Nat)} {i : Nat} (h : i < ws.length) : pairs ws (i + 1) = pairs ws i ++ (List.range (lastN (layI ws (i + 1)).2 - lastN (layI ws i).2)).map fun j => (i, lastN (layI ws i).2 + j) := by
  unfold pairs
  show (resTo ws i ++ _).map _ = _
  rw [List.map_append, List.map_map]
  congr 1
  have hgd : ws.getD i default = ws[i] := by rw [List.getD_eq_getElem?_getD, List.getElem?_eq_getElem h]; rfl
  have hlast : lastN (layI ws (i + 1)).2 = plM (layI ws i).1 ws[i] (lastN (layI ws i).2) := by
    rw [layI_succ h]; exact lastN_app _ _
  have := congrArg (List.map fun q => (i, q)) (pa_fst (layI ws i).1 ws[i] (lastN (layI ws i).2))
  rw [List.map_map, List.map_map] at this
  rw [hgd, hlast]
  exact this
theorem pairs_one (ws : List (List Nat)) : pairs ws 1 = [] := by
  have h0 : uAt [] (ws.getD 0 default) 0 = none := uAt_miss fun j hj => absurd hj (by simp)
  have : resTo ws 1 = [] := by show [] ++ List.map _ (paM [] (ws.getD 0 default) 0) = []; rw [(plM_none h0).2]; rfl
  unfold pairs; rw [this]; rfl
abbrev gQ (x : Nat × Nat) : PyData := .tuple [.int (x.1 : Nat), .int (x.2 : Nat)]
theorem eqv_Q (x y : Nat × Nat) : PyData.eqv (gQ x) (gQ y) = (x == y) := by
  show (((x.1 : Nat) : Int) == ((y.1 : Nat) : Int) && ((((x.2 : Nat) : Int) == ((y.2 : Nat) : Int)) && true)) = (x.1 == y.1 && x.2 == y.2)
  rw [Bool.and_true]
  congr 1 <;> (rw [Bool.eq_iff_iff]; simp; omega)
theorem res_wf {ws : List (List Nat)} (g : ∀ w ∈ ws, goodM w) (hl : ws.length ≤ 40) : wfD (.list ((resM ws).map gR)) := by
  have h := layI_ok g ws.length (Nat.le_refl _)
  have h2 := resTo_len (ws := ws) ws.length (Nat.le_refl _)
  refine ⟨by rw [List.length_map, sizeLine_eq]; show (resTo ws ws.length).length < _; omega, wfA_iff.mpr fun d hd => ?_⟩
  obtain ⟨n, _, rfl⟩ := List.mem_map.mp hd
  exact ⟨by rw [sizeLine_eq]; exact (by decide : 3 < 16777216), trivial, trivial, trivial, trivial⟩
/-- the greatest -/
def maxL (ns : List Int) : Int := ns.foldr max (ns.headD 0)
theorem maxL_ge (ns : List Int) : ∀ y ∈ ns, y ≤ maxL ns := by
  unfold maxL
  generalize ns.headD 0 = d
  induction ns with
  | nil => intro y h; cases h
  | cons n ns ih =>
    intro y h
    show y ≤ max n (ns.foldr max d)
    rcases List.mem_cons.mp h with rfl | h
    · omega
    · have := ih y h; omega
theorem foldr_max_mem (d : Int) : ∀ ns : List Int, ns.foldr max d = d ∨ ns.foldr max d ∈ ns
  | [] => .inl rfl
  | n :: ns => by
    show max n (ns.foldr max d) = d ∨ max n (ns.foldr max d) ∈ n :: ns
    by_cases c : ns.foldr max d ≤ n
    · rw [Int.max_eq_left c]; exact .inr List.mem_cons_self
    · rw [Int.max_eq_right (by omega)]
      exact (foldr_max_mem d ns).imp_right (List.mem_cons_of_mem _)
theorem maxL_mem {ns : List Int} (h : ns ≠ []) : maxL ns ∈ ns := by
  cases ns with
  | nil => exact absurd rfl h
  | cons n ns =>
    rcases foldr_max_mem n (n :: ns) with e | e
    · show (n :: ns).foldr max n ∈ _; rw [e]; exact List.mem_cons_self
    · exact e
section
open L2
variable {C : Ctx} {N : List Str} {sc : Scope} {fn : Str → Bool} {k : Nat} {J : Type} {X : J → Cx}
theorem cf_max {ns : List Int} (hx : SX C N sc fn k X) (h : ns ≠ []) : CbF X (.builtin "max") [.list (ns.map .int)] (.int (maxL ns)) := fun _ => ⟨trivial, fun S T _ => cb_max hx (maxL_mem h) (maxL_ge ns)⟩
end
end G

namespace G
open PySem
/-! ### ends of words -/
def endB (u w : List Nat) : Bool := Txt.endswith (tx u) (tx w)
theorem endB_eq (u w : List Nat) : endB u w = (decide (w.length ≤ u.length) && (u.drop (u.length - w.length) == w)) := by
  have e : endB u w = (decide (0 + (tx w).length ≤ (tx u).length) && Builtin.Str.subAt (tx u) (tx w) ((tx u).length - (tx w).length)) := rfl
  rw [e, StrLaws.subAt_eq, tx_len, tx_len, Nat.zero_add]
  by_cases c : w.length ≤ u.length
  · rw [decide_eq_true c, Bool.true_and, Bool.true_and]
    show (List.take w.length (List.drop (u.length - w.length) u.toArray.toList) == w.toArray.toList) = _
    rw [List.toList_toArray, List.toList_toArray, List.take_of_length_le (by rw [List.length_drop]; omega)]
  · rw [decide_eq_false c, Bool.false_and, Bool.false_and]
theorem endB_iff {u w : List Nat} : endB u w = true ↔ ∃ p, u = p ++ w := by
  rw [endB_eq, Bool.and_eq_true, decide_eq_true_eq, beq_iff_eq]
  constructor
  · rintro ⟨h1, h2⟩
    exact ⟨u.take (u.length - w.length), by conv => lhs; rw [← List.take_append_drop (u.length - w.length) u]; rw [h2]⟩
  · rintro ⟨p, rfl⟩
    refine ⟨by rw [List.length_append]; omega, ?_⟩
    rw [List.length_append, Nat.add_sub_cancel, List.drop_left]
theorem end_longer (u w : List Nat) : (!(u == w) && endB u w) = (decide (w.length < u.length) && endB u w) := by
  rw [Bool.eq_iff_iff, Bool.and_eq_true, Bool.and_eq_true, decide_eq_true_eq, Bool.not_eq_true', beq_eq_false_iff_ne]
  constructor
  · rintro ⟨h1, h2⟩
    obtain ⟨p, rfl⟩ := endB_iff.mp h2
    refine ⟨?_, h2⟩
    cases p with
    | nil => exact absurd rfl h1
    | cons => rw [List.length_append, List.length_cons]; omega
  · rintro ⟨h1, h2⟩
    exact ⟨fun e => by rw [e] at h1; omega, h2⟩
/-- the numbers of the other words that end in a word -/
def tailL (ws : List (List Nat)) (w : List Nat) : List Nat := (ws.zipIdx.filter fun q => !(q.1 == w) && endB q.1 w).map (·.2)
def tailM (ws : List (List Nat)) (w : List Nat) : Option Nat := (tailL ws w).head?
theorem zip_range (ws : List (List Nat)) : ws.zipIdx = (List.range ws.length).map fun i => (ws.getD i default, i) := by
  refine List.ext_getElem? fun n => ?_
  rw [List.getElem?_zipIdx, List.getElem?_map]
  by_cases c : n < ws.length
  · rw [List.getElem?_range c, List.getElem?_eq_getElem c]
    show some (ws[n], 0 + n) = some (ws.getD n default, n)
    rw [List.getD_eq_getElem?_getD, List.getElem?_eq_getElem c, Nat.zero_add]; rfl
  · rw [List.getElem?_eq_none (by omega), List.getElem?_eq_none (by rw [List.length_range]; omega)]; rfl
theorem tailL_range (ws : List (List Nat)) (w : List Nat) : tailL ws w = (List.range ws.length).filter fun i => decide (w.length < (ws.getD i default).length) && endB (ws.getD i default) w := by
  unfold tailL
  rw [zip_range, List.filter_map, List.map_map]
  have : ((fun x : List Nat × Nat => x.2) ∘ fun i => (ws.getD i default, i)) = id := rfl
  rw [this, List.map_id]
  congr 1
  funext i
  exact end_longer _ _
/-- the least room -/
def roomM (ws : List (List Nat)) : Int := ((ws.filter fun w => (tailM ws w).isNone).map fun w => (w.length : Int) + 1).sum
theorem roomI_sum (ws : List (List Nat)) (i : Nat) (h : i < ws.length) : (((ws.take (i + 1)).filter fun w => (tailM ws w).isNone).map fun w => (w.length : Int) + 1).sum = (((ws.take i).filter fun w => (tailM ws w).isNone).map fun w => (w.length : Int) + 1).sum + ((ws[i].length : Int) + 1) * (if (tailM ws ws[i]).isNone = true then 1 else 0) := by
  rw [List.take_succ_eq_append_getElem h, List.filter_append, List.map_append, List.sum_append]
  congr 1
  rw [List.filter_cons]
  split
  · simp
  · simp
/-! ### what is kept -/
def kM (ws : List (List Nat)) : KS := ws.foldl (fun k w => (putS k w).1) ⟨[], [], []⟩
abbrev kI (ws : List (List Nat)) (i : Nat) : KS := kM (ws.take i)
def lputM (kept w : List Nat) : List Nat × Nat := match findM kept (w ++ [46]) with
  | some i => (kept, i)
  | none => (kept ++ w ++ [46], kept.length)
def keptM (ws : List (List Nat)) : List Nat := ws.foldl (fun k w => (lputM k w).1) []
theorem putS_new {k : KS} {w : List Nat} (h : lookP k.pl w = none) : putS k w = (⟨(lputM k.kept w).1, k.pl ++ [(w, (lputM k.kept w).2)], k.com ++ [w]⟩, (lputM k.kept w).2) := by
  unfold putS lputM
  rw [h]
  cases findM k.kept (w ++ [46]) <;> rfl
theorem lookP_none {pl : List (List Nat × Nat)} {w : List Nat} (h : w ∉ pl.map (·.1)) : lookP pl w = none := by
  unfold lookP
  rw [Option.map_eq_none_iff, List.find?_eq_none]
  intro q hq c
  exact h (beq_iff_eq.mp c ▸ List.mem_map_of_mem hq)
theorem kM_snoc (ws : List (List Nat)) (w : List Nat) : kM (ws ++ [w]) = (putS (kM ws) w).1 := by unfold kM; rw [List.foldl_append]; rfl
theorem keptM_snoc (ws : List (List Nat)) (w : List Nat) : keptM (ws ++ [w]) = (lputM (keptM ws) w).1 := by unfold keptM; rw [List.foldl_append]; rfl
theorem lputM_ok {kept w : List Nat} (h : okW kept) (hw : okW w) : okW (lputM kept w).1 ∧ (lputM kept w).1.length ≤ kept.length + w.length + 1 := by
  unfold lputM
  cases findM kept (w ++ [46]) with
  | some i => exact ⟨h, by show kept.length ≤ _; omega⟩
  | none => exact ⟨(h.app hw).app fun c hc => by
      have : c = 46 := by simpa using hc
      omega, by show (kept ++ w ++ [46]).length ≤ _; rw [List.length_append, List.length_append]; simp⟩
structure KOk (ws : List (List Nat)) (k : KS) : Prop where
  kept : k.kept = keptM ws
  keys : k.pl.map (·.1) = ws
  com : k.com = ws
  ok : okW k.kept
  len : k.kept.length ≤ 13 * ws.length
theorem kOk : ∀ {n : Nat} {ws : List (List Nat)}, ws.length = n → ws.Nodup → (∀ w ∈ ws, goodM w) → KOk ws (kM ws)
  | 0, ws, h, _, _ => by
    have : ws = [] := List.eq_nil_of_length_eq_zero h
    subst this
    exact ⟨rfl, rfl, rfl, okW.nil, Nat.le_refl _⟩
  | n + 1, ws, h, hd, g => by
    have hne : ws ≠ [] := by intro e; rw [e] at h; cases h
    obtain ⟨vs, w, rfl⟩ : ∃ vs w, ws = vs ++ [w] := ⟨ws.dropLast, ws.getLast hne, (List.dropLast_concat_getLast hne).symm⟩
    have hd' := List.nodup_append.mp hd
    have ih := kOk (n := n) (ws := vs) (by simpa using h) hd'.1 fun x hx => g x (List.mem_append_left _ hx)
    have gw := g w (List.mem_append_right _ (by simp))
    have hl : lookP (kM vs).pl w = none := lookP_none (by
      rw [ih.keys]
      exact fun hx => hd'.2.2 w hx w (by simp) rfl)
    have hlp := lputM_ok (w := w) ih.ok gw.ok
    rw [kM_snoc, putS_new hl]
    refine ⟨by rw [keptM_snoc, ih.kept], by rw [List.map_append, ih.keys]; rfl, by rw [ih.com], hlp.1, ?_⟩
    show (lputM (kM vs).kept w).1.length ≤ _
    have := ih.len
    have := gw.2.1
    rw [List.length_append]
    show _ ≤ 13 * (vs.length + 1)
    omega
theorem kI_ok {ws : List (List Nat)} (g : Ws ws) (i : Nat) : KOk (ws.take i) (kI ws i) := kOk rfl (g.nd.sublist (List.take_sublist _ _)) fun w hw => g.good w (List.mem_of_mem_take hw)
end G

namespace G
/-! ### closed words -/
def noDot (w : List Nat) : Prop := 46 ∉ w
theorem goodM.noDot {w : List Nat} (h : goodM w) : noDot w := fun c => by
  have := h.2.2 46 c
  exact absurd this (by decide)
def flatC (F : List (List Nat)) : List Nat := (F.map (· ++ [46])).flatten
theorem flatC_app (F G : List (List Nat)) : flatC (F ++ G) = flatC F ++ flatC G := by unfold flatC; rw [List.map_append, List.flatten_append]
theorem flatC_one (w : List Nat) : flatC [w] = w ++ [46] := by simp [flatC]
theorem flatC_cons (w : List Nat) (F : List (List Nat)) : flatC (w :: F) = w ++ 46 :: flatC F := by simp [flatC]
/-- two words up to the same first dot -/
theorem dot_eq : ∀ {u w a b : List Nat}, noDot u → noDot w → u ++ 46 :: a = w ++ 46 :: b → u = w
  | [], [], _, _, _, _, _ => rfl
  | [], y :: w, _, _, _, h2, e => by
    have : 46 = y := (List.cons.inj e).1
    exact absurd (this ▸ List.mem_cons_self) h2
  | x :: u, [], _, _, h1, _, e => by
    have : x = 46 := (List.cons.inj e).1
    exact absurd (this ▸ List.mem_cons_self) h1
  | x :: u, y :: w, a, b, h1, h2, e => by
    obtain ⟨e1, e2⟩ := List.cons.inj e
    rw [e1, dot_eq (u := u) (w := w) (a := a) (b := b) (fun c => h1 (List.mem_cons_of_mem _ c)) (fun c => h2 (List.mem_cons_of_mem _ c)) e2]
theorem closed_in : ∀ {F : List (List Nat)} {w a b : List Nat}, (∀ f ∈ F, noDot f) → noDot w → flatC F = a ++ (w ++ 46 :: b) → ∃ f ∈ F, endB f w = true
  | [], w, a, b, _, _, e => by
    have := congrArg List.length e
    simp [flatC] at this
  | f :: F, w, a, b, hF, hw, e => by
    rw [flatC_cons] at e
    have hf := hF f List.mem_cons_self
    have e' : (f ++ [46]) ++ flatC F = a ++ (w ++ 46 :: b) := by rw [← e]; simp
    rcases List.append_eq_append_iff.mp e' with ⟨c, h1, h2⟩ | ⟨c, h1, h2⟩
    · -- a = (f ++ [46]) ++ c
      obtain ⟨f', hf', q⟩ := closed_in (F := F) (w := w) (a := c) (b := b) (fun x hx => hF x (List.mem_cons_of_mem _ hx)) hw h2
      exact ⟨f', List.mem_cons_of_mem _ hf', q⟩
    · -- f ++ [46] = a ++ c
      by_cases hc : c = []
      · subst hc
        rw [List.append_nil] at h1
        rw [List.nil_append] at h2
        obtain ⟨f', hf', q⟩ := closed_in (F := F) (w := w) (a := []) (b := b) (fun x hx => hF x (List.mem_cons_of_mem _ hx)) hw h2.symm
        exact ⟨f', List.mem_cons_of_mem _ hf', q⟩
      · obtain ⟨c', x, rfl⟩ : ∃ c' x, c = c' ++ [x] := ⟨c.dropLast, c.getLast hc, (List.dropLast_concat_getLast hc).symm⟩
        rw [← List.append_assoc] at h1
        obtain ⟨h3, h4⟩ := List.append_inj' h1 rfl
        have hx : x = 46 := by simpa using h4.symm
        subst hx
        have hc' : noDot c' := fun z => hf (h3 ▸ List.mem_append_right _ z)
        have h5 : c' ++ 46 :: flatC F = w ++ 46 :: b := by rw [h2]; simp
        have h6 := dot_eq hc' hw h5
        exact ⟨f, List.mem_cons_self, endB_iff.mpr ⟨a, by rw [h3, h6]⟩⟩
theorem in_closed {F : List (List Nat)} {w f : List Nat} (hf : f ∈ F) (h : endB f w = true) : ∃ a b, flatC F = a ++ (w ++ 46 :: b) := by
  obtain ⟨F1, F2, rfl⟩ := List.append_of_mem hf
  obtain ⟨p, rfl⟩ := endB_iff.mp h
  exact ⟨flatC F1 ++ p, flatC F2, by rw [flatC_app, flatC_cons]; simp⟩
theorem stB_iff {t w : List Nat} {i : Nat} (hw : w ≠ []) : stB t w i = true ↔ ∃ a b, t = a ++ (w ++ b) ∧ a.length = i := by
  constructor
  · intro h
    have hl := stB_le hw h
    have e := beq_iff_eq.mp h
    refine ⟨t.take i, t.drop (i + w.length), ?_, by rw [List.length_take]; omega⟩
    have e2 : t.drop i = w ++ t.drop (i + w.length) := by
      conv => lhs; rw [← List.take_append_drop w.length (t.drop i), e]
      rw [List.drop_drop]
    rw [← e2, List.take_append_drop]
  · rintro ⟨a, b, rfl, rfl⟩
    unfold stB
    rw [List.drop_left, List.take_left]
    exact beq_self_eq_true _
theorem stB_grow {t w r : List Nat} {i : Nat} (hw : w ≠ []) (h : stB t w i = true) : stB (t ++ r) w i = true := by
  obtain ⟨a, b, rfl, rfl⟩ := (stB_iff hw).mp h
  exact (stB_iff hw).mpr ⟨a, b ++ r, by simp, rfl⟩
theorem findM_has {t w : List Nat} (hw : w ≠ []) : (findM t w).isSome = true ↔ ∃ a b, t = a ++ (w ++ b) := by
  constructor
  · intro h
    obtain ⟨i, hi⟩ := Option.isSome_iff_exists.mp h
    obtain ⟨_, h2, _⟩ := findM_some.mp hi
    obtain ⟨a, b, e, _⟩ := (stB_iff hw).mp h2
    exact ⟨a, b, e⟩
  · rintro ⟨a, b, e⟩
    cases hh : findM t w with
    | some i => rfl
    | none =>
      have := findM_none.mp hh a.length (by rw [e, List.length_append]; omega)
      rw [(stB_iff hw).mpr ⟨a, b, e, rfl⟩] at this
      cases this
theorem dot_ne (w : List Nat) : w ++ [46] ≠ [] := by simp
theorem closed_iff {F : List (List Nat)} {w : List Nat} (hF : ∀ f ∈ F, noDot f) (hw : noDot w) : (findM (flatC F) (w ++ [46])).isSome = true ↔ ∃ f ∈ F, endB f w = true := by
  rw [findM_has (dot_ne w)]
  constructor
  · rintro ⟨a, b, e⟩
    exact closed_in (a := a) (b := b) hF hw (by rw [e]; simp)
  · rintro ⟨f, hf, h⟩
    obtain ⟨a, b, e⟩ := in_closed hf h
    exact ⟨a, b, by rw [e]; simp⟩
/-- the words that are put behind the text -/
def foM (ws : List (List Nat)) : List (List Nat) := ws.foldl (fun F w => if (findM (flatC F) (w ++ [46])).isSome then F else F ++ [w]) []
theorem foM_snoc (ws : List (List Nat)) (w : List Nat) : foM (ws ++ [w]) = if (findM (flatC (foM ws)) (w ++ [46])).isSome then foM ws else foM ws ++ [w] := by unfold foM; rw [List.foldl_append]; rfl
theorem snoc_ind {P : List (List Nat) → Prop} (h0 : P []) (hs : ∀ ws w, P ws → P (ws ++ [w])) (ws : List (List Nat)) : P ws := by
  have : ∀ n (ws : List (List Nat)), ws.length = n → P ws := fun n => by
    induction n with
    | zero => intro ws h; rw [List.eq_nil_of_length_eq_zero h]; exact h0
    | succ n ih =>
      intro ws h
      have hne : ws ≠ [] := by intro e; rw [e] at h; cases h
      rw [← List.dropLast_concat_getLast hne]
      exact hs _ _ (ih _ (by rw [List.length_dropLast, h]; rfl))
  exact this _ ws rfl
theorem kept_fo (ws : List (List Nat)) : keptM ws = flatC (foM ws) := by
  induction ws using snoc_ind with
  | h0 => rfl
  | hs ws w ih =>
    rw [keptM_snoc, foM_snoc, ih]
    unfold lputM
    cases hh : findM (flatC (foM ws)) (w ++ [46]) with
    | some i => rfl
    | none =>
      show flatC (foM ws) ++ w ++ [46] = flatC (foM ws ++ [w])
      rw [flatC_app, flatC_one, List.append_assoc]
theorem fo_sub (ws : List (List Nat)) : (foM ws).Sublist ws := by
  induction ws using snoc_ind with
  | h0 => exact List.Sublist.refl _
  | hs ws w ih =>
    rw [foM_snoc]
    split
    · exact ih.trans (List.sublist_append_left _ _)
    · exact List.Sublist.append ih (List.Sublist.refl _)
theorem fo_closed {ws : List (List Nat)} (g : ∀ w ∈ ws, noDot w) : ∀ u ∈ ws, ∃ f ∈ foM ws, endB f u = true := by
  induction ws using snoc_ind with
  | h0 => exact fun u hu => absurd hu (by simp)
  | hs ws w ih =>
    have g' : ∀ w ∈ ws, noDot w := fun x hx => g x (List.mem_append_left _ hx)
    have gF : ∀ f ∈ foM ws, noDot f := fun f hf => g' f ((fo_sub ws).subset hf)
    intro u hu
    rw [foM_snoc]
    rcases List.mem_append.mp hu with hu | hu
    · obtain ⟨f, hf, q⟩ := ih g' u hu
      refine ⟨f, ?_, q⟩
      split
      · exact hf
      · exact List.mem_append_left _ hf
    · obtain rfl : u = w := by simpa using hu
      split
      · next c => exact (closed_iff gF (g u (by simp))).mp c
      · exact ⟨u, by simp, endB_iff.mpr ⟨[], rfl⟩⟩
theorem endB_trans {f u w : List Nat} (h1 : endB f u = true) (h2 : endB u w = true) : endB f w = true := by
  obtain ⟨p, rfl⟩ := endB_iff.mp h1
  obtain ⟨q, rfl⟩ := endB_iff.mp h2
  exact endB_iff.mpr ⟨p ++ q, by simp⟩
theorem endB_same {u w : List Nat} (h : endB u w = true) (hl : u.length ≤ w.length) : u = w := by
  obtain ⟨p, rfl⟩ := endB_iff.mp h
  rw [List.length_append] at hl
  have : p = [] := List.eq_nil_of_length_eq_zero (by omega)
  rw [this]; rfl
/-- the words that are the tail of no other -/
def tfB (ws : List (List Nat)) (w : List Nat) : Bool := (tailM ws w).isNone
theorem tf_iff {ws : List (List Nat)} {w : List Nat} : tfB ws w = true ↔ ∀ u ∈ ws, u ≠ w → endB u w = false := by
  unfold tfB tailM
  rw [Option.isNone_iff_eq_none, List.head?_eq_none_iff]
  unfold tailL
  rw [List.map_eq_nil_iff, List.filter_eq_nil_iff]
  constructor
  · intro h u hu hne
    obtain ⟨i, hi, rfl⟩ := List.getElem_of_mem hu
    have := h (ws[i], i) (List.mk_mem_zipIdx_iff_getElem?.mpr (List.getElem?_eq_getElem hi))
    simp only [Bool.and_eq_true, Bool.not_eq_true', beq_eq_false_iff_ne, ne_eq, not_and, Bool.not_eq_true] at this
    exact this hne
  · rintro h ⟨u, i⟩ hm
    have hu : u ∈ ws := List.mem_of_getElem? (List.mk_mem_zipIdx_iff_getElem?.mp hm)
    simp only [Bool.and_eq_true, Bool.not_eq_true', beq_eq_false_iff_ne, ne_eq, not_and, Bool.not_eq_true]
    exact h u hu
theorem tf_fo {ws : List (List Nat)} (g : ∀ w ∈ ws, noDot w) {w : List Nat} (hw : w ∈ ws) (h : tfB ws w = true) : w ∈ foM ws := by
  obtain ⟨f, hf, q⟩ := fo_closed g w hw
  by_cases c : f = w
  · exact c ▸ hf
  · have := tf_iff.mp h f ((fo_sub ws).subset hf) c
    rw [q] at this; cases this
/-- longer ones first -/
def falls (ws : List (List Nat)) : Prop := ws.Pairwise fun u w => w.length ≤ u.length
theorem fo_tf {ws : List (List Nat)} (g : ∀ w ∈ ws, noDot w) (hp : falls ws) : ∀ w ∈ foM ws, ∀ u ∈ ws, u ≠ w → endB u w = false := by
  induction ws using snoc_ind with
  | h0 => exact fun w hw => absurd hw (by simp [foM])
  | hs ws x ih =>
    have g' : ∀ w ∈ ws, noDot w := fun y hy => g y (List.mem_append_left _ hy)
    have gF : ∀ f ∈ foM ws, noDot f := fun f hf => g' f ((fo_sub ws).subset hf)
    obtain ⟨p1, _, p2⟩ := List.pairwise_append.mp hp
    have ih := ih g' p1
    have old : ∀ w ∈ foM ws, ∀ u ∈ ws ++ [x], u ≠ w → endB u w = false := fun w hw u hu hne => by
      rcases List.mem_append.mp hu with hu | hu
      · exact ih w hw u hu hne
      · obtain rfl : u = x := by simpa using hu
        rw [Bool.eq_false_iff]
        intro c
        exact hne (endB_same c (p2 w ((fo_sub ws).subset hw) u (by simp)))
    intro w hw u hu hne
    rw [foM_snoc] at hw
    split at hw
    · exact old w hw u hu hne
    · next c =>
      rcases List.mem_append.mp hw with hw | hw
      · exact old w hw u hu hne
      · obtain rfl : w = x := by simpa using hw
        rcases List.mem_append.mp hu with hu | hu
        · rw [Bool.eq_false_iff]
          intro c2
          obtain ⟨f, hf, q⟩ := fo_closed g' u hu
          exact c ((closed_iff gF (g w (by simp))).mpr ⟨f, hf, endB_trans q c2⟩)
        · exact absurd (by simpa using hu) hne
/-! room -/
def roomF (l : List (List Nat)) : Int := (l.map fun w => (w.length : Int) + 1).sum
theorem flatC_len (F : List (List Nat)) : ((flatC F).length : Int) = roomF F := by
  induction F with
  | nil => rfl
  | cons f F ih =>
    rw [flatC_cons]
    unfold roomF at ih ⊢
    rw [List.map_cons, List.sum_cons, List.length_append, List.length_cons, ← ih]
    omega
theorem roomF_le {p q : List Nat → Bool} : ∀ {l : List (List Nat)}, (∀ w ∈ l, p w = true → q w = true) → roomF (l.filter p) ≤ roomF (l.filter q)
  | [], _ => Int.le_refl _
  | w :: l, h => by
    have ih := roomF_le (l := l) fun x hx => h x (List.mem_cons_of_mem _ hx)
    have hw := h w List.mem_cons_self
    rw [List.filter_cons, List.filter_cons]
    cases hp : p w with
    | true =>
      rw [hw hp, if_pos rfl, if_pos rfl]
      unfold roomF at ih ⊢
      rw [List.map_cons, List.sum_cons, List.map_cons, List.sum_cons]
      omega
    | false =>
      rw [if_neg Bool.false_ne_true]
      cases q w with
      | false => rw [if_neg Bool.false_ne_true]; exact ih
      | true =>
        rw [if_pos rfl]
        unfold roomF at ih ⊢
        rw [List.map_cons, List.sum_cons]
        omega
theorem sub_filter : ∀ {l m : List (List Nat)}, m.Sublist l → l.Nodup → m = l.filter fun w => m.contains w
  | _, _, .slnil, _ => rfl
  | _, _, .cons (l₂ := l) (l₁ := m) a s, hd => by
    obtain ⟨h1, h2⟩ := List.nodup_cons.mp hd
    have ih := sub_filter s h2
    rw [List.filter_cons, if_neg (by
      have : a ∉ m := fun c => h1 (s.subset c)
      simpa using this)]
    exact ih
  | _, _, .cons₂ (l₂ := l) (l₁ := m) a s, hd => by
    obtain ⟨h1, h2⟩ := List.nodup_cons.mp hd
    have ih := sub_filter s h2
    rw [List.filter_cons, if_pos (by simp)]
    refine congrArg (a :: ·) (ih.trans (List.filter_congr fun w hw => ?_))
    have hne : w ≠ a := fun c => h1 (c ▸ hw)
    rw [Bool.eq_iff_iff]
    simp [hne]
theorem roomM_eq (ws : List (List Nat)) : roomM ws = roomF (ws.filter (tfB ws)) := rfl
theorem kept_room {ws : List (List Nat)} (g : Ws ws) : ((keptM ws).length : Int) = roomF (ws.filter fun w => (foM ws).contains w) := by
  rw [kept_fo, flatC_len, ← sub_filter (fo_sub ws) g.nd]
theorem Ws.noDot {ws : List (List Nat)} (g : Ws ws) : ∀ w ∈ ws, G.noDot w := fun w hw => (g.good w hw).noDot
theorem room_le {ws : List (List Nat)} (g : Ws ws) : roomM ws ≤ ((keptM ws).length : Int) := by
  rw [kept_room g, roomM_eq]
  exact roomF_le fun w hw h => by simpa using tf_fo g.noDot hw h
theorem room_falls {ws : List (List Nat)} (g : Ws ws) (h : falls ws) : ((keptM ws).length : Int) = roomM ws := by
  refine Int.le_antisymm ?_ (room_le g)
  rw [kept_room g, roomM_eq]
  exact roomF_le fun w hw c => tf_iff.mpr (fo_tf g.noDot h w (by simpa using c))
/-! the same words in another order -/
theorem tf_perm {us ws : List (List Nat)} (h : us.Perm ws) (w : List Nat) : tfB us w = tfB ws w := by
  rw [Bool.eq_iff_iff, tf_iff, tf_iff]
  exact ⟨fun q u hu => q u (h.mem_iff.mpr hu), fun q u hu => q u (h.mem_iff.mp hu)⟩
theorem int_sum_perm {l m : List Int} (h : l.Perm m) : l.sum = m.sum := by
  induction h with
  | nil => rfl
  | cons x _ ih => rw [List.sum_cons, List.sum_cons, ih]
  | swap x y l => rw [List.sum_cons, List.sum_cons, List.sum_cons, List.sum_cons]; omega
  | trans _ _ a b => exact a.trans b
theorem room_perm {us ws : List (List Nat)} (h : us.Perm ws) : roomM us = roomM ws := by
  rw [roomM_eq, roomM_eq, show tfB us = tfB ws from funext (tf_perm h)]
  exact int_sum_perm ((h.filter _).map _)
theorem free_perm {us ws : List (List Nat)} (h : us.Perm ws) : (us.filter (tfB us)).length = (ws.filter (tfB ws)).length := by
  rw [show tfB us = tfB ws from funext (tf_perm h)]
  exact (h.filter _).length_eq
theorem Ws.perm {us ws : List (List Nat)} (g : Ws ws) (h : us.Perm ws) : Ws us :=
  ⟨fun w hw => g.good w (h.mem_iff.mp hw), h.nodup_iff.mpr g.nd, fun e => g.ne (by rw [e] at h; exact h.symm.eq_nil), by rw [h.length_eq]; exact g.len⟩
/-! where each word was put -/
theorem lput_st {t w : List Nat} : stB (lputM t w).1 (w ++ [46]) (lputM t w).2 = true ∧ ∃ r, (lputM t w).1 = t ++ r := by
  unfold lputM
  cases h : findM t (w ++ [46]) with
  | some i => exact ⟨(findM_some.mp h).2.1, [], by simp⟩
  | none => exact ⟨(stB_iff (dot_ne w)).mpr ⟨t, [], by simp, rfl⟩, w ++ [46], by simp⟩
theorem pl_st {ws : List (List Nat)} (hd : ws.Nodup) (g : ∀ w ∈ ws, goodM w) : ∀ q ∈ (kM ws).pl, stB (kM ws).kept (q.1 ++ [46]) q.2 = true := by
  induction ws using snoc_ind with
  | h0 => exact fun q hq => absurd hq (by simp [kM])
  | hs ws w ih =>
    have hd' := List.nodup_append.mp hd
    have g' : ∀ x ∈ ws, goodM x := fun x hx => g x (List.mem_append_left _ hx)
    have ih := ih hd'.1 g'
    have ko := kOk rfl hd'.1 g'
    have hl : lookP (kM ws).pl w = none := lookP_none (by
      rw [ko.keys]
      exact fun hx => hd'.2.2 w hx w (by simp) rfl)
    rw [kM_snoc, putS_new hl]
    obtain ⟨h1, r, h2⟩ := lput_st (t := (kM ws).kept) (w := w)
    intro q hq
    rcases List.mem_append.mp hq with hq | hq
    · show stB (lputM (kM ws).kept w).1 _ _ = true
      rw [h2]
      exact stB_grow (dot_ne _) (ih q hq)
    · obtain rfl : q = (w, (lputM (kM ws).kept w).2) := by simpa using hq
      exact h1
end G

namespace G
open PySem
/-! ### words in order -/
abbrev rW : List Nat → List Nat → Bool := PySem.W.dataLe false dS
def gS (q : List Nat × Nat) : PyData := .tuple [dS q.1, .int (q.2 : Nat)]
abbrev rS : List Nat × Nat → List Nat × Nat → Bool := PySem.W.dataLe false gS
theorem rW_eq (a b : List Nat) : rW a b = decide (a ≤ b) := by
  have := congrFun (congrFun (PySem.W.dataLe_str (β := List Nat) fun w => tx w) a) b
  have e : ∀ w : List Nat, (tx w).cps.toList = w := fun w => by simp
  rw [e, e] at this
  exact this
theorem dataLt_S (a b : List Nat) : PySem.W.dataLt (dS a) (dS b) = decide (a < b) := by
  have h : (!PySem.W.dataLt (dS a) (dS b)) = decide (b ≤ a) := rW_eq b a
  rw [Bool.eq_iff_iff, decide_eq_true_eq]
  rw [Bool.eq_iff_iff, Bool.not_eq_true', decide_eq_true_eq, ← Bool.not_eq_true] at h
  constructor
  · intro c
    exact Classical.byContradiction fun d => h.mpr (List.not_lt.mp d) c
  · intro c
    exact Classical.byContradiction fun d => List.not_lt.mpr (h.mp d) c
theorem gS_alike (a b : List Nat × Nat) : PySem.W.alike (gS a) (gS b) = true := by
  unfold gS
  simp [PySem.W.alike, PySem.W.alikeAll]
/-- the words in order -/
def srtM (ws : List (List Nat)) : List (List Nat) := ws.mergeSort rW
/-- the numbers of words, as these rise -/
def ordM (ws : List (List Nat)) : List Nat := (ws.zipIdx.mergeSort rS).map (·.2)
theorem srt_perm (ws : List (List Nat)) : (srtM ws).Perm ws := List.mergeSort_perm _ _
theorem srt_le (ws : List (List Nat)) : (srtM ws).Pairwise (· ≤ ·) := (PySem.W.sort_pairwise (PySem.W.sortLe_total _ false _) ws).imp fun {a b} h => by
  have h : rW a b = true := h
  rw [rW_eq] at h
  exact of_decide_eq_true h
theorem srt_lt {ws : List (List Nat)} (hd : ws.Nodup) : (srtM ws).Pairwise (· < ·) := by
  have h1 := srt_le ws
  have h2 : (srtM ws).Pairwise (· ≠ ·) := (srt_perm ws).nodup_iff.mpr hd
  refine (h1.and h2).imp fun {a b} h => ?_
  exact Classical.byContradiction fun c => h.2 (List.le_antisymm h.1 (List.not_lt.mp c))
theorem zip_mem {ws : List (List Nat)} {q : List Nat × Nat} (h : q ∈ ws.zipIdx) : ws[q.2]? = some q.1 := List.mk_mem_zipIdx_iff_getElem?.mp h
theorem nd_idx {ws : List (List Nat)} (hd : ws.Nodup) {q : List Nat × Nat} (h : q ∈ ws.zipIdx) : ws.idxOf q.1 = q.2 := by
  obtain ⟨h1, h2⟩ := List.getElem?_eq_some_iff.mp (zip_mem h)
  have hm : q.1 ∈ ws := h2 ▸ List.getElem_mem h1
  have hl := List.idxOf_lt_length_iff.mpr hm
  have e := List.getElem_idxOf hl
  exact (List.getElem_inj hd).mp (e.trans h2.symm)
theorem rS_rW {ws : List (List Nat)} (hd : ws.Nodup) {a b : List Nat × Nat} (ha : a ∈ ws.zipIdx) (hb : b ∈ ws.zipIdx) : rS a b = rW a.1 b.1 := by
  have e1 : rS a b = !PySem.W.dataLt (gS b) (gS a) := rfl
  have e2 : rW a.1 b.1 = !PySem.W.dataLt (dS b.1) (dS a.1) := rfl
  rw [e1, e2]
  congr 1
  unfold gS
  rw [PySem.W.dataLt_pair (by simp [PySem.W.alike]) (by simp [PySem.W.alike])]
  by_cases c : b.1 = a.1
  · have i : b.2 = a.2 := by rw [← nd_idx hd ha, ← nd_idx hd hb, c]
    rw [if_pos (by rw [c, eqv_S]; exact beq_self_eq_true _), if_pos (by rw [i, eqv_I]; exact beq_self_eq_true _), c, dataLt_S]
    exact (decide_eq_false (List.lt_irrefl _)).symm
  · rw [if_neg (by rw [eqv_S, beq_iff_eq]; exact c)]
theorem ord_srt {ws : List (List Nat)} (hd : ws.Nodup) : (ws.zipIdx.mergeSort rS).map (·.1) = srtM ws := by
  have := PySem.W.sort_maps (r := rS) (s := rW) (fun q : List Nat × Nat => q.1) (l := ws.zipIdx) fun a ha b hb => rS_rW hd ha hb
  rw [this, List.zipIdx_map_fst]
  rfl
theorem ord_idx {ws : List (List Nat)} (hd : ws.Nodup) : ordM ws = (srtM ws).map ws.idxOf := by
  rw [← ord_srt hd, List.map_map]
  unfold ordM
  refine List.map_congr_left fun q hq => ?_
  exact (nd_idx hd ((List.mergeSort_perm _ _).mem_iff.mp hq)).symm
theorem ord_len (ws : List (List Nat)) : (ordM ws).length = ws.length := by unfold ordM; rw [List.length_map, List.length_mergeSort, List.length_zipIdx]
theorem srt_len (ws : List (List Nat)) : (srtM ws).length = ws.length := (srt_perm ws).length_eq
theorem ord_perm (ws : List (List Nat)) : (ordM ws).Perm (List.range ws.length) := by
  have := (List.mergeSort_perm ws.zipIdx rS).map (·.2)
  refine this.trans (List.Perm.of_eq ?_)
  rw [List.zipIdx_map_snd, List.range_eq_range']
theorem ord_at {ws : List (List Nat)} (hd : ws.Nodup) {m : Nat} (hm : m < ws.length) : (ordM ws).getD m default < ws.length ∧ ws.getD ((ordM ws).getD m default) default = (srtM ws).getD m default := by
  have hm' : m < (srtM ws).length := by rw [srt_len]; exact hm
  have e : (ordM ws).getD m default = ws.idxOf (srtM ws)[m] := by
    rw [ord_idx hd, List.getD_eq_getElem?_getD, List.getElem?_map, List.getElem?_eq_getElem hm']; rfl
  have hmem : (srtM ws)[m] ∈ ws := (srt_perm ws).mem_iff.mp (List.getElem_mem hm')
  have hl := List.idxOf_lt_length_iff.mpr hmem
  rw [e]
  refine ⟨hl, ?_⟩
  rw [List.getD_eq_getElem?_getD, List.getElem?_eq_getElem hl, List.getElem_idxOf, List.getD_eq_getElem?_getD, List.getElem?_eq_getElem hm']
/-! ### halving -/
def seekF (f : Nat → List Nat) (w : List Nat) (low high : Nat) : List Nat × Option Nat :=
  if h : low < high then
    if f ((low + high) / 2) = w then ([(low + high) / 2], some ((low + high) / 2))
    else if f ((low + high) / 2) < w then ((low + high) / 2 :: (seekF f w ((low + high) / 2 + 1) high).1, (seekF f w ((low + high) / 2 + 1) high).2)
    else ((low + high) / 2 :: (seekF f w low ((low + high) / 2)).1, (seekF f w low ((low + high) / 2)).2)
  else ([], none)
termination_by high - low
decreasing_by all_goals omega
theorem seek_done {f : Nat → List Nat} {w : List Nat} {low high : Nat} (h : ¬ low < high) : seekF f w low high = ([], none) := by rw [seekF, dif_neg h]
theorem seek_hit {f : Nat → List Nat} {w : List Nat} {low high : Nat} (h : low < high) (e : f ((low + high) / 2) = w) : seekF f w low high = ([(low + high) / 2], some ((low + high) / 2)) := by rw [seekF, dif_pos h, if_pos e]
theorem seek_up {f : Nat → List Nat} {w : List Nat} {low high : Nat} (h : low < high) (e : f ((low + high) / 2) ≠ w) (e2 : f ((low + high) / 2) < w) : seekF f w low high = ((low + high) / 2 :: (seekF f w ((low + high) / 2 + 1) high).1, (seekF f w ((low + high) / 2 + 1) high).2) := by
  rw [seekF, dif_pos h, if_neg e, if_pos e2]
theorem seek_down {f : Nat → List Nat} {w : List Nat} {low high : Nat} (h : low < high) (e : f ((low + high) / 2) ≠ w) (e2 : ¬ f ((low + high) / 2) < w) : seekF f w low high = ((low + high) / 2 :: (seekF f w low ((low + high) / 2)).1, (seekF f w low ((low + high) / 2)).2) := by
  rw [seekF, dif_pos h, if_neg e, if_neg e2]
theorem seek_in {f : Nat → List Nat} {w : List Nat} : ∀ (n low high : Nat), high - low = n → (∀ m ∈ (seekF f w low high).1, low ≤ m ∧ m < high) ∧ (∀ m, (seekF f w low high).2 = some m → low ≤ m ∧ m < high) := by
  intro n
  induction n using Nat.strongRecOn with
  | _ n ih =>
    intro low high hn
    by_cases h : low < high
    · by_cases e : f ((low + high) / 2) = w
      · rw [seek_hit h e]
        refine ⟨fun m hm => ?_, fun m hm => ?_⟩
        · obtain rfl : m = (low + high) / 2 := by simpa using hm
          omega
        · cases hm; omega
      · by_cases e2 : f ((low + high) / 2) < w
        · rw [seek_up h e e2]
          obtain ⟨h1, h2⟩ := ih (high - ((low + high) / 2 + 1)) (by omega) _ _ rfl
          refine ⟨fun m hm => ?_, fun m hm => ?_⟩
          · rcases List.mem_cons.mp hm with c | c
            · omega
            · have := h1 m c; omega
          · have := h2 m hm; omega
        · rw [seek_down h e e2]
          obtain ⟨h1, h2⟩ := ih ((low + high) / 2 - low) (by omega) _ _ rfl
          refine ⟨fun m hm => ?_, fun m hm => ?_⟩
          · rcases List.mem_cons.mp hm with c | c
            · omega
            · have := h1 m c; omega
          · have := h2 m hm; omega
    · rw [seek_done h]
      exact ⟨fun m hm => absurd hm (by simp), fun m hm => by cases hm⟩
/-- the word at a place of the order -/
def atM (ws : List (List Nat)) (m : Nat) : List Nat := ws.getD ((ordM ws).getD m default) default
def tellM (ws : List (List Nat)) (w : List Nat) : List Nat × Option Nat := seekF (atM ws) w 0 ws.length
def tlD (ws : List (List Nat)) (t : List Nat × Option Nat) : PyData := .tuple [(match t.2 with | some m => .int ((ordM ws).getD m default : Nat) | none => .none), .list (t.1.map fun m => .int ((ordM ws).getD m default : Nat))]
theorem tell_len (ws : List (List Nat)) (w : List Nat) : (tellM ws w).1.length ≤ ws.length := by
  have : ∀ (n low high : Nat), high - low = n → (seekF (atM ws) w low high).1.length ≤ n := by
    intro n
    induction n using Nat.strongRecOn with
    | _ n ih =>
      intro low high hn
      by_cases h : low < high
      · by_cases e : atM ws ((low + high) / 2) = w
        · rw [seek_hit h e]; show 1 ≤ n; omega
        · by_cases e2 : atM ws ((low + high) / 2) < w
          · rw [seek_up h e e2, List.length_cons]
            have := ih (high - ((low + high) / 2 + 1)) (by omega) _ _ rfl
            omega
          · rw [seek_down h e e2, List.length_cons]
            have := ih ((low + high) / 2 - low) (by omega) _ _ rfl
            omega
      · rw [seek_done h]; exact Nat.zero_le _
  exact this _ 0 ws.length rfl
theorem ord_nd (ws : List (List Nat)) : (ordM ws).Nodup := (ord_perm ws).nodup_iff.mpr List.nodup_range
theorem ord_idxOf {ws : List (List Nat)} {m : Nat} (hm : m < ws.length) : (ordM ws).idxOf ((ordM ws).getD m default) = m := by
  have h1 : m < (ordM ws).length := by rw [ord_len]; exact hm
  have e : (ordM ws).getD m default = (ordM ws)[m] := by rw [List.getD_eq_getElem?_getD, List.getElem?_eq_getElem h1]; rfl
  rw [e]
  have hmem : (ordM ws)[m] ∈ ordM ws := List.getElem_mem h1
  have hl := List.idxOf_lt_length_iff.mpr hmem
  exact (List.getElem_inj (ord_nd ws)).mp (List.getElem_idxOf hl)
theorem depTl (ws : List (List Nat)) (t : List Nat × Option Nat) : PyData.depth (tlD ws t) ≤ 2 := by
  unfold tlD
  refine depT (n := 1) fun d hd => ?_
  rcases List.mem_cons.mp hd with e | hd
  · subst e
    cases t.2 <;> exact Nat.zero_le _
  · obtain rfl : d = _ := List.mem_singleton.mp hd
    exact depLM (n := 0) fun a => Nat.le_refl 0
theorem abcz_let : LetL abczL := ⟨by decide, by decide, by decide, fun c hc => (by decide : ∀ x ∈ abczL, x < 1114112) c hc⟩
/-- words drawn one after the other -/
def stW (s : Bx) (most : Int) : Nat → Bx
  | 0 => s
  | n + 1 => wordB abczL most (stW s most n)
def moreW (s : Bx) (most : Int) (n : Nat) : List (List Nat) := (List.range n).map fun i => wordV abczL most (stW s most i)
theorem moreW_good {s : Bx} {most : Int} {n : Nat} (h0 : 0 < most) (h1 : most ≤ 12) : ∀ w ∈ moreW s most n, goodM w := fun w hw => by
  obtain ⟨i, _, rfl⟩ := List.mem_map.mp hw
  exact abcz_let.word h0 h1 _
theorem moreW_len (s : Bx) (most : Int) (n : Nat) : (moreW s most n).length = n := by unfold moreW; rw [List.length_map, List.length_range]
end G

namespace G
open PySem
/-! ### the least of all orders -/
def remL (ns done : List Nat) : List Nat := ns.filter fun m => !done.contains m
theorem remM_len (ns done : List Nat) : remM ns done = (remL ns done).length := rfl
theorem remL_mem {ns done : List Nat} {m : Nat} : m ∈ remL ns done ↔ m ∈ ns ∧ done.contains m = false := by
  unfold remL
  rw [List.mem_filter, Bool.not_eq_true']
theorem perm_filter_one {m : Nat} {p : Nat → Bool} : ∀ {l : List Nat}, l.Nodup → m ∈ l → p m = true → (l.filter p).Perm (m :: l.filter fun x => p x && !(x == m))
  | [], _, h, _ => absurd h (by simp)
  | x :: l, hd, h, hp => by
    obtain ⟨h1, h2⟩ := List.nodup_cons.mp hd
    rw [List.filter_cons, List.filter_cons]
    by_cases e : x = m
    · subst e
      rw [if_pos hp, if_neg (by simp)]
      refine List.Perm.cons _ (List.Perm.of_eq (List.filter_congr fun y hy => ?_))
      have : y ≠ x := fun e => h1 (e ▸ hy)
      simp [this]
    · have hl : m ∈ l := (List.mem_cons.mp h).resolve_left fun z => e z.symm
      have ih := perm_filter_one h2 hl hp
      by_cases c : p x = true
      · rw [if_pos c, if_pos (by simp [c, e])]
        exact (List.Perm.cons _ ih).trans (List.Perm.swap _ _ _)
      · rw [if_neg c, if_neg (by simp [c])]
        exact ih
theorem remL_ins {ns done : List Nat} {m : Nat} (hd : ns.Nodup) (hm : m ∈ ns) (hc : done.contains m = false) : (remL ns done).Perm (m :: remL ns (insM done m)) := by
  refine (perm_filter_one hd hm (by rw [hc]; rfl)).trans (List.Perm.cons _ (List.Perm.of_eq (List.filter_congr fun x _ => ?_)))
  rw [Bool.eq_iff_iff]
  simp [ins_mem]
def costL (ws : List (List Nat)) : Option Nat → List Nat → Nat
  | _, [] => 0
  | last, m :: l => stepM ws last m + costL ws (some m) l
structure Opt (ws : List (List Nat)) (ns done : List Nat) (last : Option Nat) (v : PVal) : Prop where
  perm : v.2.Perm (remL ns done)
  cost : v.1 = costL ws last v.2
  least : ∀ l, l.Perm (remL ns done) → v.1 ≤ costL ws last l
def KnOpt (ws : List (List Nat)) (ns : List Nat) (kn : Kn) : Prop := ∀ e ∈ kn, Opt ws ns e.1.1 e.1.2 e.2
theorem gV_lt {x y : PVal} (h : x.1 < y.1) : PySem.W.dataLt (gV x) (gV y) = true := by
  have e : ∀ l : List Nat, l.map gN = (l.map fun n : Nat => (n : Int)).map PyData.int := fun l => by rw [List.map_map]; rfl
  unfold gV
  rw [e, e, PySem.W.dataLt_pair (by simp [PySem.W.alike]) (by show PySem.W.alikeAll _ _ = true; exact PySem.W.alike_ints _ _), if_neg (by rw [eqv_I, beq_iff_eq]; omega)]
  have := congrFun (congrFun (PySem.W.dataLe_int (β := Int) id) (y.1 : Int)) (x.1 : Int)
  rw [PySem.W.dataLe_eq] at this
  have h2 : (!PySem.W.dataLt (.int (x.1 : Nat)) (.int (y.1 : Nat))) = decide ((y.1 : Int) ≤ x.1) := this
  rw [decide_eq_false (by omega)] at h2
  simpa using h2
theorem gV_nlt {x y : PVal} (h : PySem.W.dataLt (gV x) (gV y) = true) : x.1 ≤ y.1 := by
  refine Classical.byContradiction fun c => ?_
  have e : ∀ l : List Nat, l.map gN = (l.map fun n : Nat => (n : Int)).map PyData.int := fun l => by rw [List.map_map]; rfl
  unfold gV at h
  rw [e, e, PySem.W.dataLt_pair (by simp [PySem.W.alike]) (by show PySem.W.alikeAll _ _ = true; exact PySem.W.alike_ints _ _), if_neg (by rw [eqv_I, beq_iff_eq]; omega)] at h
  have := congrFun (congrFun (PySem.W.dataLe_int (β := Int) id) (y.1 : Int)) (x.1 : Int)
  rw [PySem.W.dataLe_eq] at this
  have h2 : (!PySem.W.dataLt (.int (x.1 : Nat)) (.int (y.1 : Nat))) = decide ((y.1 : Int) ≤ x.1) := this
  rw [decide_eq_true (by omega), h] at h2
  cases h2
theorem bestOf_leastA : ∀ (xs : List PVal) (x : PVal), (xs.foldl (fun a y => if PySem.W.dataLt (gV y) (gV a) = true then y else a) x).1 ≤ x.1 ∧ ∀ v ∈ xs, (xs.foldl (fun a y => if PySem.W.dataLt (gV y) (gV a) = true then y else a) x).1 ≤ v.1
  | [], x => ⟨Nat.le_refl _, fun v hv => absurd hv (by simp)⟩
  | y :: xs, x => by
    show (xs.foldl _ (if PySem.W.dataLt (gV y) (gV x) = true then y else x)).1 ≤ _ ∧ ∀ v ∈ _, (xs.foldl _ (if PySem.W.dataLt (gV y) (gV x) = true then y else x)).1 ≤ _
    by_cases c : PySem.W.dataLt (gV y) (gV x) = true
    · rw [if_pos c]
      obtain ⟨h1, h2⟩ := bestOf_leastA xs y
      have h3 := gV_nlt c
      refine ⟨by omega, fun v hv => ?_⟩
      rcases List.mem_cons.mp hv with e | hv
      · rw [e]; exact h1
      · exact h2 v hv
    · rw [if_neg c]
      obtain ⟨h1, h2⟩ := bestOf_leastA xs x
      refine ⟨h1, fun v hv => ?_⟩
      rcases List.mem_cons.mp hv with e | hv
      · rw [e]
        have : ¬ y.1 < x.1 := fun h => c (gV_lt h)
        omega
      · exact h2 v hv
theorem bestOf_least : ∀ {l : List PVal} {v : PVal}, v ∈ l → (bestOf l).1 ≤ v.1
  | x :: xs, v, h => by
    obtain ⟨h1, h2⟩ := bestOf_leastA xs x
    rcases List.mem_cons.mp h with e | h
    · rw [e]; exact h1
    · exact h2 v h
def RecOpt (ws : List (List Nat)) (ns : List Nat) (n : Nat) (rec : RecB) : Prop := ∀ m, n = m + 1 → ∀ kn done last, remM ns done ≤ m → KnOpt ws ns kn → KnOpt ws ns (rec kn done last).1 ∧ Opt ws ns done last (rec kn done last).2
structure LoopOpt (ws : List (List Nat)) (ns done : List Nat) (last : Option Nat) (pre : List Nat) (r : Kn × List PVal) : Prop where
  ko : KnOpt ws ns r.1
  from' : ∀ v ∈ r.2, ∃ m b, m ∈ ns ∧ done.contains m = false ∧ Opt ws ns (insM done m) (some m) b ∧ v = (stepM ws last m + b.1, m :: b.2)
  all : ∀ m ∈ pre, done.contains m = false → ∃ b, Opt ws ns (insM done m) (some m) b ∧ (stepM ws last m + b.1, m :: b.2) ∈ r.2
theorem loop_opt {ws : List (List Nat)} {ns : List Nat} {n : Nat} {rec : RecB} (hr : RecOpt ws ns n rec) {kn : Kn} {done : List Nat} {last : Option Nat} (hn : remM ns done ≤ n) (hk : KnOpt ws ns kn) :
    ∀ (k : Nat) (pre : List Nat), pre.length = k → (∀ m ∈ pre, m ∈ ns) → LoopOpt ws ns done last pre (pre.foldl (stepB ws rec done last) (kn, [])) := by
  intro k
  induction k with
  | zero =>
    intro pre hp _
    rw [List.eq_nil_of_length_eq_zero hp]
    exact ⟨hk, fun v hv => absurd hv (by simp), fun m hm => absurd hm (by simp)⟩
  | succ k ih =>
    intro pre hp hm
    have hne : pre ≠ [] := by intro e; rw [e] at hp; cases hp
    obtain ⟨us, x, rfl⟩ : ∃ us x, pre = us ++ [x] := ⟨pre.dropLast, pre.getLast hne, (List.dropLast_concat_getLast hne).symm⟩
    have ih := ih us (by simpa using hp) fun m h => hm m (List.mem_append_left _ h)
    have hx := hm x (by simp)
    rw [List.foldl_append]
    show LoopOpt _ _ _ _ _ (stepB ws rec done last _ x)
    generalize us.foldl (stepB ws rec done last) (kn, []) = a at ih
    unfold stepB
    by_cases c : done.contains x = true
    · rw [if_pos c]
      refine ⟨ih.ko, ih.from', fun m hm hc => ?_⟩
      rcases List.mem_append.mp hm with h | h
      · exact ih.all m h hc
      · rw [List.mem_singleton.mp h, c] at hc; cases hc
    · have c : done.contains x = false := by simpa using c
      rw [if_neg (by rw [c]; exact Bool.false_ne_true)]
      have hlt := rem_ins hx c
      obtain ⟨m, rfl⟩ : ∃ m, n = m + 1 := ⟨n - 1, by omega⟩
      obtain ⟨k1, k2⟩ := hr m rfl a.1 (insM done x) (some x) (by omega) ih.ko
      refine ⟨k1, fun v hv => ?_, fun y hy hc => ?_⟩
      · rcases List.mem_append.mp hv with hv | hv
        · exact ih.from' v hv
        · exact ⟨x, _, hx, c, k2, List.mem_singleton.mp hv⟩
      · rcases List.mem_append.mp hy with h | h
        · obtain ⟨b, h1, h2⟩ := ih.all y h hc
          exact ⟨b, h1, List.mem_append_left _ h2⟩
        · rw [List.mem_singleton.mp h]
          exact ⟨_, k2, List.mem_append_right _ List.mem_cons_self⟩
theorem bestF_opt {ws : List (List Nat)} {ns : List Nat} (hd : ns.Nodup) {n : Nat} {rec : RecB} (hr : RecOpt ws ns n rec) {kn : Kn} {done : List Nat} {last : Option Nat} (hn : remM ns done ≤ n) (hk : KnOpt ws ns kn) : KnOpt ws ns (bestF ws ns rec kn done last).1 ∧ Opt ws ns done last (bestF ws ns rec kn done last).2 := by
  unfold bestF
  cases hl : lookK kn (done, last) with
  | some v => exact ⟨hk, hk _ (lookK_mem hl)⟩
  | none =>
    have li := loop_opt (ws := ws) (last := last) hr hn hk _ ns rfl fun _ h => h
    generalize ns.foldl (stepB ws rec done last) (kn, []) = r at li
    have ho : Opt ws ns done last (bestOf r.2) := by
      by_cases c : r.2 = []
      · have he : remL ns done = [] := by
          refine Classical.byContradiction fun z => ?_
          obtain ⟨m, t, e⟩ : ∃ m t, remL ns done = m :: t := by
            cases hh : remL ns done with
            | nil => exact absurd hh z
            | cons m t => exact ⟨m, t, rfl⟩
          obtain ⟨h1, h2⟩ := remL_mem.mp (e ▸ List.mem_cons_self)
          obtain ⟨b, _, hb⟩ := li.all m h1 h2
          rw [c] at hb; cases hb
        rw [c]
        exact ⟨by rw [he]; exact List.Perm.refl _, rfl, fun l _ => Nat.zero_le _⟩
      · obtain ⟨m, b, h1, h2, h3, h4⟩ := li.from' _ (bestOf_mem c)
        have hp := remL_ins hd h1 h2
        refine ⟨?_, ?_, fun l hlp => ?_⟩
        · rw [h4]
          exact (List.Perm.cons _ h3.perm).trans hp.symm
        · rw [h4]
          show stepM ws last m + b.1 = stepM ws last m + costL ws (some m) b.2
          rw [h3.cost]
        · cases l with
          | nil =>
            have : remL ns done = [] := hlp.symm.eq_nil
            rw [this] at hp
            exact absurd hp.length_eq (by simp)
          | cons x t =>
            have hx := remL_mem.mp (hlp.mem_iff.mp List.mem_cons_self)
            obtain ⟨b', k1, k2⟩ := li.all x hx.1 hx.2
            have ht : t.Perm (remL ns (insM done x)) := (hlp.trans (remL_ins hd hx.1 hx.2)).cons_inv
            have h5 := bestOf_least k2
            have h6 := k1.least t ht
            show (bestOf r.2).1 ≤ stepM ws last x + costL ws (some x) t
            have h5 : (bestOf r.2).1 ≤ stepM ws last x + b'.1 := h5
            omega
    refine ⟨fun e he => ?_, ho⟩
    rcases List.mem_append.mp he with he | he
    · exact li.ko e he
    · rw [List.mem_singleton.mp he]; exact ho
theorem bestS_opt {ws : List (List Nat)} {ns : List Nat} (hd : ns.Nodup) : ∀ n, ∀ kn done last, remM ns done ≤ n → KnOpt ws ns kn → KnOpt ws ns (bestS ws ns n kn done last).1 ∧ Opt ws ns done last (bestS ws ns n kn done last).2
  | 0, kn, done, last, hn, hk => bestF_opt hd (fun m h => absurd h (by omega)) hn hk
  | n + 1, kn, done, last, hn, hk => bestF_opt hd (fun m h kn done last h1 h2 => by
    obtain rfl : n = m := by omega
    exact bestS_opt hd n kn done last h1 h2) hn hk
theorem free_nd (ws : List (List Nat)) : (freeM ws).Nodup := by
  unfold freeM
  have : (ws.zipIdx.map (·.2)).Nodup := by rw [List.zipIdx_map_snd]; exact List.nodup_range'
  exact this.sublist ((List.filter_sublist).map _)
theorem best_opt {ws : List (List Nat)} (h : (freeM ws).length ≤ 8) : Opt ws (freeM ws) [] none (bestV ws) :=
  (bestS_opt (free_nd ws) 8 [] [] none (by rw [rem_nil]; exact h) fun e he => absurd he (by simp)).2
theorem remL_nil (ns : List Nat) : remL ns [] = ns := List.filter_eq_self.mpr fun _ _ => rfl
/-! ### texts in texts -/
theorem inS_find {u w : List Nat} (hu : u ≠ []) : inS u w = (findM w u).isSome := by
  have e : Txt.find (tx w) (tx u) = match Builtin.Str.occurrences (tx w) (tx u) 0 (tx w).length 1 with | i :: _ => (i : Int) | [] => -1 := rfl
  rw [find_eq hu] at e
  unfold inS
  cases h : findM w u with
  | some i =>
    rw [h] at e
    cases hh : Builtin.Str.occurrences (tx w) (tx u) 0 (tx w).length 1 with
    | nil =>
      rw [hh] at e
      have : ((i : Nat) : Int) = -1 := e
      omega
    | cons x t => rfl
  | none =>
    rw [h] at e
    cases hh : Builtin.Str.occurrences (tx w) (tx u) 0 (tx w).length 1 with
    | nil => rfl
    | cons x t =>
      rw [hh] at e
      have : (-1 : Int) = ((x : Nat) : Int) := e
      omega
theorem inS_iff {u w : List Nat} (hu : u ≠ []) : inS u w = true ↔ ∃ a b, w = a ++ (u ++ b) := by rw [inS_find hu, findM_has hu]
theorem inS_rev {u w : List Nat} (hu : u ≠ []) : inS u.reverse w.reverse = inS u w := by
  have hr : u.reverse ≠ [] := by simpa using hu
  rw [Bool.eq_iff_iff, inS_iff hu, inS_iff hr]
  constructor
  · rintro ⟨a, b, e⟩
    refine ⟨b.reverse, a.reverse, ?_⟩
    have := congrArg List.reverse e
    rw [List.reverse_reverse] at this
    rw [this]; simp
  · rintro ⟨a, b, rfl⟩
    exact ⟨b.reverse, a.reverse, by simp⟩
/-! ### the signs the other way round -/
theorem fits_rev {a b : List Nat} {m : Nat} (h1 : m ≤ a.length) (h2 : m ≤ b.length) : fitsM b.reverse a.reverse m = fitsM a b m := by
  unfold fitsM
  rw [List.length_reverse, List.drop_reverse, List.take_reverse]
  have e : b.length - (b.length - m) = m := by omega
  rw [e, Bool.eq_iff_iff, beq_iff_eq, beq_iff_eq]
  exact ⟨fun h => (List.reverse_inj.mp h).symm, fun h => by rw [h]⟩
theorem farG_rev {a b : List Nat} : ∀ n, n ≤ a.length + 1 → n ≤ b.length + 1 → farG b.reverse a.reverse n = farG a b n
  | 0, _, _ => rfl
  | n + 1, h1, h2 => by
    show (if fitsM b.reverse a.reverse n = true then n else farG b.reverse a.reverse n) = (if fitsM a b n = true then n else farG a b n)
    rw [fits_rev (by omega) (by omega), farG_rev n (by omega) (by omega)]
theorem far_rev (a b : List Nat) : farM b.reverse a.reverse = farM a b := by
  unfold farM
  rw [List.length_reverse, List.length_reverse, Nat.min_comm, farG_rev _ (by omega) (by omega)]
abbrev revW (ws : List (List Nat)) : List (List Nat) := ws.map List.reverse
theorem revW_revW (ws : List (List Nat)) : revW (revW ws) = ws := by
  show (ws.map List.reverse).map List.reverse = ws
  rw [List.map_map, show (List.reverse ∘ List.reverse : List Nat → List Nat) = id from funext fun l => List.reverse_reverse l, List.map_id]
theorem filter_mapE {α β : Type} (f : α → β) (p : β → Bool) (l : List α) : ((l.map f).filter p).isEmpty = (l.filter fun a => p (f a)).isEmpty := by
  rw [List.filter_map, List.isEmpty_map]; rfl
theorem free_rev {ws : List (List Nat)} (g : ∀ w ∈ ws, w ≠ []) : freeM (revW ws) = freeM ws := by
  unfold freeM
  rw [List.zipIdx_map, List.filter_map, List.map_map]
  have e : (ws.zipIdx.filter ((fun q : List Nat × Nat => freeB (revW ws) q.1) ∘ Prod.map List.reverse id)) = ws.zipIdx.filter fun q => freeB ws q.1 := List.filter_congr fun q hq => by
    have hw : q.1 ≠ [] := g _ (List.mem_of_getElem? (List.mk_mem_zipIdx_iff_getElem?.mp hq))
    show freeB (revW ws) q.1.reverse = freeB ws q.1
    unfold freeB
    rw [filter_mapE]
    congr 1
    refine List.filter_congr fun o _ => ?_
    rw [inS_rev hw]
    congr 2
    rw [Bool.eq_iff_iff, beq_iff_eq, beq_iff_eq]
    exact List.reverse_inj
  rw [e]; rfl
theorem getD_rev (ws : List (List Nat)) (n : Nat) : (revW ws).getD n default = (ws.getD n default).reverse := by
  rw [List.getD_eq_getElem?_getD, List.getElem?_map, List.getD_eq_getElem?_getD]
  cases ws[n]? <;> rfl
/-- what an order needs: all signs less those shared -/
def linkS (ws : List (List Nat)) : List Nat → Nat
  | [] => 0
  | [_] => 0
  | a :: b :: l => farM (ws.getD a default) (ws.getD b default) + linkS ws (b :: l)
def sumS (ws : List (List Nat)) (l : List Nat) : Nat := (l.map fun n => (ws.getD n default).length).sum
theorem cost_some (ws : List (List Nat)) : ∀ (l : List Nat) (a : Nat), costL ws (some a) l + linkS ws (a :: l) = sumS ws l
  | [], a => rfl
  | b :: l, a => by
    have ih := cost_some ws l b
    have hf := farM_le (ws.getD a default) (ws.getD b default)
    show (stepM ws (some a) b + costL ws (some b) l) + (farM (ws.getD a default) (ws.getD b default) + linkS ws (b :: l)) = (ws.getD b default).length + sumS ws l
    show ((ws.getD b default).length - farM (ws.getD a default) (ws.getD b default) + costL ws (some b) l) + (farM (ws.getD a default) (ws.getD b default) + linkS ws (b :: l)) = _
    omega
theorem cost_none (ws : List (List Nat)) (l : List Nat) : costL ws none l + linkS ws l = sumS ws l := by
  cases l with
  | nil => rfl
  | cons a l =>
    have := cost_some ws l a
    show ((ws.getD a default).length - 0 + costL ws (some a) l) + linkS ws (a :: l) = (ws.getD a default).length + sumS ws l
    omega
theorem link_snoc (ws : List (List Nat)) : ∀ (l : List Nat) (a b : Nat), linkS ws (l ++ [a, b]) = linkS ws (l ++ [a]) + farM (ws.getD a default) (ws.getD b default)
  | [], a, b => by show farM _ _ + 0 = 0 + farM _ _; omega
  | [x], a, b => by
    show farM _ _ + (farM _ _ + 0) = farM _ _ + 0 + farM _ _; omega
  | x :: y :: l, a, b => by
    have := link_snoc ws (y :: l) a b
    show farM _ _ + linkS ws ((y :: l) ++ [a, b]) = farM _ _ + linkS ws ((y :: l) ++ [a]) + _
    omega
theorem link_rev (ws : List (List Nat)) : ∀ l : List Nat, linkS (revW ws) l.reverse = linkS ws l
  | [] => rfl
  | [a] => rfl
  | a :: b :: l => by
    have ih := link_rev ws (b :: l)
    rw [List.reverse_cons, List.reverse_cons, List.append_assoc]
    show linkS (revW ws) (l.reverse ++ [b, a]) = _
    rw [link_snoc, ← List.reverse_cons, ih, getD_rev, getD_rev, far_rev]
    show _ = farM _ _ + linkS ws (b :: l)
    omega
theorem sum_rev (ws : List (List Nat)) (l : List Nat) : sumS (revW ws) l.reverse = sumS ws l := by
  unfold sumS
  rw [List.map_reverse, List.sum_reverse]
  congr 1
  refine List.map_congr_left fun n _ => ?_
  rw [getD_rev, List.length_reverse]
theorem cost_rev (ws : List (List Nat)) (l : List Nat) : costL (revW ws) none l.reverse = costL ws none l := by
  have h1 := cost_none (revW ws) l.reverse
  have h2 := cost_none ws l
  rw [link_rev, sum_rev] at h1
  omega
theorem room_rev_le {ws : List (List Nat)} (g : ∀ w ∈ ws, w ≠ []) (h : (freeM ws).length ≤ 8) : (bestV (revW ws)).1 ≤ (bestV ws).1 := by
  have o1 := best_opt h
  have e := free_rev g
  have o2 := best_opt (ws := revW ws) (by rw [e]; exact h)
  rw [o1.cost, ← cost_rev]
  refine o2.least _ ?_
  rw [e]
  exact (List.reverse_perm _).trans o1.perm
theorem room_rev {ws : List (List Nat)} (g : ∀ w ∈ ws, w ≠ []) (h : (freeM ws).length ≤ 8) : (bestV (revW ws)).1 = (bestV ws).1 := by
  refine Nat.le_antisymm (room_rev_le g h) ?_
  have := room_rev_le (ws := revW ws) (fun w hw => by
    obtain ⟨v, hv, rfl⟩ := List.mem_map.mp hw
    simpa using g v hv) (by rw [free_rev g]; exact h)
  rwa [revW_revW] at this
end G

namespace G
open PySem
/-! ### other letters -/
structure Ren (φ : Nat → Nat) : Prop where
  inj : ∀ a b, φ a = φ b → a = b
  h0 : φ 0 = 0
  dot : φ 46 = 46
abbrev mW (φ : Nat → Nat) (ws : List (List Nat)) : List (List Nat) := ws.map (List.map φ)
section
variable {φ : Nat → Nat} (h : Ren φ)
include h
theorem phi_beq (a b : Nat) : (φ a == φ b) = (a == b) := by
  rw [Bool.eq_iff_iff, beq_iff_eq, beq_iff_eq]
  exact ⟨h.inj a b, fun e => by rw [e]⟩
theorem map_inj2 {u w : List Nat} (e : u.map φ = w.map φ) : u = w := (List.map_inj_right (fun a b => h.inj a b)).mp e
theorem map_beq (u w : List Nat) : (u.map φ == w.map φ) = (u == w) := by
  rw [Bool.eq_iff_iff, beq_iff_eq, beq_iff_eq]
  exact ⟨map_inj2 h, fun e => by rw [e]⟩
theorem getD_mp (l : List Nat) (n : Nat) : (l.map φ).getD n default = φ (l.getD n default) := by
  rw [List.getD_eq_getElem?_getD, List.getElem?_map, List.getD_eq_getElem?_getD]
  cases l[n]? with
  | some a => rfl
  | none => exact h.h0.symm
omit h in
theorem getD_mW (ws : List (List Nat)) (n : Nat) : (mW φ ws).getD n default = (ws.getD n default).map φ := by
  rw [List.getD_eq_getElem?_getD, List.getElem?_map, List.getD_eq_getElem?_getD]
  cases ws[n]? <;> rfl
theorem fits_mp (a b : List Nat) (m : Nat) : fitsM (a.map φ) (b.map φ) m = fitsM a b m := by
  unfold fitsM
  rw [List.length_map, ← List.map_drop, ← List.map_take, map_beq h]
theorem farG_mp (a b : List Nat) : ∀ n, farG (a.map φ) (b.map φ) n = farG a b n
  | 0 => rfl
  | n + 1 => by
    show (if fitsM (a.map φ) (b.map φ) n = true then n else farG (a.map φ) (b.map φ) n) = (if fitsM a b n = true then n else farG a b n)
    rw [fits_mp h, farG_mp a b n]
theorem far_mp (a b : List Nat) : farM (a.map φ) (b.map φ) = farM a b := by
  unfold farM
  rw [List.length_map, List.length_map, farG_mp h]
theorem unlikeL_mp (a b : List Nat) (m : Nat) : unlikeL (a.map φ) (b.map φ) m = unlikeL a b m := by
  unfold unlikeL
  rw [List.length_map]
  refine List.filter_congr fun p _ => ?_
  rw [getD_mp h, getD_mp h, phi_beq h]
theorem rows_mp (a b : List Nat) : rowsM (a.map φ) (b.map φ) = rowsM a b := by
  unfold rowsM
  rw [List.length_map, List.length_map, far_mp h]
  refine List.map_congr_left fun i _ => ?_
  unfold unlikeM
  rw [unlikeL_mp h]
theorem uAt_mp (t w : List Nat) (p : Nat) : uAt (t.map φ) (w.map φ) p = uAt t w p := by
  unfold uAt
  rw [List.length_map, List.length_map]
  congr 1
  congr 1
  funext i
  rw [getD_mp h, getD_mp h, phi_beq h]
theorem goP_mp (t w : List Nat) : ∀ f p, goP (t.map φ) (w.map φ) f p = goP t w f p
  | 0, p => rfl
  | f + 1, p => by
    show (match uAt (t.map φ) (w.map φ) p with | none => p | some _ => goP (t.map φ) (w.map φ) f (p + 1)) = (match uAt t w p with | none => p | some _ => goP t w f (p + 1))
    rw [uAt_mp h, goP_mp t w f]
theorem goL_mp (t w : List Nat) : ∀ f p, goL (t.map φ) (w.map φ) f p = goL t w f p
  | 0, p => rfl
  | f + 1, p => by
    show (match uAt (t.map φ) (w.map φ) p with | none => [] | some n => (p, n) :: goL (t.map φ) (w.map φ) f (p + 1)) = (match uAt t w p with | none => [] | some n => (p, n) :: goL t w f (p + 1))
    rw [uAt_mp h, goL_mp t w f]
theorem layStep_mp (s : List Nat × List Nat) (w : List Nat) : layStep (s.1.map φ, s.2) (w.map φ) = ((layStep s w).1.map φ, (layStep s w).2) := by
  have e : plM (s.1.map φ) (w.map φ) (lastN s.2) = plM s.1 w (lastN s.2) := by
    show goP _ _ ((s.1.map φ).length - lastN s.2) _ = goP _ _ (s.1.length - lastN s.2) _
    rw [List.length_map, goP_mp h]
  unfold layStep
  show (txM (s.1.map φ) (w.map φ) (plM (s.1.map φ) (w.map φ) (lastN s.2)), s.2 ++ [plM (s.1.map φ) (w.map φ) (lastN s.2)]) = _
  rw [e]
  unfold txM
  rw [List.length_map, ← List.map_drop, ← List.map_append]
theorem layF_mp : ∀ (ws : List (List Nat)) (s : List Nat × List Nat), (mW φ ws).foldl layStep (s.1.map φ, s.2) = ((ws.foldl layStep s).1.map φ, (ws.foldl layStep s).2)
  | [], s => rfl
  | w :: ws, s => by
    show (mW φ ws).foldl layStep (layStep (s.1.map φ, s.2) (w.map φ)) = _
    rw [layStep_mp h]
    exact layF_mp ws (layStep s w)
theorem lay_mp (ws : List (List Nat)) : layM (mW φ ws) = ((layM ws).1.map φ, (layM ws).2) := layF_mp h ws ([], [])
theorem res_mp (ws : List (List Nat)) : resM (mW φ ws) = resM ws := by
  have : ∀ i, resTo (mW φ ws) i = resTo ws i := fun i => by
    induction i with
    | zero => rfl
    | succ i ih =>
      show resTo (mW φ ws) i ++ _ = resTo ws i ++ _
      have e : layI (mW φ ws) i = ((layI ws i).1.map φ, (layI ws i).2) := by
        show layM ((ws.map (List.map φ)).take i) = _
        rw [← List.map_take]
        exact lay_mp h _
      rw [ih, e, getD_mW]
      congr 2
      show goL ((layI ws i).1.map φ) _ (((layI ws i).1.map φ).length - _) _ = goL _ _ ((layI ws i).1.length - _) _
      rw [List.length_map, goL_mp h]
  unfold resM
  rw [List.length_map, this]
theorem endB_mp (u w : List Nat) : endB (u.map φ) (w.map φ) = endB u w := by
  rw [endB_eq, endB_eq, List.length_map, List.length_map, ← List.map_drop, map_beq h]
theorem tailL_mp (ws : List (List Nat)) (w : List Nat) : tailL (mW φ ws) (w.map φ) = tailL ws w := by
  unfold tailL
  rw [List.zipIdx_map, List.filter_map, List.map_map]
  have e : (ws.zipIdx.filter ((fun q : List Nat × Nat => !(q.1 == w.map φ) && endB q.1 (w.map φ)) ∘ Prod.map (List.map φ) id)) = ws.zipIdx.filter fun q => !(q.1 == w) && endB q.1 w := List.filter_congr fun q _ => by
    show (!(q.1.map φ == w.map φ) && endB (q.1.map φ) (w.map φ)) = _
    rw [map_beq h, endB_mp h]
  rw [e]; rfl
theorem tailM_mp (ws : List (List Nat)) (w : List Nat) : tailM (mW φ ws) (w.map φ) = tailM ws w := by unfold tailM; rw [tailL_mp h]
theorem tails_mp (ws : List (List Nat)) : (mW φ ws).map (fun w => uD (tailM (mW φ ws) w)) = ws.map fun w => uD (tailM ws w) := by
  rw [List.map_map]
  refine List.map_congr_left fun w _ => ?_
  show uD (tailM (mW φ ws) (w.map φ)) = _
  rw [tailM_mp h]
theorem room_mp (ws : List (List Nat)) : roomM (mW φ ws) = roomM ws := by
  unfold roomM
  rw [List.filter_map, List.map_map]
  have e : (ws.filter ((fun w => (tailM (mW φ ws) w).isNone) ∘ List.map φ)) = ws.filter fun w => (tailM ws w).isNone := List.filter_congr fun w _ => by
    show (tailM (mW φ ws) (w.map φ)).isNone = _
    rw [tailM_mp h]
  rw [e]
  congr 1
  refine List.map_congr_left fun w _ => ?_
  show ((w.map φ).length : Int) + 1 = _
  rw [List.length_map]
theorem find_mp (t w : List Nat) : findM (t.map φ) (w.map φ) = findM t w := by
  unfold findM
  rw [List.length_map]
  congr 1
  funext i
  unfold stB
  rw [← List.map_drop, List.length_map, ← List.map_take, map_beq h]
theorem dot_mp (w : List Nat) : w.map φ ++ [46] = (w ++ [46]).map φ := by
  rw [List.map_append]
  show _ = _ ++ [φ 46]
  rw [h.dot]
theorem lput_mp (t w : List Nat) : (lputM (t.map φ) (w.map φ)).1 = (lputM t w).1.map φ := by
  unfold lputM
  rw [dot_mp h, find_mp h]
  cases findM t (w ++ [46]) with
  | some i => rfl
  | none =>
    show t.map φ ++ w.map φ ++ [46] = (t ++ w ++ [46]).map φ
    rw [List.append_assoc, dot_mp h, ← List.map_append, List.append_assoc]
theorem keptF_mp : ∀ (ws : List (List Nat)) (t : List Nat), (mW φ ws).foldl (fun k w => (lputM k w).1) (t.map φ) = (ws.foldl (fun k w => (lputM k w).1) t).map φ
  | [], t => rfl
  | w :: ws, t => by
    show (mW φ ws).foldl _ (lputM (t.map φ) (w.map φ)).1 = _
    rw [lput_mp h]
    exact keptF_mp ws _
theorem kept_mp (ws : List (List Nat)) : (keptM (mW φ ws)).length = (keptM ws).length := by
  have : keptM (mW φ ws) = (keptM ws).map φ := keptF_mp h ws []
  rw [this, List.length_map]
theorem inS_mp {u : List Nat} (hu : u ≠ []) (w : List Nat) : inS (u.map φ) (w.map φ) = inS u w := by
  rw [inS_find hu, inS_find (by simpa using hu), find_mp h]
theorem free_mp {ws : List (List Nat)} (g : ∀ w ∈ ws, w ≠ []) : freeM (mW φ ws) = freeM ws := by
  unfold freeM
  rw [List.zipIdx_map, List.filter_map, List.map_map]
  have e : (ws.zipIdx.filter ((fun q : List Nat × Nat => freeB (mW φ ws) q.1) ∘ Prod.map (List.map φ) id)) = ws.zipIdx.filter fun q => freeB ws q.1 := List.filter_congr fun q hq => by
    have hw : q.1 ≠ [] := g _ (List.mem_of_getElem? (List.mk_mem_zipIdx_iff_getElem?.mp hq))
    show freeB (mW φ ws) (q.1.map φ) = freeB ws q.1
    unfold freeB
    rw [filter_mapE]
    congr 1
    refine List.filter_congr fun o _ => ?_
    rw [inS_mp h hw, map_beq h]
  rw [e]; rfl
theorem step_mp (ws : List (List Nat)) (last : Option Nat) (m : Nat) : stepM (mW φ ws) last m = stepM ws last m := by
  unfold stepM
  rw [getD_mW, List.length_map]
  cases last with
  | none => rfl
  | some l =>
    show _ - farM ((mW φ ws).getD l default) _ = _ - farM _ _
    rw [getD_mW, far_mp h]
theorem bestS_mp (ws : List (List Nat)) (ns : List Nat) : ∀ n, bestS (mW φ ws) ns n = bestS ws ns n := by
  have hs : ∀ rec done last, stepB (mW φ ws) rec done last = stepB ws rec done last := fun rec done last => by
    funext a m
    unfold stepB
    rw [step_mp h]
  have hF : ∀ rec, bestF (mW φ ws) ns rec = bestF ws ns rec := fun rec => by
    funext kn done last
    unfold bestF
    rw [hs]
  intro n
  induction n with
  | zero => exact hF _
  | succ n ih =>
    show bestF (mW φ ws) ns (bestS (mW φ ws) ns n) = bestF ws ns (bestS ws ns n)
    rw [hF, ih]
theorem bestV_mp {ws : List (List Nat)} (g : ∀ w ∈ ws, w ≠ []) : bestV (mW φ ws) = bestV ws := by
  unfold bestV
  rw [free_mp h g, bestS_mp h]
theorem bestT_mp {ws : List (List Nat)} (g : ∀ w ∈ ws, w ≠ []) : (layM ((bestV (mW φ ws)).2.map fun n => (mW φ ws).getD n default)).1 = (layM ((bestV ws).2.map fun n => ws.getD n default)).1.map φ := by
  rw [bestV_mp h g]
  have e : ((bestV ws).2.map fun n => (mW φ ws).getD n default) = mW φ ((bestV ws).2.map fun n => ws.getD n default) := by
    show _ = ((bestV ws).2.map fun n => ws.getD n default).map (List.map φ)
    rw [List.map_map]
    exact List.map_congr_left fun n _ => getD_mW ws n
  rw [e, lay_mp h]
/-! in the same order -/
structure Mono (φ : Nat → Nat) (A : List Nat) : Prop where
  lt : ∀ a ∈ A, ∀ b ∈ A, a < b → φ a < φ b
def over (A w : List Nat) : Prop := ∀ c ∈ w, c ∈ A
theorem lt_mp {A : List Nat} (hm : Mono φ A) : ∀ {u w : List Nat}, over A u → over A w → (u.map φ < w.map φ ↔ u < w)
  | [], [], _, _ => Iff.rfl
  | [], y :: w, _, _ => ⟨fun _ => List.nil_lt_cons _ _, fun _ => List.nil_lt_cons _ _⟩
  | x :: u, [], _, _ => ⟨fun c => absurd c (List.not_lt_nil _), fun c => absurd c (List.not_lt_nil _)⟩
  | x :: u, y :: w, hu, hw => by
    have ih := lt_mp hm (u := u) (w := w) (fun c hc => hu c (List.mem_cons_of_mem _ hc)) fun c hc => hw c (List.mem_cons_of_mem _ hc)
    have hx := hu x List.mem_cons_self
    have hy := hw y List.mem_cons_self
    rw [List.map_cons, List.map_cons, List.cons_lt_cons_iff, List.cons_lt_cons_iff, ih]
    constructor
    · rintro (c | ⟨c, d⟩)
      · refine .inl (Classical.byContradiction fun z => ?_)
        rcases Nat.lt_or_eq_of_le (Nat.not_lt.mp z) with z | z
        · have := hm.lt y hy x hx z; omega
        · rw [z] at c; omega
      · exact .inr ⟨h.inj _ _ c, d⟩
    · rintro (c | ⟨c, d⟩)
      · exact .inl (hm.lt x hx y hy c)
      · exact .inr ⟨by rw [c], d⟩
theorem ord_mp {A : List Nat} (hm : Mono φ A) {ws : List (List Nat)} (g : ∀ w ∈ ws, over A w) : ordM (mW φ ws) = ordM ws := by
  unfold ordM
  rw [List.zipIdx_map]
  have e : ∀ a ∈ ws.zipIdx, ∀ b ∈ ws.zipIdx, rS a b = rS (Prod.map (List.map φ) id a) (Prod.map (List.map φ) id b) := fun a ha b hb => by
    have oa := g _ (List.mem_of_getElem? (List.mk_mem_zipIdx_iff_getElem?.mp ha))
    have ob := g _ (List.mem_of_getElem? (List.mk_mem_zipIdx_iff_getElem?.mp hb))
    have e1 : rS a b = !PySem.W.dataLt (gS b) (gS a) := rfl
    have e2 : rS (Prod.map (List.map φ) id a) (Prod.map (List.map φ) id b) = !PySem.W.dataLt (gS (b.1.map φ, b.2)) (gS (a.1.map φ, a.2)) := rfl
    rw [e1, e2]
    congr 1
    unfold gS
    rw [PySem.W.dataLt_pair (by simp [PySem.W.alike]) (by simp [PySem.W.alike]), PySem.W.dataLt_pair (by simp [PySem.W.alike]) (by simp [PySem.W.alike]), eqv_S, eqv_S, map_beq h, dataLt_S, dataLt_S]
    have : decide (b.1.map φ < a.1.map φ) = decide (b.1 < a.1) := decide_eq_decide.mpr (lt_mp h hm ob oa)
    rw [this]
  rw [← PySem.W.sort_maps (r := rS) (s := rS) (Prod.map (List.map φ) id) e, List.map_map]
  rfl
theorem seek_mp {f f' : Nat → List Nat} {w w' : List Nat} (h1 : ∀ m, f' m = w' ↔ f m = w) (h2 : ∀ m, f' m < w' ↔ f m < w) : ∀ (n low high : Nat), high - low = n → seekF f' w' low high = seekF f w low high := by
  intro n
  induction n using Nat.strongRecOn with
  | _ n ih =>
    intro low high hn
    by_cases c : low < high
    · by_cases e : f ((low + high) / 2) = w
      · rw [seek_hit c e, seek_hit c ((h1 _).mpr e)]
      · have e' : f' ((low + high) / 2) ≠ w' := fun z => e ((h1 _).mp z)
        by_cases e2 : f ((low + high) / 2) < w
        · rw [seek_up c e e2, seek_up c e' ((h2 _).mpr e2), ih _ (by omega) _ _ rfl]
        · rw [seek_down c e e2, seek_down c e' (fun z => e2 ((h2 _).mp z)), ih _ (by omega) _ _ rfl]
    · rw [seek_done c, seek_done c]
theorem tell_mp {A : List Nat} (hm : Mono φ A) {ws : List (List Nat)} (g : ∀ w ∈ ws, over A w) {w : List Nat} (hw : over A w) : tellM (mW φ ws) (w.map φ) = tellM ws w := by
  have ho := ord_mp h hm g
  have ha : ∀ m, atM (mW φ ws) m = (atM ws m).map φ := fun m => by
    unfold atM
    rw [ho, getD_mW]
  have hov : ∀ m, over A (atM ws m) := fun m => by
    unfold atM
    rw [List.getD_eq_getElem?_getD]
    cases hh : ws[(ordM ws).getD m default]? with
    | none => exact fun c hc => absurd (show c ∈ ([] : List Nat) from hc) (by simp)
    | some x => exact g x (List.mem_of_getElem? hh)
  unfold tellM
  rw [List.length_map]
  exact seek_mp h (fun m => by rw [ha]; exact ⟨map_inj2 h, fun e => by rw [e]⟩) (fun m => by rw [ha]; exact lt_mp h hm (hov m) hw) _ 0 _ rfl
theorem tlD_mp {A : List Nat} (hm : Mono φ A) {ws : List (List Nat)} (g : ∀ w ∈ ws, over A w) {w : List Nat} (hw : over A w) : tlD (mW φ ws) (tellM (mW φ ws) (w.map φ)) = tlD ws (tellM ws w) := by
  unfold tlD
  rw [tell_mp h hm g hw, ord_mp h hm g]
end
/-- the letters told -/
def phiM (a b c d : Nat) (x : Nat) : Nat := if x = 0 then 0 else if x = 46 then 46 else if x = 97 then a else if x = 98 then b else if x = 99 then c else if x = 122 then d else x + 1000
theorem phi_ren {a b c d : Nat} (h1 : 97 ≤ a) (h2 : a < b) (h3 : b < c) (h4 : c < d) (h5 : d ≤ 122) : Ren (phiM a b c d) := by
  refine ⟨fun x y e => ?_, rfl, rfl⟩
  unfold phiM at e
  repeat' split at e
  all_goals omega
theorem phi_mono {a b c d : Nat} (h1 : 97 ≤ a) (h2 : a < b) (h3 : b < c) (h4 : c < d) (h5 : d ≤ 122) : Mono (phiM a b c d) abczL := by
  refine ⟨fun x hx y hy hxy => ?_⟩
  have hx : x = 97 ∨ x = 98 ∨ x = 99 ∨ x = 122 := by simpa [abczL] using hx
  have hy : y = 97 ∨ y = 98 ∨ y = 99 ∨ y = 122 := by simpa [abczL] using hy
  unfold phiM
  rcases hx with e | e | e | e <;> rcases hy with e' | e' | e' | e' <;> subst e <;> subst e' <;> simp <;> omega
theorem good_mp {a b c d : Nat} (h1 : 97 ≤ a) (h2 : a < b) (h3 : b < c) (h4 : c < d) (h5 : d ≤ 122) {w : List Nat} (g : goodM w) (o : over abczL w) : goodM (w.map (phiM a b c d)) := by
  refine ⟨by rw [List.length_map]; exact g.1, by rw [List.length_map]; exact g.2.1, fun x hx => ?_⟩
  obtain ⟨y, hy, rfl⟩ := List.mem_map.mp hx
  have hy : y = 97 ∨ y = 98 ∨ y = 99 ∨ y = 122 := by simpa [abczL] using o y hy
  have : 97 ≤ phiM a b c d y ∧ phiM a b c d y ≤ 122 := by
    unfold phiM
    rcases hy with e | e | e | e <;> subst e <;> simp <;> omega
  simp only [smallL, List.mem_cons, List.not_mem_nil, or_false]
  omega
end G

namespace G
open PySem PySem.Spec PyProof.Rows L2

/-! ### the walk's words -/
local macro_rules | `(tactic| fail "asm") => `(tactic| first
  | with_reducible assumption)
local macro_rules | `(tactic| fail "vis") => `(tactic| first
  | (with_reducible assumption)
  | exact Or.inl rfl
  | exact Or.inr (Or.inl rfl)
  | exact Or.inr (Or.inr rfl))
local macro_rules | `(tactic| fail "loc") => `(tactic| first
  | exact Or.inl rfl
  | exact Or.inr rfl)
local macro_rules | `(tactic| fail "hT") => `(tactic| first
  | exact fun _ h => h
  | exact fun _ _ => trivial
  | with_reducible assumption)
local macro_rules | `(tactic| fail "same") => `(tactic| first
  | exact Same.refl _
  | assumption
  | (refine Same.trans (by assumption) ?_; first | exact Same.refl _ | assumption | (refine Same.trans (by assumption) ?_; first | exact Same.refl _ | assumption | (refine Same.trans (by assumption) ?_; assumption))))
local macro_rules | `(tactic| fail "fd") => `(tactic| first
  | exact Fd.int _
  | exact Fd.str _
  | exact Fd.bl _
  | exact Fd.non
  | assumption
  | (refine' Fd.mono ?h1 ?h2 ?h3; (case h3 => assumption); (case h1 => fail "hT"); (case h2 => fail "same")))
local macro_rules | `(tactic| fail "okw") => `(tactic| first
  | exact okW.nil
  | (refine' okW.cut ?a0 _ _; (case a0 => fail "side"))
  | (refine' okW.app ?a0 ?a1; (case a0 => fail "side"); (case a1 => fail "side"))
  | (refine' okW.get ?a0 _; (case a0 => fail "side"))
  | (refine' okW.drop ?a0 _; (case a0 => fail "side"))
  | (refine' okW.take ?a0 _; (case a0 => fail "side"))
  | (refine' okW.filter ?a0 _; (case a0 => fail "side"))
  | (refine' okWs.filter ?a0 _; (case a0 => fail "side")))
local macro_rules | `(tactic| fail "sh") => `(tactic| first
  | exact shIs _
  | exact shGN _
  | exact flatS _
  | exact shIsT _
  | (refine' shSs ?a0; (case a0 => fail "side"))
  | (refine' shSigns ?a0; (case a0 => fail "side"))
  | exact rfl)
local macro_rules | `(tactic| fail "side") => `(tactic| first
  | with_reducible assumption
  | omega
  | fail "sh"
  | fail "mine"
  | fail "okw"
  | (simp only [List.length_map, List.length_append, List.length_cons, List.length_nil, List.length_range, List.length_zip, sizeLine_eq]; omega)
  | (split <;> omega)
  | (refine Nat.lt_of_le_of_lt (List.length_filter_le _ _) ?_; (try rw [List.length_range]); rw [sizeLine_eq]; omega)
  | decide)
local macro_rules | `(tactic| fail "ix") => `(tactic| first
  | exact fun _ _ => rfl)
local macro_rules | `(tactic| fail "flat") => `(tactic| first
  | exact fun _ => rfl)
local macro_rules | `(tactic| fail "od") => `(tactic| first
  | exact od_add
  | exact od_sub
  | (refine' od_mod ?a0; (case a0 => fail "side"))
  | (refine' od_mul ?a0; (case a0 => fail "side"))
  | (refine' od_pow ?a0; (case a0 => fail "side"))
  | (refine' od_fdiv ?a0; (case a0 => fail "side"))
  | (refine' od_adds ?a0; (case a0 => fail "side"))
  | (refine' od_catMF ?a0 ?a1 ?a2; (case a0 => fail "side"); (case a1 => fail "flat"); (case a2 => fail "hT"))
  | (refine' od_catM ?a0; (case a0 => fail "side"))
  | (refine' od_cat ?a0; (case a0 => fail "side"))
  | (refine' od_catT ?a0 ?a1; (case a0 => fail "asm"); (case a1 => fail "side"))
  | exact od_lt
  | exact od_le
  | exact od_gt
  | exact od_ge
  | (refine' od_eqI ?a0; (case a0 => fail "asm"))
  | (refine' od_neI ?a0; (case a0 => fail "asm"))
  | (refine' od_eqS ?a0 ?a1 ?a2; (case a0 => fail "asm"); (case a1 => fail "side"); (case a2 => fail "side"))
  | (refine' od_neS ?a0 ?a1 ?a2; (case a0 => fail "asm"); (case a1 => fail "side"); (case a2 => fail "side"))
  | (refine' od_eqN ?a0 ?a1; (case a0 => fail "asm"); (case a1 => fail "side"))
  | (refine' od_neN ?a0 ?a1; (case a0 => fail "asm"); (case a1 => fail "side"))
  | (refine' od_eqNT ?a0 ?a1; (case a0 => fail "asm"); (case a1 => fail "side"))
  | (refine' od_neNT ?a0 ?a1; (case a0 => fail "asm"); (case a1 => fail "side"))
  | (refine' od_eqLI ?a0; (case a0 => fail "asm"))
  | (refine' od_neLI ?a0; (case a0 => fail "asm"))
  | (refine' od_eqLS ?a0 ?a1 ?a2; (case a0 => fail "asm"); (case a1 => fail "side"); (case a2 => fail "side"))
  | (refine' od_neLS ?a0 ?a1 ?a2; (case a0 => fail "asm"); (case a1 => fail "side"); (case a2 => fail "side"))
  | (refine' od_eq ?a0 ?a1 ?a2; (case a0 => fail "asm"); (case a1 => fail "side"); (case a2 => fail "side"))
  | (refine' od_ne ?a0 ?a1 ?a2; (case a0 => fail "asm"); (case a1 => fail "side"); (case a2 => fail "side"))
  | exact od_is rfl
  | exact od_isnot rfl
  | exact od_isB
  | exact od_isnotB
  | exact od_notin1
  | exact od_in1
  | exact od_inS
  | exact od_notinS
  | (refine' od_inLS ?a0; (case a0 => fail "asm"))
  | (refine' od_notinLS ?a0; (case a0 => fail "asm"))
  | (refine' od_inLI ?a0; (case a0 => fail "asm"))
  | (refine' od_notinLI ?a0; (case a0 => fail "asm"))
  | (refine' od_inTI ?a0; (case a0 => fail "asm"))
  | (refine' od_notinTI ?a0; (case a0 => fail "asm"))
  | exact od_ltS
  | exact od_gtS)
local macro_rules | `(tactic| fail "cb") => `(tactic| first
  | (refine' cb_lenS ?a0; (case a0 => fail "side"))
  | (refine' cb_lenM ?a0; (case a0 => fail "asm"))
  | (refine' cb_lenMT ?a0; (case a0 => fail "asm"))
  | (refine' cb_lenL ?a0; (case a0 => fail "asm"))
  | (refine' cb_lenT ?a0; (case a0 => fail "asm"))
  | (refine' cb_min2 ?a0; (case a0 => fail "asm"))
  | (refine' cb_max2 ?a0; (case a0 => fail "asm"))
  | exact cb_int
  | exact cb_intB
  | (refine' cb_sum ?a0; (case a0 => fail "asm"))
  | (refine' cb_all ?a0; (case a0 => fail "asm"))
  | (refine' cb_listF ?a0 ?a1 ?a2; (case a0 => fail "asm"); (case a1 => fail "side"); (case a2 => fail "hT"))
  | (refine' cb_list ?a0; (case a0 => fail "asm"))
  | (refine' cb_tupleF ?a0 ?a1 ?a2; (case a0 => fail "asm"); (case a1 => fail "side"); (case a2 => fail "hT"))
  | fail "owncb")
local macro_rules | `(tactic| fail "gb") => `(tactic| first
  | (with_reducible assumption)
  | exact (by unfold Gb; rfl))
local macro_rules | `(tactic| fail "ea") => `(tactic| first
  | exact ea_nil
  | (refine' ea_cons ?a0 ?a1 ?a2; (case a0 => fail "ev"); (case a1 => fail "ea"); (case a2 => (intro _; rfl))))
local macro_rules | `(tactic| fail "eo") => `(tactic| first
  | exact eo_none
  | (refine' eo_some ?a0; (case a0 => fail "ev")))
local macro_rules | `(tactic| fail "mark") => `(tactic| first
  | exact nomark _
  | rfl)
local macro_rules | `(tactic| fail "dec") => `(tactic| first
  | decide +kernel)
local macro_rules | `(tactic| fail "d") => `(tactic| first
  | decide)
local macro_rules | `(tactic| fail "di") => `(tactic| first
  | exact dflt)
local macro_rules | `(tactic| fail "irfl") => `(tactic| first
  | (intro _; rfl))
local macro_rules | `(tactic| fail "irfl2") => `(tactic| first
  | (intro _ _; rfl))
local macro_rules | `(tactic| fail "wrfl") => `(tactic| first
  | with_unfolding_all rfl)
local macro_rules | `(tactic| fail "mem") => `(tactic| first
  | (intro _))
local macro_rules | `(tactic| fail "it") => `(tactic| first
  | (refine' it_range1 ?a0 ?a1 ?a2 ?a3 ?a4 ?a5 ?a6; (case a0 => fail "asm"); (case a1 => fail "asm"); (case a2 => fail "gb"); (case a3 => fail "ev"); (case a4 => fail "side"); (case a5 => fail "side"); (case a6 => fail "irfl"))
  | (refine' it_range2 ?a0 ?a1 ?a2 ?a3 ?a4 ?a5 ?a6 ?a7; (case a0 => fail "asm"); (case a1 => fail "asm"); (case a2 => fail "gb"); (case a3 => fail "ev"); (case a4 => fail "ev"); (case a5 => fail "side"); (case a6 => fail "irfl"); (case a7 => fail "irfl"))
  | (refine' it_enumM ?a0 ?a1 ?a2 ?a3 ?a4; (case a0 => fail "asm"); (case a1 => fail "asm"); (case a2 => fail "gb"); (case a3 => fail "ev"); (case a4 => fail "irfl"))
  | (refine' it_zipM ?a0 ?a1 ?a2 ?a3 ?a4 ?a5 ?a6 ?a7 ?a8; (case a0 => fail "asm"); (case a1 => fail "asm"); (case a2 => fail "gb"); (case a3 => fail "ev"); (case a4 => fail "ev"); (case a5 => fail "side"); (case a6 => fail "irfl"); (case a7 => fail "irfl"); (case a8 => fail "irfl"))
  | (refine' it_list ?a0 ?a1; (case a0 => fail "asm"); (case a1 => fail "ev"))
  | (refine' it_tup ?a0 ?a1; (case a0 => fail "asm"); (case a1 => fail "ev"))
  | (refine' it_str ?a0; (case a0 => fail "ev")))
local macro_rules | `(tactic| fail "ets") => `(tactic| first
  | exact ets_nil
  | (refine' ets_one ?a0; (case a0 => fail "et")))
local macro_rules | `(tactic| fail "locB") => `(tactic| first
  | exact Or.inr rfl
  | exact Or.inl rfl)
local macro_rules | `(tactic| fail "call") => `(tactic| first
  | (refine' SpD.pure ?a0 ?a1; (case a0 => (constructor <;> fail "side")); (case a1 => fail "hT")))
local macro_rules | `(tactic| fail "lvl") => `(tactic| first
  | decide
  | omega)
local macro_rules | `(tactic| fail "tn") => `(tactic| first
  | exact (rfl : (_ : String) = "NoneType")
  | exact (rfl : (_ : String) = "bool")
  | exact (rfl : (_ : String) = "int")
  | exact (rfl : (_ : String) = "str")
  | exact (rfl : (_ : String) = "list")
  | exact (rfl : (_ : String) = "tuple"))
local macro_rules | `(tactic| fail "kit") => `(tactic| first
  | exact kit_ty (r := true) (by decide +kernel)
  | exact kit_ty (r := false) (by decide +kernel))
local macro_rules | `(tactic| fail "evv") => `(tactic| first
  | (refine' evv_name ?a0 ?a1 ?a2 ?a3; (case a0 => fail "asm"); (case a1 => fail "asm"); (case a2 => fail "vis"); (case a3 => rfl)))
local macro_rules | `(tactic| fail "con") => `(tactic| first
  | (constructor <;> fail "side"))
local macro_rules | `(tactic| fail "ev") => `(tactic| first
  | exact ev_int
  | exact ev_strT
  | exact ev_bl
  | exact ev_non
  | (refine' ev_name ?a0 ?a1 ?a2 ?a3 ?a4; (case a0 => fail "asm"); (case a1 => fail "asm"); (case a2 => fail "vis"); (case a3 => rfl); (case a4 => fail "fd"))
  | (refine' ev_bin ?a0 ?a1 ?a2; (case a0 => fail "ev"); (case a1 => fail "ev"); (case a2 => fail "od"))
  | (refine' ev_cmp ?a0 ?a1 ?a2 ?a3; (case a0 => fail "ev"); (case a1 => fail "ev"); (case a2 => fail "od"); (case a3 => fail "mark"))
  | (refine' ev_chain ?a0 ?a1 ?a2 ?a3 ?a4 ?a5; (case a0 => fail "ev"); (case a1 => fail "ev"); (case a2 => fail "ev"); (case a3 => fail "od"); (case a4 => fail "od"); (case a5 => fail "wrfl"))
  | (refine' ev_one ?a0; (case a0 => fail "ev"))
  | (refine' ev_and ?a0 ?a1; (case a0 => fail "ev"); (case a1 => (intro _; fail "ev")))
  | (refine' ev_or ?a0 ?a1; (case a0 => fail "ev"); (case a1 => (intro _; fail "ev")))
  | (refine' ev_not ?a0; (case a0 => fail "ev"))
  | (refine' ev_list ?a0 ?a1 ?a2; (case a0 => fail "ea"); (case a1 => fail "side"); (case a2 => fail "hT"))
  | (refine' ev_tup ?a0 ?a1 ?a2; (case a0 => fail "ea"); (case a1 => fail "side"); (case a2 => fail "hT"))
  | (refine' ev_ixT0 ?a0 ?a1; (case a0 => fail "asm"); (case a1 => fail "ev"))
  | (refine' ev_ixT1 ?a0 ?a1; (case a0 => fail "asm"); (case a1 => fail "ev"))
  | (refine' ev_ixT2 ?a0 ?a1; (case a0 => fail "asm"); (case a1 => fail "ev"))
  | (refine' ev_slS ?a0 ?a1 ?a2 ?a3; (case a0 => fail "ev"); (case a1 => fail "eo"); (case a2 => fail "eo"); (case a3 => fail "side"))
  | (refine' ev_slMF ?a0 ?a1 ?a2 ?a3 ?a4 ?a5; (case a0 => fail "asm"); (case a1 => fail "ev"); (case a2 => fail "eo"); (case a3 => fail "eo"); (case a4 => fail "flat"); (case a5 => fail "hT"))
  | (refine' ev_slM ?a0 ?a1 ?a2 ?a3; (case a0 => fail "asm"); (case a1 => fail "ev"); (case a2 => fail "eo"); (case a3 => fail "eo"))
  | (refine' ev_ixMlast ?a0 ?a1 ?a2 ?a3 ?a4 ?a5; (case a0 => fail "asm"); (case a1 => fail "ev"); (case a2 => fail "di"); (case a3 => fail "flat"); (case a4 => fail "side"); (case a5 => fail "ix"))
  | (refine' ev_ixSn ?a0 ?a1 ?a2 ?a3 ?a4 ?a5; (case a0 => fail "ev"); (case a1 => fail "ev"); (case a2 => fail "side"); (case a3 => fail "side"); (case a4 => fail "side"); (case a5 => fail "ix"))
  | (refine' ev_ixI2 ?a0 ?a1 ?a2 ?a3 ?a4 ?a5; (case a0 => fail "asm"); (case a1 => fail "ev"); (case a2 => fail "ev"); (case a3 => fail "side"); (case a4 => fail "side"); (case a5 => fail "ix"))
  | (refine' ev_ixS3 ?a0 ?a1 ?a2 ?a3 ?a4 ?a5; (case a0 => fail "asm"); (case a1 => fail "ev"); (case a2 => fail "ev"); (case a3 => fail "side"); (case a4 => fail "side"); (case a5 => fail "ix"))
  | (refine' ev_ixMn ?a0 ?a1 ?a2 ?a3 ?a4 ?a5 ?a6 ?a7; (case a0 => fail "asm"); (case a1 => fail "ev"); (case a2 => fail "di"); (case a3 => fail "ev"); (case a4 => fail "flat"); (case a5 => fail "side"); (case a6 => fail "side"); (case a7 => fail "ix"))
  | (refine' ev_ixLn ?a0 ?a1 ?a2 ?a3 ?a4 ?a5 ?a6; (case a0 => fail "asm"); (case a1 => fail "ev"); (case a2 => fail "di"); (case a3 => fail "ev"); (case a4 => fail "side"); (case a5 => fail "side"); (case a6 => fail "ix"))
  | (refine' ev_ixTn ?a0 ?a1 ?a2 ?a3 ?a4 ?a5 ?a6; (case a0 => fail "asm"); (case a1 => fail "ev"); (case a2 => fail "di"); (case a3 => fail "ev"); (case a4 => fail "side"); (case a5 => fail "side"); (case a6 => fail "ix"))
  | (refine' ev_neg ?a0; (case a0 => fail "ev"))
  | (refine' ev_ixT0 ?a0 ?a1; (case a0 => fail "asm"); (case a1 => fail "ev"))
  | (refine' ev_ixT1 ?a0 ?a1; (case a0 => fail "asm"); (case a1 => fail "ev"))
  | (refine' ev_ixT2 ?a0 ?a1; (case a0 => fail "asm"); (case a1 => fail "ev"))
  | (refine' ev_cb ?a0 ?a1 ?a2 ?a3 ?a4 ?a5 ?a6 ?a7 ?a8 ?a9; (case a0 => fail "asm"); (case a1 => fail "asm"); (case a2 => fail "gb"); (case a3 => fail "dec"); (case a4 => fail "ea"); (case a5 => fail "cb"); (case a6 => fail "d"); (case a7 => fail "d"); (case a8 => fail "irfl"); (case a9 => fail "irfl"))
  | (refine' ev_ct ?a0 ?a1 ?a2 ?a3 ?a4 ?a5 ?a6 ?a7 ?a8 ?a9; (case a0 => fail "asm"); (case a1 => fail "asm"); (case a2 => fail "gb"); (case a3 => fail "dec"); (case a4 => fail "ea"); (case a5 => fail "cb"); (case a6 => fail "d"); (case a7 => fail "d"); (case a8 => fail "irfl"); (case a9 => fail "irfl"))
  | (refine' ev_isi ?a0 ?a1 ?a2 ?a3 ?a4 ?a5 ?a6 ?a7 ?a8 ?a9 ?a10 ?a11 ?a12 ?a13 ?a14 ?a15; (case a0 => fail "asm"); (case a1 => fail "asm"); (case a2 => fail "gb"); (case a3 => fail "asm"); (case a4 => fail "gb"); (case a5 => fail "ev"); (case a6 => fail "tn"); (case a7 => fail "dec"); (case a8 => fail "dec"); (case a9 => fail "kit"); (case a10 => fail "d"); (case a11 => fail "d"); (case a12 => fail "d"); (case a13 => fail "d"); (case a14 => fail "irfl"); (case a15 => fail "irfl"))
  | (refine' ev_call ?a0 ?a1 ?a2 ?a3 ?a4 ?a5 ?a6 ?a7 ?a8; (case a0 => fail "asm"); (case a1 => fail "asm"); (case a2 => fail "lvl"); (case a3 => fail "gb"); (case a4 => fail "ea"); (case a5 => fail "call"); (case a6 => fail "d"); (case a7 => fail "irfl"); (case a8 => fail "irfl"))
  | (refine' ev_callB ?a0 ?a1 ?a2 ?a3 ?a4 ?a5 ?a6 ?a7 ?a8 ?a9 ?a10; (case a0 => fail "asm"); (case a1 => fail "asm"); (case a2 => fail "lvl"); (case a3 => fail "gb"); (case a4 => fail "evv"); (case a5 => fail "ea"); (case a6 => fail "con"); (case a7 => fail "hT"); (case a8 => fail "d"); (case a9 => fail "irfl"); (case a10 => fail "irfl"))
  | (refine' ev_lc0 ?a0 ?a1 ?a2 ?a3 ?a4 ?a5 ?a6 ?a7 ?a8 ?a9; (case a0 => fail "asm"); (case a1 => fail "asm"); (case a2 => fail "loc"); (case a3 => fail "locB"); (case a4 => fail "dec"); (case a5 => fail "it"); (case a6 => fail "hT"); (case a7 => fail "side"); (case a8 => (intro a ha v F1 M hxb hf hd; (try (have hq := hd.scal rfl; subst hq)); (try have hlt := List.mem_range.mp ha); (try have hlt := List.mem_range.mp (List.mem_filter.mp ha).1); (try have hpr := of_decide_eq_true (List.mem_filter.mp ha).2); fail "ev")); (case a9 => fail "irfl2"))
  | (refine' ev_lc20 ?a0 ?a1 ?a2 ?a3 ?a4 ?a5 ?a6 ?a7 ?a8 ?a9 ?a10 ?a11 ?a12; (case a0 => fail "asm"); (case a1 => fail "asm"); (case a2 => fail "asm"); (case a3 => fail "loc"); (case a4 => fail "loc"); (case a5 => fail "locB"); (case a6 => fail "locB"); (case a7 => fail "dec"); (case a8 => fail "it"); (case a9 => fail "hT"); (case a10 => fail "side"); (case a11 => (intro a ha v u F1 M hxb hf hd hd2; (try (have hq := hd.scal rfl; subst hq)); (try (have hq2 := hd2.scal rfl; subst hq2)); fail "ev")); (case a12 => fail "irfl2"))
  | (refine' ev_lc ?a0 ?a1 ?a2 ?a3 ?a4 ?a5 ?a6 ?a7 ?a8 ?a9 ?a10; (case a0 => fail "asm"); (case a1 => fail "asm"); (case a2 => fail "loc"); (case a3 => fail "locB"); (case a4 => fail "dec"); (case a5 => fail "it"); (case a6 => fail "hT"); (case a7 => fail "side"); (case a8 => (intro a ha v F1 M hxb hf hd; (try (have hq := hd.scal rfl; subst hq)); (try have hlt := List.mem_range.mp ha); (try have hlt := List.mem_range.mp (List.mem_filter.mp ha).1); (try have hpr := of_decide_eq_true (List.mem_filter.mp ha).2); fail "ets")); (case a9 => (intro a ha hp v F1 M hxb hf hd; (try (have hq := hd.scal rfl; subst hq)); (try have hlt := List.mem_range.mp ha); (try have hlt := List.mem_range.mp (List.mem_filter.mp ha).1); (try have hpr := of_decide_eq_true (List.mem_filter.mp ha).2); fail "ev")); (case a10 => fail "irfl2"))
  | (refine' ev_lc2 ?a0 ?a1 ?a2 ?a3 ?a4 ?a5 ?a6 ?a7 ?a8 ?a9 ?a10 ?a11 ?a12 ?a13; (case a0 => fail "asm"); (case a1 => fail "asm"); (case a2 => fail "asm"); (case a3 => fail "loc"); (case a4 => fail "loc"); (case a5 => fail "locB"); (case a6 => fail "locB"); (case a7 => fail "dec"); (case a8 => fail "it"); (case a9 => fail "hT"); (case a10 => fail "side"); (case a11 => (intro a ha v u F1 M hxb hf hd hd2; (try (have hq := hd.scal rfl; subst hq)); (try (have hq2 := hd2.scal rfl; subst hq2)); fail "ets")); (case a12 => (intro a ha hp v u F1 M hxb hf hd hd2; (try (have hq := hd.scal rfl; subst hq)); (try (have hq2 := hd2.scal rfl; subst hq2)); fail "ev")); (case a13 => fail "irfl2"))
  | (refine' ev_endswith ?a0 ?a1 ?a2 ?a3 ?a4; (case a0 => fail "ev"); (case a1 => fail "ev"); (case a2 => fail "irfl"); (case a3 => fail "irfl"); (case a4 => rfl))
  | (refine' ev_find ?a0 ?a1 ?a2 ?a3 ?a4; (case a0 => fail "ev"); (case a1 => fail "ev"); (case a2 => fail "irfl"); (case a3 => fail "irfl"); (case a4 => rfl))
  | (refine' ev_globS ?a0 ?a1 ?a2 ?a3; (case a0 => fail "asm"); (case a1 => fail "gb"); (case a2 => fail "asm"); (case a3 => fail "d"))
  | (refine' ev_globI ?a0 ?a1 ?a2 ?a3; (case a0 => fail "asm"); (case a1 => fail "gb"); (case a2 => fail "asm"); (case a3 => fail "d"))
  | fail "own")
local macro_rules | `(tactic| fail "rel") => `(tactic| first
  | exact ⟨_, rfl⟩)
local macro_rules | `(tactic| fail "et") => `(tactic| first
  | (refine' et_cmp ?a0 ?a1 ?a2 ?a3; (case a0 => fail "ev"); (case a1 => fail "ev"); (case a2 => fail "od"); (case a3 => fail "mark"))
  | (refine' et_chain ?a0 ?a1 ?a2 ?a3 ?a4 ?a5; (case a0 => fail "ev"); (case a1 => fail "ev"); (case a2 => fail "ev"); (case a3 => fail "od"); (case a4 => fail "od"); (case a5 => fail "wrfl"))
  | (refine' et_not ?a0; (case a0 => fail "et"))
  | (refine' et_w ?a0; (case a0 => fail "ew"))
  | (refine' et_val ?a0 ?a1; (case a0 => fail "ev"); (case a1 => (intro _ _; rfl))))
local macro_rules | `(tactic| fail "ew") => `(tactic| first
  | (refine' ew_and1 ?a0; (case a0 => fail "et"))
  | (refine' ew_or1 ?a0; (case a0 => fail "et"))
  | (refine' ew_and ?a0 ?a1; (case a0 => fail "et"); (case a1 => (intro _; fail "ew")))
  | (refine' ew_or ?a0 ?a1; (case a0 => fail "et"); (case a1 => (intro _; fail "ew"))))
local macro_rules | `(tactic| fail "asg") => `(tactic| first
  | (refine' asg_name ?a0 ?a1 ?a2 ?a3 ?a4; (case a0 => fail "asm"); (case a1 => fail "asm"); (case a2 => fail "loc"); (case a3 => fail "locB2"); (case a4 => fail "irfl"))
  | (refine' asg_lc1 ?a0 ?a1 ?a2 ?a3 ?a4 ?a5 ?a6 ?a7 ?a8; (case a0 => fail "asm"); (case a1 => fail "asm"); (case a2 => fail "asm"); (case a3 => rfl); (case a4 => rfl); (case a5 => rfl); (case a6 => fail "dec"); (case a7 => fail "dec"); (case a8 => fail "irfl2"))
  | (refine' asg_lc2 ?a0 ?a1 ?a2 ?a3 ?a4 ?a5 ?a6 ?a7 ?a8 ?a9; (case a0 => fail "asm"); (case a1 => fail "asm"); (case a2 => fail "asm"); (case a3 => fail "asm"); (case a4 => rfl); (case a5 => rfl); (case a6 => rfl); (case a7 => fail "dec"); (case a8 => fail "dec"); (case a9 => fail "irfl2")))
local macro_rules | `(tactic| fail "locB2") => `(tactic| first
  | exact Or.inl rfl
  | exact Or.inr rfl)
local macro_rules | `(tactic| fail "evr") => `(tactic| first
  | (refine' evr_of ?a0; (case a0 => fail "ev"))
  | (refine' lcR0 ?a0 ?a1 ?a2 ?a3 ?a4 ?a5 ?a6 ?a7 ?a8; (case a0 => fail "asm"); (case a1 => fail "asm"); (case a2 => fail "loc"); (case a3 => fail "locB"); (case a4 => fail "dec"); (case a5 => fail "it"); (case a6 => fail "hT"); (case a7 => fail "side"); (case a8 => (intro a ha v F1 M hxb hf hd; (try (have hq := hd.scal rfl; subst hq)); (try have hlt := List.mem_range.mp ha); (try have hlt := List.mem_range.mp (List.mem_filter.mp ha).1); (try have hpr := of_decide_eq_true (List.mem_filter.mp ha).2); fail "ev")))
  | (refine' lcR20 ?a0 ?a1 ?a2 ?a3 ?a4 ?a5 ?a6 ?a7 ?a8 ?a9 ?a10 ?a11; (case a0 => fail "asm"); (case a1 => fail "asm"); (case a2 => fail "asm"); (case a3 => fail "loc"); (case a4 => fail "loc"); (case a5 => fail "locB"); (case a6 => fail "locB"); (case a7 => fail "dec"); (case a8 => fail "it"); (case a9 => fail "hT"); (case a10 => fail "side"); (case a11 => (intro a ha v u F1 M hxb hf hd hd2; (try (have hq := hd.scal rfl; subst hq)); (try (have hq2 := hd2.scal rfl; subst hq2)); fail "ev")))
  | (refine' lcR ?a0 ?a1 ?a2 ?a3 ?a4 ?a5 ?a6 ?a7 ?a8 ?a9; (case a0 => fail "asm"); (case a1 => fail "asm"); (case a2 => fail "loc"); (case a3 => fail "locB"); (case a4 => fail "dec"); (case a5 => fail "it"); (case a6 => fail "hT"); (case a7 => fail "side"); (case a8 => (intro a ha v F1 M hxb hf hd; (try (have hq := hd.scal rfl; subst hq)); (try have hlt := List.mem_range.mp ha); (try have hlt := List.mem_range.mp (List.mem_filter.mp ha).1); (try have hpr := of_decide_eq_true (List.mem_filter.mp ha).2); fail "ets")); (case a9 => (intro a ha hp v F1 M hxb hf hd; (try (have hq := hd.scal rfl; subst hq)); (try have hlt := List.mem_range.mp ha); (try have hlt := List.mem_range.mp (List.mem_filter.mp ha).1); (try have hpr := of_decide_eq_true (List.mem_filter.mp ha).2); fail "ev")))
  | (refine' lcR2 ?a0 ?a1 ?a2 ?a3 ?a4 ?a5 ?a6 ?a7 ?a8 ?a9 ?a10 ?a11 ?a12; (case a0 => fail "asm"); (case a1 => fail "asm"); (case a2 => fail "asm"); (case a3 => fail "loc"); (case a4 => fail "loc"); (case a5 => fail "locB"); (case a6 => fail "locB"); (case a7 => fail "dec"); (case a8 => fail "it"); (case a9 => fail "hT"); (case a10 => fail "side"); (case a11 => (intro a ha v u F1 M hxb hf hd hd2; (try (have hq := hd.scal rfl; subst hq)); (try (have hq2 := hd2.scal rfl; subst hq2)); fail "ets")); (case a12 => (intro a ha hp v u F1 M hxb hf hd hd2; (try (have hq := hd.scal rfl; subst hq)); (try (have hq2 := hd2.scal rfl; subst hq2)); fail "ev"))))
local macro_rules | `(tactic| fail "setS") => `(tactic| first
  | (refine' ex_setS ?a0 ?a1 ?a2 ?a3; (case a0 => fail "asg"); (case a1 => fail "evr"); (case a2 => rfl)))
local macro_rules | `(tactic| fail "setB") => `(tactic| first
  | (refine' ex_setB ?a0 ?a1 ?a2 ?a3 ?a4 ?a5 ?a6 ?a7 ?a8 ?a9 ?a10 ?a11 ?a12; (case a0 => fail "asg"); (case a1 => fail "asm"); (case a2 => fail "asm"); (case a3 => fail "lvl"); (case a4 => fail "gb"); (case a5 => fail "evv"); (case a6 => fail "ea"); (case a7 => fail "con"); (case a8 => fail "hT"); (case a9 => fail "d"); (case a10 => fail "irfl"); (case a11 => fail "irfl")))
local macro_rules | `(tactic| fail "setD") => `(tactic| first
  | (refine' ex_setD ?a0 ?a1 ?a2; (case a0 => fail "asg"); (case a1 => fail "evr")))
local macro_rules | `(tactic| fail "for1") => `(tactic| first
  | (refine' ex_forM _ ?a0 ?a1 ?a2 ?a3 ?a4 ?a5 ?a6 ?a7 ?a8; (case a0 => fail "asm"); (case a1 => fail "asm"); (case a2 => fail "loc"); (case a3 => fail "locB2"); (case a4 => fail "it"); (case a8 => fail "irfl2")))
local macro_rules | `(tactic| fail "new") => `(tactic| first
  | (refine' ex_setNew ?a0 ?a1 ?a2 ?a3 ?a4; (case a0 => fail "asm"); (case a1 => fail "asm"); (case a2 => fail "loc"); (case a3 => fail "locB2")))
local macro_rules | `(tactic| fail "ifT") => `(tactic| first
  | (refine' ex_ifT ?a0 ?a1 ?a2; (case a0 => fail "et"); (case a1 => rfl)))
local macro_rules | `(tactic| fail "skip") => `(tactic| first
  | (refine' ex_skip ?a0 ?a1 ?a2; (case a0 => fail "et"); (case a1 => rfl)))
local macro_rules | `(tactic| fail "ret") => `(tactic| first
  | (refine' ex_ret ?a0 ?a1; (case a0 => fail "ev")))
local macro_rules | `(tactic| fail "unp2") => `(tactic| first
  | (refine' ex_unpack2 ?a0 ?a1 ?a2 ?a3 ?a4 ?a5 ?a6 ?a7 ?a8 ?a9 ?a10 ?a11; (case a0 => fail "asm"); (case a1 => fail "asm"); (case a2 => fail "asm"); (case a3 => fail "loc"); (case a4 => fail "loc"); (case a5 => fail "locB2"); (case a6 => fail "locB2"); (case a7 => fail "ev"); (case a9 => fail "irfl"); (case a10 => fail "irfl"); (case a11 => fail "irfl")))
local macro_rules | `(tactic| fail "unp3") => `(tactic| first
  | (refine' ex_unpack3 ?a0 ?a1 ?a2 ?a3 ?a4 ?a5 ?a6 ?a7 ?a8 ?a9 ?a10 ?a11 ?a12 ?a13 ?a14; (case a0 => fail "asm"); (case a1 => fail "asm"); (case a2 => fail "asm"); (case a3 => fail "asm"); (case a4 => fail "loc"); (case a5 => fail "loc"); (case a6 => fail "loc"); (case a7 => fail "locB2"); (case a8 => fail "locB2"); (case a9 => fail "locB2"); (case a10 => fail "ev"); (case a12 => fail "irfl"); (case a13 => fail "irfl"); (case a14 => fail "irfl")))
local macro_rules | `(tactic| fail "app") => `(tactic| first
  | (refine' ex_append ?a0 ?a1 ?a2 ?a3 ?a4 ?a5 ?a6 ?a7 ?a8 ?a9; (case a0 => fail "asm"); (case a1 => fail "evv"); (case a5 => fail "irfl"); (case a6 => fail "irfl"); (case a7 => rfl); (case a8 => fail "irfl"); (case a9 => fail "irfl")))
local macro_rules | `(tactic| fail "if") => `(tactic| first
  | (refine' ex_if ?a0 ?a1 ?a2; (case a0 => fail "et")))
local macro_rules | `(tactic| fail "hsd") => `(tactic| first
  | with_reducible assumption
  | omega
  | fail "hmine"
  | (simp only [List.length_map, List.length_append, List.length_cons, List.length_nil, List.length_range, List.length_zip, List.length_zipIdx, sizeLine_eq]; omega)
  | decide
  | (refine Nat.lt_of_le_of_lt (List.length_filter_le _ _) ?_; simp only [List.length_map, List.length_range, List.length_zipIdx, List.length_zip, sizeLine_eq]; omega))
local macro_rules | `(tactic| fail "hop") => `(tactic| first
  | exact of_add
  | exact of_sub
  | (refine' of_mod ?a0; (case a0 => fail "hsd"))
  | (refine' of_mul ?a0; (case a0 => fail "hsd"))
  | (refine' of_pow ?a0; (case a0 => fail "hsd"))
  | (refine' of_fdiv ?a0; (case a0 => fail "hsd"))
  | (refine' of_adds ?a0; (case a0 => fail "hsd"))
  | (refine' of_catMF ?a0 ?a1; (case a0 => fail "hsd"); (case a1 => fail "flat"))
  | exact of_lt
  | exact of_le
  | exact of_gt
  | exact of_ge
  | (refine' of_eqI ?a0; (case a0 => fail "asm"))
  | (refine' of_neI ?a0; (case a0 => fail "asm"))
  | (refine' of_eqS ?a0; (case a0 => fail "asm"))
  | (refine' of_neS ?a0; (case a0 => fail "asm"))
  | (refine' of_eqB ?a0; (case a0 => fail "asm"))
  | (refine' of_neB ?a0; (case a0 => fail "asm"))
  | (refine' of_eqNM ?a0 ?a1; (case a0 => fail "asm"); (case a1 => fail "flat"))
  | (refine' of_neNM ?a0 ?a1; (case a0 => fail "asm"); (case a1 => fail "flat"))
  | (refine' of_eqLI ?a0; (case a0 => fail "asm"))
  | (refine' of_neLI ?a0; (case a0 => fail "asm"))
  | (refine' of_eqLS ?a0; (case a0 => fail "asm"))
  | (refine' of_neLS ?a0; (case a0 => fail "asm"))
  | exact of_is rfl
  | exact of_isnot rfl
  | exact of_isB
  | exact of_isnotB
  | exact of_notin1
  | exact of_in1
  | exact of_inS
  | exact of_notinS
  | (refine' of_inLS ?a0; (case a0 => fail "asm"))
  | (refine' of_notinLS ?a0; (case a0 => fail "asm"))
  | (refine' of_inLI ?a0; (case a0 => fail "asm"))
  | (refine' of_notinLI ?a0; (case a0 => fail "asm"))
  | (refine' of_inTI ?a0; (case a0 => fail "asm"))
  | (refine' of_notinTI ?a0; (case a0 => fail "asm"))
  | exact of_ltS
  | exact of_gtS
  | fail "hownop"
  | (refine' of_eqN ?a0 ?a1; (case a0 => fail "asm"); (case a1 => fail "hdep"))
  | (refine' of_neN ?a0 ?a1; (case a0 => fail "asm"); (case a1 => fail "hdep"))
  | (refine' of_eq ?a0 ?a1 ?a2; (case a0 => fail "asm"); (case a1 => fail "hdep"); (case a2 => fail "hdep"))
  | (refine' of_ne ?a0 ?a1 ?a2; (case a0 => fail "asm"); (case a1 => fail "hdep"); (case a2 => fail "hdep")))
local macro_rules | `(tactic| fail "hdep") => `(tactic| first
  | exact Nat.zero_le _
  | decide
  | (refine Nat.le_trans (depLM fun a => depF rfl) ?_; decide)
  | fail "howndep")
local macro_rules | `(tactic| fail "hcb") => `(tactic| first
  | exact cf_lenS
  | (refine' cf_lenM ?a0; (case a0 => fail "asm"))
  | (refine' cf_lenMT ?a0; (case a0 => fail "asm"))
  | (refine' cf_lenL ?a0; (case a0 => fail "asm"))
  | (refine' cf_lenT ?a0; (case a0 => fail "asm"))
  | (refine' cf_min2 ?a0; (case a0 => fail "asm"))
  | (refine' cf_max2 ?a0; (case a0 => fail "asm"))
  | exact cf_int
  | exact cf_intB
  | (refine' cf_sum ?a0; (case a0 => fail "asm"))
  | (refine' cf_all ?a0; (case a0 => fail "asm"))
  | (refine' cf_listMF ?a0 ?a1; (case a0 => fail "asm"); (case a1 => fail "flat"))
  | (refine' cf_tupleMF ?a0 ?a1; (case a0 => fail "asm"); (case a1 => fail "flat"))
  | fail "howncb")
local macro_rules | `(tactic| fail "rof") => `(tactic| first
  | exact rOf_flat rfl
  | exact rOf_non rfl
  | exact rfl)
local macro_rules | `(tactic| fail "hA") => `(tactic| first
  | exact ea_nil'
  | (refine' ea_consR ?a0 ?a1 ?a2 ?a3; (case a0 => fail "hE"); (case a1 => fail "rof"); (case a2 => fail "hA"); (case a3 => fail "irfl")))
local macro_rules | `(tactic| fail "hO") => `(tactic| first
  | exact eo_none'
  | (refine' eo_some' ?a0; (case a0 => fail "hE")))
local macro_rules | `(tactic| fail "hI") => `(tactic| first
  | (refine' ei_range1 ?a0 ?a1 ?a2 ?a3 ?a4 ?a5 ?a6; (case a0 => fail "asm"); (case a1 => fail "asm"); (case a2 => fail "gb"); (case a3 => fail "hE"); (case a4 => fail "hsd"); (case a5 => fail "hsd"); (case a6 => fail "irfl"))
  | (refine' ei_range2 ?a0 ?a1 ?a2 ?a3 ?a4 ?a5 ?a6 ?a7; (case a0 => fail "asm"); (case a1 => fail "asm"); (case a2 => fail "gb"); (case a3 => fail "hE"); (case a4 => fail "hE"); (case a5 => fail "hsd"); (case a6 => fail "irfl"); (case a7 => fail "irfl"))
  | (refine' ei_enumM ?a0 ?a1 ?a2 ?a3 ?a4; (case a0 => fail "asm"); (case a1 => fail "asm"); (case a2 => fail "gb"); (case a3 => fail "hE"); (case a4 => fail "irfl"))
  | (refine' ei_zipM ?a0 ?a1 ?a2 ?a3 ?a4 ?a5 ?a6 ?a7 ?a8; (case a0 => fail "asm"); (case a1 => fail "asm"); (case a2 => fail "gb"); (case a3 => fail "hE"); (case a4 => fail "hE"); (case a5 => fail "hsd"); (case a6 => fail "irfl"); (case a7 => fail "irfl"); (case a8 => fail "irfl"))
  | (refine' ei_list ?a0 ?a1; (case a0 => fail "asm"); (case a1 => fail "hE"))
  | (refine' ei_tup ?a0 ?a1; (case a0 => fail "asm"); (case a1 => fail "hE"))
  | (refine' ei_str ?a0; (case a0 => fail "hE"))
  | fail "howni")
local macro_rules | `(tactic| fail "hTs") => `(tactic| first
  | exact ets_nil'
  | (refine' ets_one' ?a0; (case a0 => fail "hT2")))
local macro_rules | `(tactic| fail "hcon") => `(tactic| first
  | (intro hwf; constructor <;> fail "hsd"))
local macro_rules | `(tactic| fail "mem1") => `(tactic| first
  | exact List.mem_cons_self
  | exact List.mem_cons_of_mem _ List.mem_cons_self
  | exact List.mem_cons_of_mem _ (List.mem_cons_of_mem _ List.mem_cons_self))
local macro_rules | `(tactic| fail "hwf") => `(tactic| first
  | exact fun _ => trivial
  | fail "hownwf")
local macro_rules | `(tactic| fail "hE") => `(tactic| first
  | exact ee_int
  | (refine' ee_str ?a0; (case a0 => fail "dec"))
  | exact ee_bl
  | exact ee_non
  | (refine' ee_nameR ?a0 ?a1 ?a2 ?a3 ?a4; (case a0 => fail "asm"); (case a1 => fail "asm"); (case a2 => fail "vis"); (case a3 => rfl); (case a4 => fail "rof"))
  | (refine' ee_bin ?a0 ?a1 ?a2; (case a0 => fail "hE"); (case a1 => fail "hE"); (case a2 => fail "hop"))
  | (refine' ee_cat ?a0 ?a1 ?a2; (case a0 => fail "hE"); (case a1 => fail "hE"); (case a2 => fail "hsd"))
  | (refine' ee_catT ?a0 ?a1 ?a2 ?a3; (case a0 => fail "asm"); (case a1 => fail "hE"); (case a2 => fail "hE"); (case a3 => fail "hsd"))
  | (refine' ee_cmp ?a0 ?a1 ?a2 ?a3; (case a0 => fail "hE"); (case a1 => fail "hE"); (case a2 => fail "hop"); (case a3 => fail "mark"))
  | (refine' ee_chain ?a0 ?a1 ?a2 ?a3 ?a4 ?a5; (case a0 => fail "hE"); (case a1 => fail "hE"); (case a2 => fail "hE"); (case a3 => fail "hop"); (case a4 => fail "hop"); (case a5 => fail "wrfl"))
  | (refine' ee_one ?a0; (case a0 => fail "hE"))
  | (refine' ee_and ?a0 ?a1; (case a0 => fail "hE"); (case a1 => (intro _; fail "hE")))
  | (refine' ee_or ?a0 ?a1; (case a0 => fail "hE"); (case a1 => (intro _; fail "hE")))
  | (refine' ee_not ?a0; (case a0 => fail "hE"))
  | (refine' ee_neg ?a0; (case a0 => fail "hE"))
  | (refine' ee_list1I ?a0 ?a1; (case a0 => fail "hE"); (case a1 => fail "irfl"))
  | (refine' ee_list1S ?a0 ?a1; (case a0 => fail "hE"); (case a1 => fail "irfl"))
  | (refine' ee_list ?a0 ?a1; (case a0 => fail "hA"); (case a1 => fail "hsd"))
  | (refine' ee_tup ?a0 ?a1; (case a0 => fail "hA"); (case a1 => fail "hsd"))
  | (refine' ee_ixT0 ?a0 ?a1; (case a0 => fail "asm"); (case a1 => fail "hE"))
  | (refine' ee_ixT1 ?a0 ?a1; (case a0 => fail "asm"); (case a1 => fail "hE"))
  | (refine' ee_ixT2 ?a0 ?a1; (case a0 => fail "asm"); (case a1 => fail "hE"))
  | (refine' ee_slS ?a0 ?a1 ?a2; (case a0 => fail "hE"); (case a1 => fail "hO"); (case a2 => fail "hO"))
  | (refine' EE.to (ee_slMF ?a0 ?a1 ?a2 ?a3 ?a4) ?ae; (case a0 => fail "asm"); (case a1 => fail "hE"); (case a2 => fail "hO"); (case a3 => fail "hO"); (case a4 => fail "flat"); (case ae => exact rfl))
  | (refine' EE.to (ee_slM ?a0 ?a1 ?a2 ?a3) ?ae; (case a0 => fail "asm"); (case a1 => fail "hE"); (case a2 => fail "hO"); (case a3 => fail "hO"); (case ae => exact rfl))
  | (refine' ee_slL ?a0 ?a1 ?a2 ?a3; (case a0 => fail "asm"); (case a1 => fail "hE"); (case a2 => fail "hO"); (case a3 => fail "hO"))
  | (refine' ee_slT ?a0 ?a1 ?a2 ?a3; (case a0 => fail "asm"); (case a1 => fail "hE"); (case a2 => fail "hO"); (case a3 => fail "hO"))
  | (refine' EE.to (ee_ixMlast ?a0 ?a1 ?a2 ?a3 ?a4 ?a5) ?ae; (case a0 => fail "asm"); (case a1 => fail "hE"); (case a2 => fail "di"); (case a3 => fail "flat"); (case a4 => fail "hsd"); (case a5 => fail "ix"); (case ae => exact rfl))
  | (refine' ee_ixSn ?a0 ?a1 ?a2 ?a3 ?a4; (case a0 => fail "hE"); (case a1 => fail "hE"); (case a2 => fail "hsd"); (case a3 => fail "hsd"); (case a4 => fail "ix"))
  | (refine' EE.to (ee_ixI2 ?a0 ?a1 ?a2 ?a3 ?a4 ?a5) ?ae; (case a0 => fail "asm"); (case a1 => fail "hE"); (case a2 => fail "hE"); (case a3 => fail "hsd"); (case a4 => fail "hsd"); (case a5 => fail "ix"); (case ae => exact rfl))
  | (refine' EE.to (ee_ixMn ?a0 ?a1 ?a2 ?a3 ?a4 ?a5 ?a6 ?a7) ?ae; (case a0 => fail "asm"); (case a1 => fail "hE"); (case a2 => fail "di"); (case a3 => fail "hE"); (case a4 => fail "flat"); (case a5 => fail "hsd"); (case a6 => fail "hsd"); (case a7 => fail "ix"); (case ae => exact rfl))
  | (refine' EE.to (ee_ixLn ?a0 ?a1 ?a2 ?a3 ?a4 ?a5 ?a6) ?ae; (case a0 => fail "asm"); (case a1 => fail "hE"); (case a2 => fail "di"); (case a3 => fail "hE"); (case a4 => fail "hsd"); (case a5 => fail "hsd"); (case a6 => fail "ix"); (case ae => exact rfl))
  | (refine' EE.to (ee_ixTn ?a0 ?a1 ?a2 ?a3 ?a4 ?a5 ?a6) ?ae; (case a0 => fail "asm"); (case a1 => fail "hE"); (case a2 => fail "di"); (case a3 => fail "hE"); (case a4 => fail "hsd"); (case a5 => fail "hsd"); (case a6 => fail "ix"); (case ae => exact rfl))
  | (refine' ee_isi ?a0 ?a1 ?a2 ?a3 ?a4 ?a5 ?a6 ?a7 ?a8 ?a9 ?a10 ?a11 ?a12 ?a13 ?a14 ?a15; (case a0 => fail "asm"); (case a1 => fail "asm"); (case a2 => fail "gb"); (case a3 => fail "asm"); (case a4 => fail "gb"); (case a5 => fail "hE"); (case a6 => fail "tn"); (case a7 => fail "dec"); (case a8 => fail "dec"); (case a9 => fail "kit"); (case a10 => fail "d"); (case a11 => fail "d"); (case a12 => fail "d"); (case a13 => fail "d"); (case a14 => fail "irfl"); (case a15 => fail "irfl"))
  | (refine' ee_cb ?a0 ?a1 ?a2 ?a3 ?a4 ?a5 ?a6 ?a7 ?a8 ?a9; (case a0 => fail "asm"); (case a1 => fail "asm"); (case a2 => fail "gb"); (case a3 => fail "dec"); (case a4 => fail "hA"); (case a5 => fail "hcb"); (case a6 => fail "d"); (case a7 => fail "d"); (case a8 => fail "irfl"); (case a9 => fail "irfl"))
  | (refine' ee_ct ?a0 ?a1 ?a2 ?a3 ?a4 ?a5 ?a6 ?a7 ?a8 ?a9; (case a0 => fail "asm"); (case a1 => fail "asm"); (case a2 => fail "gb"); (case a3 => fail "dec"); (case a4 => fail "hA"); (case a5 => fail "hcb"); (case a6 => fail "d"); (case a7 => fail "d"); (case a8 => fail "irfl"); (case a9 => fail "irfl"))
  | (refine' ee_call ?a0 ?a1 ?a2 ?a3 ?a4 ?a5 ?a6 ?a7 ?a8; (case a0 => fail "asm"); (case a1 => fail "asm"); (case a2 => fail "lvl"); (case a3 => fail "gb"); (case a4 => fail "hA"); (case a5 => fail "hcon"); (case a6 => fail "d"); (case a7 => fail "irfl"); (case a8 => fail "irfl"))
  | (refine' ee_callB ?a0 ?a1 ?a2 ?a3 ?a4 ?a5 ?a6 ?a7 ?a8 ?a9 ?a10 ?a11 ?a12; (case a0 => fail "asm"); (case a1 => fail "asm"); (case a2 => fail "lvl"); (case a3 => fail "gb"); (case a4 => fail "asm"); (case a5 => fail "vis"); (case a6 => fail "hA"); (case a7 => rfl); (case a8 => fail "hcon"); (case a9 => fail "hwf"); (case a10 => fail "d"); (case a11 => fail "irfl"); (case a12 => fail "irfl"))
  | (refine' ee_lc0 ?a0 ?a1 ?a2 ?a3 ?a4 ?a5 ?a6 ?a7 ?a8 ?a9; (case a0 => fail "asm"); (case a1 => fail "asm"); (case a2 => fail "loc"); (case a3 => fail "locB"); (case a4 => fail "dec"); (case a5 => fail "hI"); (case a6 => rfl); (case a7 => fail "hsd"); (case a8 => (intro a ha hw hxb; (try have hlt := List.mem_range.mp ha); (try have hlt := List.mem_range.mp (List.mem_filter.mp ha).1); (try have hpr := of_decide_eq_true (List.mem_filter.mp ha).2); fail "hE")); (case a9 => fail "irfl2"))
  | (refine' ee_lc20 ?a0 ?a1 ?a2 ?a3 ?a4 ?a5 ?a6 ?a7 ?a8 ?a9 ?a10 ?a11 ?a12; (case a0 => fail "asm"); (case a1 => fail "asm"); (case a2 => fail "asm"); (case a3 => fail "loc"); (case a4 => fail "loc"); (case a5 => fail "locB"); (case a6 => fail "locB"); (case a7 => fail "dec"); (case a8 => fail "hI"); (case a9 => rfl); (case a10 => fail "hsd"); (case a11 => (intro a ha hw hw2 hxb; fail "hE")); (case a12 => fail "irfl2"))
  | (refine' ee_lc ?a0 ?a1 ?a2 ?a3 ?a4 ?a5 ?a6 ?a7 ?a8 ?a9 ?a10; (case a0 => fail "asm"); (case a1 => fail "asm"); (case a2 => fail "loc"); (case a3 => fail "locB"); (case a4 => fail "dec"); (case a5 => fail "hI"); (case a6 => rfl); (case a7 => fail "hsd"); (case a8 => (intro a ha hw hxb; (try have hlt := List.mem_range.mp ha); (try have hlt := List.mem_range.mp (List.mem_filter.mp ha).1); (try have hpr := of_decide_eq_true (List.mem_filter.mp ha).2); fail "hTs")); (case a9 => (intro a ha hp hw hxb; (try have hlt := List.mem_range.mp ha); (try have hlt := List.mem_range.mp (List.mem_filter.mp ha).1); (try have hpr := of_decide_eq_true (List.mem_filter.mp ha).2); fail "hE")); (case a10 => fail "irfl2"))
  | (refine' ee_lc2 ?a0 ?a1 ?a2 ?a3 ?a4 ?a5 ?a6 ?a7 ?a8 ?a9 ?a10 ?a11 ?a12 ?a13; (case a0 => fail "asm"); (case a1 => fail "asm"); (case a2 => fail "asm"); (case a3 => fail "loc"); (case a4 => fail "loc"); (case a5 => fail "locB"); (case a6 => fail "locB"); (case a7 => fail "dec"); (case a8 => fail "hI"); (case a9 => rfl); (case a10 => fail "hsd"); (case a11 => (intro a ha hw hw2 hxb; fail "hTs")); (case a12 => (intro a ha hp hw hw2 hxb; fail "hE")); (case a13 => fail "irfl2"))
  | (refine' ee_endswith ?a0 ?a1 ?a2 ?a3 ?a4; (case a0 => fail "hE"); (case a1 => fail "hE"); (case a2 => fail "irfl"); (case a3 => fail "irfl"); (case a4 => rfl))
  | (refine' ee_find ?a0 ?a1 ?a2 ?a3 ?a4; (case a0 => fail "hE"); (case a1 => fail "hE"); (case a2 => fail "irfl"); (case a3 => fail "irfl"); (case a4 => rfl))
  | (refine' ee_globS ?a0 ?a1 ?a2 ?a3 ?a4; (case a0 => fail "asm"); (case a1 => fail "gb"); (case a2 => fail "asm"); (case a3 => fail "d"); (case a4 => fail "dec"))
  | (refine' ee_globI ?a0 ?a1 ?a2 ?a3; (case a0 => fail "asm"); (case a1 => fail "gb"); (case a2 => fail "asm"); (case a3 => fail "d"))
  | (refine' ee_kept ?a0 ?a1 ?a2 ?a3 ?a4 ?a5 ?a6 ?a7; (case a0 => fail "asm"); (case a1 => fail "asm"); (case a2 => fail "vis"); (case a3 => fail "asm"); (case a4 => fail "asm"); (case a5 => fail "mem1"); (case a6 => fail "asm"); (case a7 => fail "irfl"))
  | fail "hown")
local macro_rules | `(tactic| fail "hT2") => `(tactic| first
  | (refine' et_cmp' ?a0 ?a1 ?a2 ?a3; (case a0 => fail "hE"); (case a1 => fail "hE"); (case a2 => fail "hop"); (case a3 => fail "mark"))
  | (refine' et_chain' ?a0 ?a1 ?a2 ?a3 ?a4 ?a5; (case a0 => fail "hE"); (case a1 => fail "hE"); (case a2 => fail "hE"); (case a3 => fail "hop"); (case a4 => fail "hop"); (case a5 => fail "wrfl"))
  | (refine' et_not' ?a0; (case a0 => fail "hT2"))
  | (refine' et_w' ?a0; (case a0 => fail "hW"))
  | (refine' et_val' ?a0 ?a1; (case a0 => fail "hE"); (case a1 => (intro _ _; rfl))))
local macro_rules | `(tactic| fail "hW") => `(tactic| first
  | (refine' ew_and1' ?a0; (case a0 => fail "hT2"))
  | (refine' ew_or1' ?a0; (case a0 => fail "hT2"))
  | (refine' ew_and' ?a0 ?a1; (case a0 => fail "hT2"); (case a1 => (intro _; fail "hW")))
  | (refine' ew_or' ?a0 ?a1; (case a0 => fail "hT2"); (case a1 => (intro _; fail "hW"))))
local macro_rules | `(tactic| fail "her") => `(tactic| first
  | (refine' er_of ?a0; (case a0 => fail "hE"))
  | (refine' lcR0' ?a0 ?a1 ?a2 ?a3 ?a4 ?a5 ?a6 ?a7 ?a8; (case a0 => fail "asm"); (case a1 => fail "asm"); (case a2 => fail "loc"); (case a3 => fail "locB"); (case a4 => fail "dec"); (case a5 => fail "hI"); (case a6 => rfl); (case a7 => fail "hsd"); (case a8 => (intro a ha hw hxb; (try have hlt := List.mem_range.mp ha); (try have hlt := List.mem_range.mp (List.mem_filter.mp ha).1); (try have hpr := of_decide_eq_true (List.mem_filter.mp ha).2); fail "hE")))
  | (refine' lcR20' ?a0 ?a1 ?a2 ?a3 ?a4 ?a5 ?a6 ?a7 ?a8 ?a9 ?a10 ?a11; (case a0 => fail "asm"); (case a1 => fail "asm"); (case a2 => fail "asm"); (case a3 => fail "loc"); (case a4 => fail "loc"); (case a5 => fail "locB"); (case a6 => fail "locB"); (case a7 => fail "dec"); (case a8 => fail "hI"); (case a9 => rfl); (case a10 => fail "hsd"); (case a11 => (intro a ha hw hw2 hxb; fail "hE")))
  | (refine' lcR' ?a0 ?a1 ?a2 ?a3 ?a4 ?a5 ?a6 ?a7 ?a8 ?a9; (case a0 => fail "asm"); (case a1 => fail "asm"); (case a2 => fail "loc"); (case a3 => fail "locB"); (case a4 => fail "dec"); (case a5 => fail "hI"); (case a6 => rfl); (case a7 => fail "hsd"); (case a8 => (intro a ha hw hxb; (try have hlt := List.mem_range.mp ha); (try have hlt := List.mem_range.mp (List.mem_filter.mp ha).1); (try have hpr := of_decide_eq_true (List.mem_filter.mp ha).2); fail "hTs")); (case a9 => (intro a ha hp hw hxb; (try have hlt := List.mem_range.mp ha); (try have hlt := List.mem_range.mp (List.mem_filter.mp ha).1); (try have hpr := of_decide_eq_true (List.mem_filter.mp ha).2); fail "hE")))
  | (refine' lcR2' ?a0 ?a1 ?a2 ?a3 ?a4 ?a5 ?a6 ?a7 ?a8 ?a9 ?a10 ?a11 ?a12; (case a0 => fail "asm"); (case a1 => fail "asm"); (case a2 => fail "asm"); (case a3 => fail "loc"); (case a4 => fail "loc"); (case a5 => fail "locB"); (case a6 => fail "locB"); (case a7 => fail "dec"); (case a8 => fail "hI"); (case a9 => rfl); (case a10 => fail "hsd"); (case a11 => (intro a ha hw hw2 hxb; fail "hTs")); (case a12 => (intro a ha hp hw hw2 hxb; fail "hE"))))
local macro_rules | `(tactic| fail "set") => `(tactic| first
  | (refine' sb_set ?a0 ?a1 ?a2 ?a3; (case a0 => fail "asg"); (case a1 => fail "her"); (case a2 => rfl)))
local macro_rules | `(tactic| fail "setBE") => `(tactic| first
  | (refine' sb_setB ?a0 ?a1 ?a2 ?a3 ?a4 ?a5 ?a6 ?a7 ?a8 ?a9 ?a10 ?a11 ?a12 ?a13 ?a14 ?a15 ?a16 ?a17 ?a18 ?a19; (case a0 => fail "asm"); (case a1 => fail "asm"); (case a2 => fail "lvl"); (case a3 => fail "gb"); (case a4 => fail "asm"); (case a5 => fail "loc"); (case a6 => fail "locB2"); (case a7 => fail "irfl"); (case a8 => fail "asm"); (case a9 => fail "vis"); (case a10 => fail "hA"); (case a11 => rfl); (case a12 => rfl); (case a13 => fail "d"); (case a14 => fail "hcon"); (case a16 => fail "d"); (case a17 => fail "irfl"); (case a18 => fail "irfl")))
local macro_rules | `(tactic| fail "un2BN") => `(tactic| first
  | (refine' sb_unpackBN ?a0 ?a1 ?a2 ?a3 ?a4 ?a5 ?a6 ?a7 ?a8 ?a9 ?a10 ?a11 ?a12 ?a13 ?a14 ?a15 ?a16 ?a17 ?a18 ?a19 ?a20 ?a21 ?a22 ?a23 ?a24; (case a0 => fail "asm"); (case a1 => fail "asm"); (case a2 => fail "lvl"); (case a3 => fail "gb"); (case a4 => fail "asm"); (case a5 => fail "asm"); (case a6 => fail "loc"); (case a7 => fail "loc"); (case a8 => fail "locB2"); (case a9 => fail "locB2"); (case a10 => fail "asm"); (case a11 => fail "vis"); (case a12 => fail "hA"); (case a13 => rfl); (case a14 => rfl); (case a15 => fail "hcon"); (case a18 => fail "d"); (case a19 => fail "irfl"); (case a20 => fail "irfl"); (case a22 => fail "irfl"); (case a23 => fail "irfl"); (case a24 => fail "irfl")))
local macro_rules | `(tactic| fail "hret") => `(tactic| first
  | (refine' sb_ret ?a0 ?a1; (case a0 => fail "hE")))
local macro_rules | `(tactic| fail "hskip") => `(tactic| first
  | (refine' sb_skip ?a0 ?a1 ?a2; (case a0 => fail "hT2"); (case a1 => rfl)))
local macro_rules | `(tactic| fail "hifT") => `(tactic| first
  | (refine' sb_ifT ?a0 ?a1 ?a2; (case a0 => fail "hT2"); (case a1 => rfl)))
local macro_rules | `(tactic| fail "hif") => `(tactic| first
  | (refine' sb_if ?a0 ?a1 ?a2; (case a0 => fail "hT2")))
local macro_rules | `(tactic| fail "hexp") => `(tactic| first
  | (refine' sb_drop ?a0 ?a1 ?a2; (case a0 => fail "hE"); (case a1 => fail "irfl")))
local macro_rules | `(tactic| fail "un2") => `(tactic| first
  | (refine' sb_unpack2 ?a0 ?a1 ?a2 ?a3 ?a4 ?a5 ?a6 ?a7 ?a8 ?a9 ?a10 ?a11 ?a12; (case a0 => fail "asm"); (case a1 => fail "asm"); (case a2 => fail "asm"); (case a3 => fail "loc"); (case a4 => fail "loc"); (case a5 => fail "locB2"); (case a6 => fail "locB2"); (case a7 => fail "hE"); (case a8 => rfl); (case a10 => fail "irfl"); (case a11 => fail "irfl"); (case a12 => fail "irfl")))
local macro_rules | `(tactic| fail "un3") => `(tactic| first
  | (refine' sb_unpack3 ?a0 ?a1 ?a2 ?a3 ?a4 ?a5 ?a6 ?a7 ?a8 ?a9 ?a10 ?a11 ?a12 ?a13 ?a14 ?a15; (case a0 => fail "asm"); (case a1 => fail "asm"); (case a2 => fail "asm"); (case a3 => fail "asm"); (case a4 => fail "loc"); (case a5 => fail "loc"); (case a6 => fail "loc"); (case a7 => fail "locB2"); (case a8 => fail "locB2"); (case a9 => fail "locB2"); (case a10 => fail "hE"); (case a11 => rfl); (case a13 => fail "irfl"); (case a14 => fail "irfl"); (case a15 => fail "irfl")))
local macro_rules | `(tactic| fail "par") => `(tactic| first
  | (refine' sb_par' ?a0 ?a1 ?a2 ?a3 ?a4 ?a5 ?a6 ?a7 ?a8 ?a9 ?a10 ?a11 ?a12 ?a13 ?a14 ?a15; (case a0 => fail "asm"); (case a1 => fail "asm"); (case a2 => fail "asm"); (case a3 => fail "d"); (case a4 => rfl); (case a5 => rfl); (case a6 => fail "hA"); (case a7 => rfl); (case a9 => rfl); (case a10 => rfl); (case a11 => fail "d"); (case a12 => rfl); (case a13 => rfl); (case a14 => rfl); (case a15 => fail "irfl")))
local macro_rules | `(tactic| fail "happ") => `(tactic| first
  | (refine' sb_append ?a0 ?a1 ?a2 ?a3 ?a4 ?a5 ?a6 ?a7 ?a8 ?a9 ?a10 ?a11 ?a12 ?a13 ?a14 ?a15 ?a16; (case a0 => fail "asm"); (case a1 => fail "asm"); (case a2 => fail "vis"); (case a3 => rfl); (case a4 => fail "hE"); (case a5 => rfl); (case a6 => rfl); (case a7 => rfl); (case a8 => fail "orrfl"); (case a9 => rfl); (case a10 => fail "hsd"); (case a12 => fail "irfl"); (case a13 => fail "irfl"); (case a14 => rfl); (case a15 => fail "irfl"); (case a16 => fail "irfl")))
local macro_rules | `(tactic| fail "hext") => `(tactic| first
  | (refine' sb_extend ?a0 ?a1 ?a2 ?a3 ?a4 ?a5 ?a6 ?a7 ?a8 ?a9 ?a10 ?a11 ?a12 ?a13 ?a14 ?a15 ?a16; (case a0 => fail "asm"); (case a1 => fail "asm"); (case a2 => fail "vis"); (case a3 => rfl); (case a4 => fail "hE"); (case a5 => rfl); (case a6 => rfl); (case a7 => rfl); (case a8 => fail "orrfl"); (case a9 => rfl); (case a10 => fail "hsd"); (case a12 => fail "irfl"); (case a13 => fail "irfl"); (case a14 => rfl); (case a15 => fail "irfl"); (case a16 => fail "irfl")))
local macro_rules | `(tactic| fail "spoil") => `(tactic| first
  | (refine' sb_spoil ?a0 ?a1 ?a2 ?a3 ?a4 ?a5 ?a6 ?a7 ?a8 ?a9 ?a10 ?a11; (case a0 => fail "asm"); (case a1 => fail "hE"); (case a2 => fail "hE"); (case a3 => rfl); (case a4 => rfl); (case a5 => fail "hsd"); (case a7 => fail "irfl"); (case a8 => fail "irfl"); (case a9 => rfl); (case a10 => fail "irfl"); (case a11 => fail "irfl")))
local macro_rules | `(tactic| fail "orrfl") => `(tactic| first
  | exact Or.inr rfl
  | exact Or.inl rfl)


def topS (i : Nat) : Stmt := PySem.Challenge.pw_tailshare_k14_whole_turned_about.main.body.getD i (.Pass ⟨0, 0, 0, 0⟩)
abbrev s_is_word : Stmt := topS 10
abbrev N_is_word : List Str := ["word", "sign"]
abbrev P_is_word : List Str := ["word"]
theorem sc_is_word : FnScope N_is_word P_is_word (defScope s_is_word) := ⟨rfl, rfl, rfl, by decide +kernel, rfl, by decide +kernel, by decide +kernel⟩
abbrev s_need_word : Stmt := topS 11
abbrev N_need_word : List Str := ["word"]
abbrev P_need_word : List Str := ["word"]
theorem sc_need_word : FnScope N_need_word P_need_word (defScope s_need_word) := ⟨rfl, rfl, rfl, by decide +kernel, rfl, by decide +kernel, by decide +kernel⟩
abbrev s_fits : Stmt := topS 14
abbrev N_fits : List Str := ["one", "other", "many"]
abbrev P_fits : List Str := ["one", "other", "many"]
theorem sc_fits : FnScope N_fits P_fits (defScope s_fits) := ⟨rfl, rfl, rfl, by decide +kernel, rfl, by decide +kernel, by decide +kernel⟩
abbrev s_far : Stmt := topS 15
abbrev N_far : List Str := ["one", "other", "many"]
abbrev P_far : List Str := ["one", "other"]
theorem sc_far : FnScope N_far P_far (defScope s_far) := ⟨rfl, rfl, rfl, by decide +kernel, rfl, by decide +kernel, by decide +kernel⟩
abbrev s_overlap : Stmt := topS 17
abbrev N_overlap : List Str := ["one", "other"]
abbrev P_overlap : List Str := ["one", "other"]
theorem sc_overlap : FnScope N_overlap P_overlap (defScope s_overlap) := ⟨rfl, rfl, rfl, by decide +kernel, rfl, by decide +kernel, by decide +kernel⟩
abbrev s_need_words : Stmt := topS 12
abbrev N_need_words : List Str := ["words", "number", "word"]
abbrev P_need_words : List Str := ["words"]
theorem sc_need_words : FnScope N_need_words P_need_words (defScope s_need_words) := ⟨rfl, rfl, rfl, by decide +kernel, rfl, by decide +kernel, by decide +kernel⟩
abbrev s_free_of : Stmt := topS 37
abbrev N_free_of : List Str := ["words", "found", "number", "word", "other"]
abbrev P_free_of : List Str := ["words"]
theorem sc_free_of : FnScope N_free_of P_free_of (defScope s_free_of) := ⟨rfl, rfl, rfl, by decide +kernel, rfl, by decide +kernel, by decide +kernel⟩
abbrev s_free : Stmt := topS 38
abbrev N_free : List Str := ["words"]
abbrev P_free : List Str := ["words"]
theorem sc_free : FnScope N_free P_free (defScope s_free) := ⟨rfl, rfl, rfl, by decide +kernel, rfl, by decide +kernel, by decide +kernel⟩
abbrev s_unlike_at : Stmt := topS 30
abbrev N_unlike_at : List Str := ["text", "word", "place", "at"]
abbrev P_unlike_at : List Str := ["text", "word", "place"]
theorem sc_unlike_at : FnScope N_unlike_at P_unlike_at (defScope s_unlike_at) := ⟨rfl, rfl, rfl, by decide +kernel, rfl, by decide +kernel, by decide +kernel⟩
abbrev s_goes_behind : Stmt := topS 31
abbrev N_goes_behind : List Str := ["text", "word", "place", "passed", "at"]
abbrev P_goes_behind : List Str := ["text", "word", "place"]
theorem sc_goes_behind : FnScope N_goes_behind P_goes_behind (defScope s_goes_behind) := ⟨rfl, rfl, rfl, by decide +kernel, rfl, by decide +kernel, by decide +kernel⟩
abbrev s_gone : Stmt := topS 32
abbrev N_gone : List Str := ["words", "text", "begins", "reason", "number", "word", "place", "passed", "one", "at"]
abbrev P_gone : List Str := ["words"]
theorem sc_gone : FnScope N_gone P_gone (defScope s_gone) := ⟨rfl, rfl, rfl, by decide +kernel, rfl, by decide +kernel, by decide +kernel⟩
abbrev s_need_few : Stmt := topS 39
abbrev N_need_few : List Str := ["words", "numbers"]
abbrev P_need_few : List Str := ["words"]
theorem sc_need_few : FnScope N_need_few P_need_few (defScope s_need_few) := ⟨rfl, rfl, rfl, by decide +kernel, rfl, by decide +kernel, by decide +kernel⟩
abbrev s_Plan___init__ : Stmt := inClass (topS 40) 0
abbrev N_Plan___init__ : List Str := ["self", "words", "numbers"]
abbrev P_Plan___init__ : List Str := ["self", "words", "numbers"]
theorem sc_Plan___init__ : FnScope N_Plan___init__ P_Plan___init__ (defScope s_Plan___init__) := ⟨rfl, rfl, rfl, by decide +kernel, rfl, by decide +kernel, by decide +kernel⟩
abbrev s_Plan_step : Stmt := inClass (topS 40) 1
abbrev N_Plan_step : List Str := ["self", "last", "number", "word"]
abbrev P_Plan_step : List Str := ["self", "last", "number"]
theorem sc_Plan_step : FnScope N_Plan_step P_Plan_step (defScope s_Plan_step) := ⟨rfl, rfl, rfl, by decide +kernel, rfl, by decide +kernel, by decide +kernel⟩
abbrev s_Plan_best : Stmt := inClass (topS 40) 2
abbrev N_Plan_best : List Str := ["self", "done", "last", "some", "number", "more", "order"]
abbrev P_Plan_best : List Str := ["self", "done", "last"]
theorem sc_Plan_best : FnScope N_Plan_best P_Plan_best (defScope s_Plan_best) := ⟨rfl, rfl, rfl, by decide +kernel, rfl, by decide +kernel, by decide +kernel⟩
abbrev s_best : Stmt := topS 41
abbrev N_best : List Str := ["words", "plan", "room", "order", "number"]
abbrev P_best : List Str := ["words"]
theorem sc_best : FnScope N_best P_best (defScope s_best) := ⟨rfl, rfl, rfl, by decide +kernel, rfl, by decide +kernel, by decide +kernel⟩
abbrev s_begun : Stmt := topS 43
abbrev N_begun : List Str := ["_law_script", "_law_stirred", "_law_cell"]
abbrev P_begun : List Str := ["_law_script"]
theorem sc_begun : FnScope N_begun P_begun (defScope s_begun) := ⟨rfl, rfl, rfl, by decide +kernel, rfl, by decide +kernel, by decide +kernel⟩
abbrev s_take : Stmt := topS 44
abbrev N_take : List Str := ["_law_box", "_law_many", "_law_number"]
abbrev P_take : List Str := ["_law_box", "_law_many"]
theorem sc_take : FnScope N_take P_take (defScope s_take) := ⟨rfl, rfl, rfl, by decide +kernel, rfl, by decide +kernel, by decide +kernel⟩
abbrev s_word : Stmt := topS 45
abbrev N_word : List Str := ["_law_box", "_law_letters", "_law_most", "_law_k"]
abbrev P_word : List Str := ["_law_box", "_law_letters", "_law_most"]
theorem sc_word : FnScope N_word P_word (defScope s_word) := ⟨rfl, rfl, rfl, by decide +kernel, rfl, by decide +kernel, by decide +kernel⟩
abbrev s_words : Stmt := topS 46
abbrev N_words : List Str := ["_law_box", "_law_most", "_law_signs", "_law_letters", "_law_found", "_law_turn", "_law_word_here", "_law_way", "_law_other_here", "_law_at"]
abbrev P_words : List Str := ["_law_box", "_law_most", "_law_signs"]
theorem sc_words : FnScope N_words P_words (defScope s_words) := ⟨rfl, rfl, rfl, by decide +kernel, rfl, by decide +kernel, by decide +kernel⟩
abbrev s_l_free : Stmt := topS 47
abbrev N_l_free : List Str := ["_law_words_here", "_law_found", "_law_number", "_law_others", "_law_other_here"]
abbrev P_l_free : List Str := ["_law_words_here"]
theorem sc_l_free : FnScope N_l_free P_l_free (defScope s_l_free) := ⟨rfl, rfl, rfl, by decide +kernel, rfl, by decide +kernel, by decide +kernel⟩
abbrev s_few : Stmt := topS 49
abbrev N_few : List Str := ["_law_box", "_law_most", "_law_signs", "_law_words_here"]
abbrev P_few : List Str := ["_law_box", "_law_most", "_law_signs"]
theorem sc_few : FnScope N_few P_few (defScope s_few) := ⟨rfl, rfl, rfl, by decide +kernel, rfl, by decide +kernel, by decide +kernel⟩
abbrev s_first_unlike : Stmt := topS 16
abbrev N_first_unlike : List Str := ["one", "other", "many", "end", "place"]
abbrev P_first_unlike : List Str := ["one", "other", "many"]
theorem sc_first_unlike : FnScope N_first_unlike P_first_unlike (defScope s_first_unlike) := ⟨rfl, rfl, rfl, by decide +kernel, rfl, by decide +kernel, by decide +kernel⟩
abbrev s_why_no_more : Stmt := topS 18
abbrev N_why_no_more : List Str := ["one", "other", "least", "many"]
abbrev P_why_no_more : List Str := ["one", "other"]
theorem sc_why_no_more : FnScope N_why_no_more P_why_no_more (defScope s_why_no_more) := ⟨rfl, rfl, rfl, by decide +kernel, rfl, by decide +kernel, by decide +kernel⟩
abbrev s_risen : Stmt := topS 20
abbrev N_risen : List Str := ["words", "pair", "number", "word"]
abbrev P_risen : List Str := ["words"]
theorem sc_risen : FnScope N_risen P_risen (defScope s_risen) := ⟨rfl, rfl, rfl, by decide +kernel, rfl, by decide +kernel, by decide +kernel⟩
abbrev s_index : Stmt := topS 21
abbrev N_index : List Str := ["words"]
abbrev P_index : List Str := ["words"]
theorem sc_index : FnScope N_index P_index (defScope s_index) := ⟨rfl, rfl, rfl, by decide +kernel, rfl, by decide +kernel, by decide +kernel⟩
abbrev s_sought : Stmt := topS 22
abbrev N_sought : List Str := ["words", "word", "order", "low", "high", "looks", "middle"]
abbrev P_sought : List Str := ["words", "word"]
theorem sc_sought : FnScope N_sought P_sought (defScope s_sought) := ⟨rfl, rfl, rfl, by decide +kernel, rfl, by decide +kernel, by decide +kernel⟩
abbrev s_tails : Stmt := topS 26
abbrev N_tails : List Str := ["words", "found", "word", "some", "number", "other"]
abbrev P_tails : List Str := ["words"]
theorem sc_tails : FnScope N_tails P_tails (defScope s_tails) := ⟨rfl, rfl, rfl, by decide +kernel, rfl, by decide +kernel, by decide +kernel⟩
abbrev s_least_room : Stmt := topS 27
abbrev N_least_room : List Str := ["words", "word", "other"]
abbrev P_least_room : List Str := ["words"]
theorem sc_least_room : FnScope N_least_room P_least_room (defScope s_least_room) := ⟨rfl, rfl, rfl, by decide +kernel, rfl, by decide +kernel, by decide +kernel⟩
abbrev s_Keeper___init__ : Stmt := inClass (topS 25) 0
abbrev N_Keeper___init__ : List Str := ["self"]
abbrev P_Keeper___init__ : List Str := ["self"]
theorem sc_Keeper___init__ : FnScope N_Keeper___init__ P_Keeper___init__ (defScope s_Keeper___init__) := ⟨rfl, rfl, rfl, by decide +kernel, rfl, by decide +kernel, by decide +kernel⟩
abbrev s_Keeper_put : Stmt := inClass (topS 25) 1
abbrev N_Keeper_put : List Str := ["self", "word", "place"]
abbrev P_Keeper_put : List Str := ["self", "word"]
theorem sc_Keeper_put : FnScope N_Keeper_put P_Keeper_put (defScope s_Keeper_put) := ⟨rfl, rfl, rfl, by decide +kernel, rfl, by decide +kernel, by decide +kernel⟩
abbrev s_Keeper_text : Stmt := inClass (topS 25) 2
abbrev N_Keeper_text : List Str := ["self"]
abbrev P_Keeper_text : List Str := ["self"]
theorem sc_Keeper_text : FnScope N_Keeper_text P_Keeper_text (defScope s_Keeper_text) := ⟨rfl, rfl, rfl, by decide +kernel, rfl, by decide +kernel, by decide +kernel⟩
abbrev s_Keeper_words : Stmt := inClass (topS 25) 3
abbrev N_Keeper_words : List Str := ["self", "word"]
abbrev P_Keeper_words : List Str := ["self"]
theorem sc_Keeper_words : FnScope N_Keeper_words P_Keeper_words (defScope s_Keeper_words) := ⟨rfl, rfl, rfl, by decide +kernel, rfl, by decide +kernel, by decide +kernel⟩
abbrev s_wasted : Stmt := topS 28
abbrev N_wasted : List Str := ["words", "keeper", "word"]
abbrev P_wasted : List Str := ["words"]
theorem sc_wasted : FnScope N_wasted P_wasted (defScope s_wasted) := ⟨rfl, rfl, rfl, by decide +kernel, rfl, by decide +kernel, by decide +kernel⟩
abbrev s_laid : Stmt := topS 33
abbrev N_laid : List Str := ["words", "text", "begins", "reason"]
abbrev P_laid : List Str := ["words"]
theorem sc_laid : FnScope N_laid P_laid (defScope s_laid) := ⟨rfl, rfl, rfl, by decide +kernel, rfl, by decide +kernel, by decide +kernel⟩
abbrev s_reason : Stmt := topS 34
abbrev N_reason : List Str := ["words"]
abbrev P_reason : List Str := ["words"]
theorem sc_reason : FnScope N_reason P_reason (defScope s_reason) := ⟨rfl, rfl, rfl, by decide +kernel, rfl, by decide +kernel, by decide +kernel⟩
abbrev s_other : Stmt := topS 50
abbrev N_other : List Str := ["_law_word_here", "_law_letters", "_law_sign"]
abbrev P_other : List Str := ["_law_word_here", "_law_letters"]
theorem sc_other : FnScope N_other P_other (defScope s_other) := ⟨rfl, rfl, rfl, by decide +kernel, rfl, by decide +kernel, by decide +kernel⟩
abbrev s_l_fits : Stmt := topS 51
abbrev N_l_fits : List Str := ["_law_words_here", "_law_letters", "_law_others", "_law_text", "_law_begins", "_law_room", "_law_order", "_law_word_here"]
abbrev P_l_fits : List Str := ["_law_words_here", "_law_letters"]
theorem sc_l_fits : FnScope N_l_fits P_l_fits (defScope s_l_fits) := ⟨rfl, rfl, rfl, by decide +kernel, rfl, by decide +kernel, by decide +kernel⟩
abbrev s_law : Stmt := topS 52
abbrev N_law : List Str := ["_law_script", "_law_box", "_law_words_here", "_law_turned", "_law_one", "_law_other_here", "_law_every", "_law_at", "_law_letters", "_law_k", "_law_word_here"]
abbrev P_law : List Str := ["_law_script"]
theorem sc_law : FnScope N_law P_law (defScope s_law) := ⟨rfl, rfl, rfl, by decide +kernel, rfl, by decide +kernel, by decide +kernel⟩
structure Cl_Keeper (C : Ctx) (A : Addr) : Prop where
  mg : C.mg "Keeper" = some (.ref A)
  cl : Cls C.K A
  n_kept : NoAttr C.K A "kept"
  n_places : NoAttr C.K A "places"
  n_coming : NoAttr C.K A "coming"
  i_init : InitAt C.K A "Keeper.__init__" s_Keeper___init__ P_Keeper___init__
  m_put : MethAt C.K A "put" "Keeper.put" s_Keeper_put P_Keeper_put
  m_text : MethAt C.K A "text" "Keeper.text" s_Keeper_text P_Keeper_text
  m_words : MethAt C.K A "words" "Keeper.words" s_Keeper_words P_Keeper_words
abbrev ClsAt_Keeper {K : PySem.W.Frag} {h : Heap} (_X : K.In h) (mg : Str → Option Value) : Prop := ∃ A, mg "Keeper" = some (.ref A) ∧ Cls K A ∧ NoAttr K A "kept" ∧ NoAttr K A "places" ∧ NoAttr K A "coming" ∧ InitAt K A "Keeper.__init__" s_Keeper___init__ P_Keeper___init__ ∧ MethAt K A "put" "Keeper.put" s_Keeper_put P_Keeper_put ∧ MethAt K A "text" "Keeper.text" s_Keeper_text P_Keeper_text ∧ MethAt K A "words" "Keeper.words" s_Keeper_words P_Keeper_words
structure Cl_Plan (C : Ctx) (A : Addr) : Prop where
  mg : C.mg "Plan" = some (.ref A)
  cl : Cls C.K A
  n_every : NoAttr C.K A "every"
  n_numbers : NoAttr C.K A "numbers"
  n_known : NoAttr C.K A "known"
  i_init : InitAt C.K A "Plan.__init__" s_Plan___init__ P_Plan___init__
  m_step : MethAt C.K A "step" "Plan.step" s_Plan_step P_Plan_step
  m_best : MethAt C.K A "best" "Plan.best" s_Plan_best P_Plan_best
abbrev ClsAt_Plan {K : PySem.W.Frag} {h : Heap} (_X : K.In h) (mg : Str → Option Value) : Prop := ∃ A, mg "Plan" = some (.ref A) ∧ Cls K A ∧ NoAttr K A "every" ∧ NoAttr K A "numbers" ∧ NoAttr K A "known" ∧ InitAt K A "Plan.__init__" s_Plan___init__ P_Plan___init__ ∧ MethAt K A "step" "Plan.step" s_Plan_step P_Plan_step ∧ MethAt K A "best" "Plan.best" s_Plan_best P_Plan_best
theorem noAttr_mk {K : PySem.W.Frag} {A : PySem.Addr} {f : Str} (h : PySem.W.findIn K (.ref A) f = some none) : NoAttr K A f := h
structure Tx (C : Ctx) : Prop where
  d_is_word : DefAt C "is_word" s_is_word P_is_word
  d_need_word : DefAt C "need_word" s_need_word P_need_word
  d_fits : DefAt C "fits" s_fits P_fits
  d_far : DefAt C "far" s_far P_far
  d_overlap : DefAt C "overlap" s_overlap P_overlap
  d_need_words : DefAt C "need_words" s_need_words P_need_words
  d_free_of : DefAt C "free_of" s_free_of P_free_of
  d_free : DefAt C "free" s_free P_free
  d_unlike_at : DefAt C "unlike_at" s_unlike_at P_unlike_at
  d_goes_behind : DefAt C "goes_behind" s_goes_behind P_goes_behind
  d_gone : DefAt C "gone" s_gone P_gone
  d_need_few : DefAt C "need_few" s_need_few P_need_few
  d_best : DefAt C "best" s_best P_best
  d_begun : DefAt C "_law_begun" s_begun P_begun
  d_take : DefAt C "_law_take" s_take P_take
  d_word : DefAt C "_law_word" s_word P_word
  d_words : DefAt C "_law_words" s_words P_words
  d_l_free : DefAt C "_law_free" s_l_free P_l_free
  d_few : DefAt C "_law_few" s_few P_few
  d_first_unlike : DefAt C "first_unlike" s_first_unlike P_first_unlike
  d_why_no_more : DefAt C "why_no_more" s_why_no_more P_why_no_more
  d_risen : DefAt C "risen" s_risen P_risen
  d_index : DefAt C "index" s_index P_index
  d_sought : DefAt C "sought" s_sought P_sought
  d_tails : DefAt C "tails" s_tails P_tails
  d_least_room : DefAt C "least_room" s_least_room P_least_room
  d_wasted : DefAt C "wasted" s_wasted P_wasted
  d_laid : DefAt C "laid" s_laid P_laid
  d_reason : DefAt C "reason" s_reason P_reason
  d_other : DefAt C "_law_other" s_other P_other
  d_l_fits : DefAt C "_law_fits" s_l_fits P_l_fits
  b_len : C.mg "len" = none
  b_range : C.mg "range" = none
  b_enumerate : C.mg "enumerate" = none
  b_zip : C.mg "zip" = none
  b_min : C.mg "min" = none
  b_max : C.mg "max" = none
  b_sum : C.mg "sum" = none
  b_list : C.mg "list" = none
  b_tuple : C.mg "tuple" = none
  b_sorted : C.mg "sorted" = none
  b_int : C.mg "int" = none
  c_SMALL : ∃ t, C.mg "SMALL" = some (.str "abcdefghijklmnopqrstuvwxyz" t)
  c_MOST_SIGNS : ∃ t, C.mg "MOST_SIGNS" = some (.int 12 t)
  c_MOST_WORDS : ∃ t, C.mg "MOST_WORDS" = some (.int 40 t)
  c_END : ∃ t, C.mg "END" = some (.str "." t)
  c_MOST_FREE : ∃ t, C.mg "MOST_FREE" = some (.int 8 t)
  c_Keeper : ∃ A, Cl_Keeper C A
  c_Plan : ∃ A, Cl_Plan C A
variable {C : Ctx}
/-! is_word -/
--%MATH Mword
inductive A_is_word : List PyData → PyData → Prop
  | mk (w : List Nat) (ok : okW w) (hz : w.length ≤ 1000) : A_is_word [dS w] (.bool (isWordM w))
theorem ok_is_word (T : Tx C) : Ok C 1 "is_word" P_is_word (spP A_is_word) := by
  refine ok_pure T.d_is_word sc_is_word (fun ds r h => by cases h; rfl) fun X hx ds r h F vs hv D hr hn => ?_
  have n_word : Nm N_is_word 0 "word" := ⟨rfl, by decide, by decide⟩
  have n_sign : Nm N_is_word 1 "sign" := ⟨rfl, by decide, by decide⟩
  have b_len := T.b_len
  obtain ⟨k_SMALL, m_SMALL⟩ := T.c_SMALL
  obtain ⟨k_MOST_SIGNS, m_MOST_SIGNS⟩ := T.c_MOST_SIGNS
  obtain ⟨w, ok, hz⟩ := h
  obtain ⟨v0, _, rfl, a0, hv⟩ := hv.inv
  obtain rfl := hv.end_
  obtain rfl := a0.scal rfl
  refine ex_ret (EvD.is (by fail "ev") ?_) hr
  rw [lit_small, ← isWord_eq]

/-! need_word -/
--%MATH Mword
inductive A_need_word : List PyData → PyData → Prop
  | mk (w : List Nat) (g : goodM w) : A_need_word [dS w] .none
theorem ok_need_word (T : Tx C) : Ok C 2 "need_word" P_need_word (spP A_need_word) := by
  refine ok_pure T.d_need_word sc_need_word (fun ds r h => by cases h; rfl) fun X hx ds r h F vs hv D hr hn => ?_
  have n_word : Nm N_need_word 0 "word" := ⟨rfl, by decide, by decide⟩
  have o_is_word := ok_is_word T
  obtain ⟨w, g⟩ := h
  obtain ⟨v0, _, rfl, a0, hv⟩ := hv.inv
  obtain rfl := hv.end_
  obtain rfl := a0.scal rfl
  have hz := g.2.1
  have ok := g.ok
  refine ex_if (M1 := []) (EvT.is (c := false) (by fail "et") ?_) (fun h => nomatch h) fun _ => ?_
  · rw [isWordM, decide_eq_true g]; rfl
  · exact ex_on (ex_nil fun F1 H f hm => hn _ F1 H rfl hm f)
theorem okw_need_word (T : Tx C) : Ok C 2 "need_word" P_need_word (spW A_need_word) := by
  exact (ok_need_word T).toW fun ds d hw h => ⟨h, by cases h; trivial⟩

/-! fits -/
--%MATH Mword
--%MATH Mover
inductive A_fits : List PyData → PyData → Prop
  | mk (one other : List Nat) (m : Int) (ok1 : okW one) (ok2 : okW other) (l1 : one.length ≤ 100) (l2 : other.length ≤ 100) (h0 : 0 ≤ m) (hm : m ≤ one.length) : A_fits [dS one, dS other, .int m] (.bool (fitsM one other m.toNat))
theorem ok_fits (T : Tx C) : Ok C 1 "fits" P_fits (spP A_fits) := by
  refine ok_pure T.d_fits sc_fits (fun ds r h => by cases h; rfl) fun X hx ds r h F vs hv D hr hn => ?_
  have n_one : Nm N_fits 0 "one" := ⟨rfl, by decide, by decide⟩
  have n_other : Nm N_fits 1 "other" := ⟨rfl, by decide, by decide⟩
  have n_many : Nm N_fits 2 "many" := ⟨rfl, by decide, by decide⟩
  have b_len := T.b_len
  obtain ⟨one, other, m, ok1, ok2, l1, l2, h0, hm⟩ := h
  obtain ⟨v0, _, rfl, a0, hv⟩ := hv.inv
  obtain ⟨v1, _, rfl, a1, hv⟩ := hv.inv
  obtain ⟨v2, _, rfl, a2, hv⟩ := hv.inv
  obtain rfl := hv.end_
  obtain rfl := a0.scal rfl
  obtain rfl := a1.scal rfl
  obtain rfl := a2.scal rfl
  refine ex_ret (EvD.is (by fail "ev") ?_) hr
  obtain ⟨n, rfl⟩ : ∃ n : Nat, m = (n : Int) := ⟨m.toNat, by omega⟩
  have e : (one.length : Int) - (n : Int) = ((one.length - n : Nat) : Int) := by omega
  rw [e, cutL_from, cutL_to]; rfl

/-! far -/
--%MATH Mword
--%MATH Mover
inductive A_far : List PyData → PyData → Prop
  | mk (one other : List Nat) (ok1 : okW one) (ok2 : okW other) (l1 : one.length ≤ 100) (l2 : other.length ≤ 100) (h1 : 1 ≤ one.length) (h2 : 1 ≤ other.length) : A_far [dS one, dS other] (.int (farM one other : Nat))
theorem ok_far (T : Tx C) : Ok C 2 "far" P_far (spP A_far) := by
  refine ok_pure T.d_far sc_far (fun ds r h => by cases h; rfl) fun X hx ds r h F vs hv D hr hn => ?_
  have n_one : Nm N_far 0 "one" := ⟨rfl, by decide, by decide⟩
  have n_other : Nm N_far 1 "other" := ⟨rfl, by decide, by decide⟩
  have n_many : Nm N_far 2 "many" := ⟨rfl, by decide, by decide⟩
  have b_len := T.b_len
  have b_range := T.b_range
  have b_min := T.b_min
  have b_max := T.b_max
  have o_fits := ok_fits T
  obtain ⟨one, other, ok1, ok2, l1, l2, h1, h2⟩ := h
  obtain ⟨v0, _, rfl, a0, hv⟩ := hv.inv
  obtain ⟨v1, _, rfl, a1, hv⟩ := hv.inv
  obtain rfl := hv.end_
  obtain rfl := a0.scal rfl
  obtain rfl := a1.scal rfl
  refine ex_ret ?_ hr
  refine' ev_cb hx b_max ?g (by decide +kernel) ?ea ?cb (by decide) (by decide)
  case g => fail "gb"
  case ea =>
    refine' ea_cons (EvD.is ?x ?y) ea_nil
    case x => fail "ev"
    case y => exact congrArg PyData.list (List.map_map (g := PyData.int) (f := fun a : Nat => (a : Int))).symm
  case cb =>
    have := far_list (n := (min (one.length : Int) (other.length : Int)).toNat) (p := fun a => fitsM one other (a : Int).toNat) h1 h2 (by omega) (fun a _ => rfl)
    exact cb_max hx this.1 this.2
theorem okw_far (T : Tx C) : Ok C 2 "far" P_far (spW A_far) := by
  exact (ok_far T).toW fun ds d hw h => ⟨h, by obtain ⟨one, other, _⟩ := h; trivial⟩

/-! overlap -/
--%MATH Mword
--%MATH Mword
--%MATH Mover
inductive A_overlap : List PyData → PyData → Prop
  | mk (one other : List Nat) (g1 : goodM one) (g2 : goodM other) : A_overlap [dS one, dS other] (.int (farM one other : Nat))
theorem ok_overlap (T : Tx C) : Ok C 3 "overlap" P_overlap (spP A_overlap) := by
  refine ok_pure T.d_overlap sc_overlap (fun ds r h => by cases h; rfl) fun X hx ds r h F vs hv D hr hn => ?_
  have n_one : Nm N_overlap 0 "one" := ⟨rfl, by decide, by decide⟩
  have n_other : Nm N_overlap 1 "other" := ⟨rfl, by decide, by decide⟩
  have o_need_word := ok_need_word T
  have o_far := ok_far T
  obtain ⟨one, other, g1, g2⟩ := h
  obtain ⟨v0, _, rfl, a0, hv⟩ := hv.inv
  obtain ⟨v1, _, rfl, a1, hv⟩ := hv.inv
  obtain rfl := hv.end_
  obtain rfl := a0.scal rfl
  obtain rfl := a1.scal rfl
  have ok1 := g1.ok
  have ok2 := g2.ok
  have l1 := g1.1
  have l2 := g2.1
  have l3 := g1.2.1
  have l4 := g2.2.1
  refine ex_drop (T := Any) (by fail "ev") (ex_drop (T := Any) (by fail "ev") (ex_ret (by fail "ev") hr))
theorem okw_overlap (T : Tx C) : Ok C 3 "overlap" P_overlap (spW A_overlap) := by
  exact (ok_overlap T).toW fun ds d hw h => ⟨h, by cases h; trivial⟩

/-! need_words -/
--%MATH Mword
--%MATH Mword
--%MATH Mdraw
--%MATH Mws
inductive A_need_words : List PyData → PyData → Prop
  | mk (ws : List (List Nat)) (g : Ws ws) : A_need_words [.list (ws.map dS)] .none
theorem ok_need_words (T : Tx C) : Ok C 2 "need_words" P_need_words (spP A_need_words) := by
  refine ok_pure T.d_need_words sc_need_words (fun ds r h => by cases h; rfl) fun X hx ds r h F vs hv D hr hn => ?_
  have n_words : Nm N_need_words 0 "words" := ⟨rfl, by decide, by decide⟩
  have n_number : Nm N_need_words 1 "number" := ⟨rfl, by decide, by decide⟩
  have n_word : Nm N_need_words 2 "word" := ⟨rfl, by decide, by decide⟩
  have b_len := T.b_len
  have b_enumerate := T.b_enumerate
  obtain ⟨k_MOST_WORDS, m_MOST_WORDS⟩ := T.c_MOST_WORDS
  have o_is_word := ok_is_word T
  obtain ⟨ws, g⟩ := h
  obtain ⟨v0, _, rfl, a0, hv⟩ := hv.inv
  obtain rfl := hv.end_
  have hlen := g.len
  have hpos : 0 < ws.length := List.length_pos_iff.mpr g.ne
  refine' ex_skip ?za ?zb ?zc
  case za => fail "et"
  case zb => exact decide_eq_false (by omega)
  case zc =>
    refine' ex_forM2 (fun i σ F1 M => M = [] ∧ ∃ v w, σ = [some v0, v, w]) hx n_number n_word ?qloc ?qloc2 ?qlocB ?qlocB2 ?qi ?q0 ?qs ?qd ?qst
    case qloc => fail "loc"
    case qloc2 => fail "loc"
    case qlocB => fail "locB2"
    case qlocB2 => fail "locB2"
    case qi => fail "it"
    case qst => intro _ _; rfl
    case q0 => exact fun F1 _ => ⟨rfl, none, none, rfl⟩
    case qd =>
      rintro σ F1 M f1 ⟨rfl, v, w, rfl⟩
      exact ex_nil fun F2 H f hm => hn _ F2 H rfl hm (f1.trans f)
    case qs =>
      rintro i a v u σ F1 F2 M ha f1 ⟨rfl, v', w', rfl⟩ f2 rv ru
      obtain ⟨hi, rfl⟩ := zipGet ha
      obtain rfl := rv.scal rfl
      obtain rfl := ru.scal rfl
      show ExB X _ _ [some v0, some (.int i), some (.str (tx ws[i]))] _ _ _
      have f12 : Same F F2 := f1.trans f2
      have hg : goodM ws[i] := g.good _ (List.getElem_mem hi)
      have ok := hg.ok
      have hz : ws[i].length ≤ 1000 := Nat.le_trans hg.2.1 (by decide)
      have hnot := nd_notin g.nd hi
      refine' ex_skip ?ze ?zf ?zg
      case ze => fail "et"
      case zf =>
        rw [cutL_to, hnot, isWordM, decide_eq_true hg, decide_eq_false (by omega)]; rfl
      case zg => exact ex_turn f2 ⟨rfl, _, _, rfl⟩
theorem okw_need_words (T : Tx C) : Ok C 2 "need_words" P_need_words (spW A_need_words) := by
  exact (ok_need_words T).toW fun ds d hw h => ⟨h, by cases h; trivial⟩

/-! free_of -/
--%MATH Mword
--%MATH Mover
--%MATH Mdraw
--%MATH Mws
--%MATH Mlay
--%MATH Mplan
inductive A_free : List PyData → PyData → Prop
  | mk (ws : List (List Nat)) (g : Ws ws) : A_free [.list (ws.map dS)] (.list ((freeM ws).map gN))
theorem ok_free_of (T : Tx C) : Ok C 1 "free_of" P_free_of (spW A_free) := by
  refine ok_W T.d_free_of sc_free_of (by decide) (fun ds r h => by cases h; rfl) fun X hx ds r h hw Z => ?_
  have n_words : Nm N_free_of 0 "words" := ⟨rfl, by decide, by decide⟩
  have n_found : Nm N_free_of 1 "found" := ⟨rfl, by decide, by decide⟩
  have n_number : Nm N_free_of 2 "number" := ⟨rfl, by decide, by decide⟩
  have n_word : Nm N_free_of 3 "word" := ⟨rfl, by decide, by decide⟩
  have n_other : Nm N_free_of 4 "other" := ⟨rfl, by decide, by decide⟩
  have b_enumerate := T.b_enumerate
  obtain ⟨ws, g⟩ := h
  have g1 := g.good
  have g2 := g.len
  show SB X Z _ [dc (.list (ws.map dS)) [0], none, none, none, none] _ _ _
  fail "set"
  show SB X Z _ [dc (.list (ws.map dS)) [0], dc (.list []) [2], none, none, none] _ _ _
  refine' sb_for2 (w := 902) ((fun i E O => O = [] ∧ ∃ c2 c3 c4, E = [dc (.list (ws.map dS)) [0], dc (.list ((((ws.zipIdx.take i).filter fun q => freeB ws q.1).map (·.2)).map gN)) [2], c2, c3, c4])) hx n_number n_word ?l0a ?l1a ?m0a ?m1a ?ia ?za ?sa ?da ?ta
  case l0a => fail "loc"
  case l1a => fail "loc"
  case m0a => fail "locB2"
  case m1a => fail "locB2"
  case ia => fail "hI"
  case ta => intro _ _; rfl
  case za => exact ⟨rfl, _, _, _, rfl⟩
  case da =>
    rintro E O ⟨rfl, c2, c3, c4, rfl⟩
    rw [List.take_length]
    fail "hret"
    exact ⟨rfl, rfl⟩
  case sa =>
    rintro i q E O ha _ _ ⟨rfl, c2, c3, c4, rfl⟩
    refine ⟨rfl, ?_⟩
    have hi : i < ws.zipIdx.length := (List.getElem?_eq_some_iff.mp ha).1
    have hi' : ws.zipIdx[i] = q := (List.getElem?_eq_some_iff.mp ha).2
    show SB X Z _ [dc (.list (ws.map dS)) [0], dc (.list ((((ws.zipIdx.take i).filter fun q => freeB ws q.1).map (·.2)).map gN)) [2], dc (.int (q.2 : Nat)) [], dc (dS q.1) [], c4] _ _ _
    have hs : (ws.zipIdx.take (i + 1)).filter (fun q => freeB ws q.1) = (ws.zipIdx.take i).filter (fun q => freeB ws q.1) ++ (if freeB ws q.1 = true then [q] else []) := by
      rw [List.take_succ_eq_append_getElem hi, List.filter_append, hi', List.filter_cons, List.filter_nil]
    have hl : ((ws.zipIdx.take i).filter fun q => freeB ws q.1).length ≤ 40 := by
      refine Nat.le_trans (List.length_filter_le _ _) ?_
      rw [List.length_take, List.length_zipIdx]; omega
    refine' sb_if (b := freeB ws q.1) (ET.to ?t1 ?t2) ?t3 ?t4
    case t1 => fail "hT2"
    case t2 => rfl
    case t3 =>
      intro hb
      fail "happ"
      refine sb_nil (sb_nil ⟨rfl, dc (.int (q.2 : Nat)) [], dc (dS q.1) [], killC [2] c4, ?_⟩)
      rw [hs, if_pos hb, List.map_append, List.map_append]
      rfl
    case t4 =>
      intro hb
      refine sb_nil (sb_nil ⟨rfl, dc (.int (q.2 : Nat)) [], dc (dS q.1) [], c4, ?_⟩)
      rw [hs, if_neg (by rw [hb]; exact Bool.false_ne_true), List.append_nil]

/-! free -/
--%MATH Mword
--%MATH Mover
--%MATH Mdraw
--%MATH Mws
--%MATH Mlay
--%MATH Mplan
theorem ok_free (T : Tx C) : Ok C 3 "free" P_free (spW A_free) := by
  refine ok_W T.d_free sc_free (by decide) (fun ds r h => by cases h; rfl) fun X hx ds r h hw Z => ?_
  have n_words : Nm N_free 0 "words" := ⟨rfl, by decide, by decide⟩
  have o_need_words := okw_need_words T
  have o_free_of := ok_free_of T
  obtain ⟨ws, g⟩ := h
  have g1 := g.good
  have g2 := g.len
  show SB X Z _ [dc (.list (ws.map dS)) [0]] _ _ _
  fail "hexp"
  fail "hret"
  exact ⟨rfl, rfl⟩

/-! unlike_at -/
--%MATH Mword
--%MATH Mword
--%MATH Mdraw
--%MATH Mws
--%MATH Mlay
inductive A_unlike_at : List PyData → PyData → Prop
  | mk (t w : List Nat) (p : Nat) (ok1 : okW t) (ok2 : okW w) (l1 : t.length ≤ 1000) (l2 : w.length ≤ 1000) (l3 : p ≤ t.length) : A_unlike_at [dS t, dS w, .int p] (uD (uAt t w p))
theorem ok_unlike_at (T : Tx C) : Ok C 1 "unlike_at" P_unlike_at (spP A_unlike_at) := by
  refine ok_pure T.d_unlike_at sc_unlike_at (fun ds r h => by cases h; rfl) fun X hx ds r h F vs hv D hr hn => ?_
  have n_text : Nm N_unlike_at 0 "text" := ⟨rfl, by decide, by decide⟩
  have n_word : Nm N_unlike_at 1 "word" := ⟨rfl, by decide, by decide⟩
  have n_place : Nm N_unlike_at 2 "place" := ⟨rfl, by decide, by decide⟩
  have n_at : Nm N_unlike_at 3 "at" := ⟨rfl, by decide, by decide⟩
  have b_len := T.b_len
  have b_range := T.b_range
  have b_min := T.b_min
  obtain ⟨t, w, p, ok1, ok2, l1, l2, l3⟩ := h
  obtain ⟨v0, _, rfl, a0, hv⟩ := hv.inv
  obtain ⟨v1, _, rfl, a1, hv⟩ := hv.inv
  obtain ⟨v2, _, rfl, a2, hv⟩ := hv.inv
  obtain rfl := hv.end_
  obtain rfl := a0.scal rfl
  obtain rfl := a1.scal rfl
  obtain rfl := a2.scal rfl
  have hmin : (min (t.length : Int) ((p : Int) + (w.length : Int)) - (p : Int)).toNat = min t.length (p + w.length) - p := by omega
  refine' ex_forM (α := Nat) (g := fun i : Nat => .int ((p : Int) + i)) (fun i σ F1 M => M = [] ∧ (∃ v, σ = [some (.str (tx t)), some (.str (tx w)), some (.int p), v]) ∧ ∀ j, j < i → t.getD (p + j) default = w.getD j default) hx n_at ?qloc ?qlocB ?qi ?q0 ?qs ?qd ?qst
  case qloc => fail "loc"
  case qlocB => fail "locB2"
  case qi => fail "it"
  case qst => intro _ _; rfl
  case q0 => exact fun F1 _ => ⟨rfl, ⟨none, rfl⟩, fun j hj => absurd hj (by omega)⟩
  case qs =>
    rintro i a v σ F1 F2 M ha f1 ⟨rfl, ⟨v', rfl⟩, hp⟩ f2 rv
    obtain ⟨rfl, hi⟩ := rangeGet ha
    rw [hmin] at hi
    obtain rfl := rv.scal rfl
    show ExB X _ _ [some (.str (tx t)), some (.str (tx w)), some (.int p), some (.int ((p : Int) + a))] _ _ _
    have e1 : ((p : Int) + (a : Int)).toNat = p + a := by omega
    have e2 : ((p : Int) + (a : Int) - (p : Int)).toNat = a := by omega
    refine' ex_if (b := !(t.getD (p + a) default == w.getD a default)) (M1 := []) (EvT.is ?za ?zb) ?zc ?zd
    case za => fail "et"
    case zb => rw [G.one_beq, e1, e2]
    case zc =>
      intro hc
      have hc' : t.getD (p + a) default ≠ w.getD a default := by simpa using hc
      refine' ex_ret (d := uD (uAt t w p)) (T := fun a => F a = none) (EvD.is ?ze ?zf) ?zg
      case ze => fail "ev"
      case zf => rw [uAt_hit hi hp hc']; show PyData.int _ = PyData.int _; rw [show ((p : Int) + (a : Int)) = ((p + a : Nat) : Int) by omega]
      case zg => exact fun v F3 H hm f3 rv => hr v F3 H hm ((f1.trans f2).trans f3) rv
    case zd =>
      intro hc
      have hc' : t.getD (p + a) default = w.getD a default := by simpa using hc
      refine ex_on (ex_turn f2 ⟨rfl, ⟨_, rfl⟩, fun j hj => ?_⟩)
      by_cases c : j < a
      · exact hp j c
      · obtain rfl : j = a := by omega
        exact hc'
  case qd =>
    rintro σ F1 M f1 ⟨rfl, ⟨v, rfl⟩, hp⟩
    rw [List.length_range, hmin] at hp
    refine' ex_ret (d := uD (uAt t w p)) (T := fun a => F a = none) (EvD.is ?zi ?zj) ?zk
    case zi => fail "ev"
    case zj => rw [uAt_miss hp]; rfl
    case zk => exact fun v F3 H hm f3 rv => hr v F3 H hm (f1.trans f3) rv

/-! goes_behind -/
--%MATH Mlay
inductive A_goes_behind : List PyData → PyData → Prop
  | mk (t w : List Nat) (p : Nat) (ok1 : okW t) (ok2 : okW w) (l1 : t.length ≤ 1000) (l2 : w.length ≤ 1000) (l3 : p ≤ t.length) : A_goes_behind [dS t, dS w, .int p] (.tuple [.int (plM t w p : Nat), .list ((paM t w p).map gP)])
theorem ok_goes_behind (T : Tx C) : Ok C 2 "goes_behind" P_goes_behind (spP A_goes_behind) := by
  refine ok_pure T.d_goes_behind sc_goes_behind (fun ds r h => by cases h; rfl) fun X hx ds r h F vs hv D hr hn => ?_
  have n_text : Nm N_goes_behind 0 "text" := ⟨rfl, by decide, by decide⟩
  have n_word : Nm N_goes_behind 1 "word" := ⟨rfl, by decide, by decide⟩
  have n_place : Nm N_goes_behind 2 "place" := ⟨rfl, by decide, by decide⟩
  have n_passed : Nm N_goes_behind 3 "passed" := ⟨rfl, by decide, by decide⟩
  have n_at : Nm N_goes_behind 4 "at" := ⟨rfl, by decide, by decide⟩
  have o_unlike_at := ok_unlike_at T
  obtain ⟨t, w, p, ok1, ok2, l1, l2, l3⟩ := h
  obtain ⟨v0, _, rfl, a0, hv⟩ := hv.inv
  obtain ⟨v1, _, rfl, a1, hv⟩ := hv.inv
  obtain ⟨v2, _, rfl, a2, hv⟩ := hv.inv
  obtain rfl := hv.end_
  obtain rfl := a0.scal rfl
  obtain rfl := a1.scal rfl
  obtain rfl := a2.scal rfl
  fail "new"
  intro q hFq hUq
  refine' ex_setS (d := uD (uAt t w p)) (v := uV (uAt t w p)) ?za (evr_of ?zb) (uS _) ?zc
  case za => fail "asg"
  case zb => fail "ev"
  refine' ex_while hx (fun m σ F1 M => ∃ (p' : Nat) (L : List (Nat × Nat)) (vs : List V), m = t.length - p' ∧ p' ≤ t.length ∧ σ = [some (.str (tx t)), some (.str (tx w)), some (.int p'), some (.ref q), some (uV (uAt t w p'))] ∧ M = [(q, .lst vs)] ∧ FdA (fun a => F a = none) F1 vs (L.map gP)
      ∧ plM t w p' = plM t w p ∧ L ++ paM t w p' = paM t w p) (m0 := t.length - p) ?zd ?ze
  case zd => exact ⟨p, [], [], rfl, l3, rfl, rfl, .nil, rfl, rfl⟩
  case ze =>
    rintro m σ F1 M f1 ⟨p', L, vs, rfl, hp', rfl, rfl, hvs, e1, e2⟩
    cases ho : uAt t w p' with
    | none =>
      refine' ⟨_, _, ?zf, ?zg, ?zh⟩
      case zf => fail "et"
      case zg => exact fun h => (nomatch h)
      case zh =>
        intro _
        rw [(plM_none ho).1] at e1
        rw [(plM_none ho).2, List.append_nil] at e2
        refine ex_open (A := []) (B := []) fun z f => ?_
        have af : Fd (fun a => F a = none) (upd F1 q (.lst vs)) (.ref q) (.list (L.map gP)) := .lst hUq upd_same (hvs.mono (fun _ h => h) f)
        refine' ex_ret (d := .tuple [.int (p' : Nat), .list (L.map gP)]) (T := fun a => F a = none) ?zi ?zj
        case zi => fail "ev"
        case zj =>
          intro v F3 H hm f3 rv
          rw [e1, e2] at rv
          exact hr v F3 H hm ((f1.trans f).trans f3) rv
    | some n =>
      have hn := uAt_some ho
      refine' ⟨_, _, ?zk, ?zl, ?zm⟩
      case zk => fail "et"
      case zm => exact fun h => (nomatch h)
      case zl =>
        intro _
        have hvl : vs.length = L.length := by rw [hvs.length, List.length_map]
        have hLl : L.length ≤ 1000 := by
          have h1 := paM_len (t := t) (w := w) (p := p)
          have h2 := (plM_le (t := t) (w := w) l3).2
          rw [← e2, List.length_append] at h1
          omega
        refine' ex_append (T := fun a => F a = none) (A := []) (B := []) (A1 := []) (B1 := []) hx ?zn1 ?zn2 ?zn3 ?zn4 ?zn5 ?zn6 ?zn7 ?zn8 ?zn9
        case zn1 => fail "evv"
        case zn2 => fail "ev"
        case zn3 => rw [sizeLine_eq]; omega
        case zn5 => intro _; rfl
        case zn6 => intro _; rfl
        case zn7 => rfl
        case zn8 => intro _; rfl
        case zn9 => intro _; rfl
        case zn4 =>
          intro v F3 f3 rv
          fail "setS"
          have e3 : ((p' : Int) + 1) = ((p' + 1 : Nat) : Int) := by omega
          rw [e3]
          show ExB X _ _ [some (.str (tx t)), some (.str (tx w)), some (.int ((p' + 1 : Nat) : Int)), some (.ref q), some (.int (n : Nat))] _ _ _
          refine' ex_setS (d := uD (uAt t w (p' + 1))) (v := uV (uAt t w (p' + 1))) ?zo (evr_of ?zp) (uS _) ?zq
          case zo => fail "asg"
          case zp => fail "ev"
          refine ex_turnW (fun _ h => h) f3 ⟨t.length - (p' + 1), by omega, p' + 1, L ++ [(p', n)], vs ++ [v], rfl, by omega, rfl, rfl, ?_, ?_, ?_⟩
          · rw [List.map_append]
            exact (hvs.mono (fun _ h => h) f3).app (.cons rv .nil)
          · rw [← (plM_some ho).1, e1]
          · rw [List.append_assoc, List.singleton_append, ← (plM_some ho).2, e2]

/-! gone -/
--%MATH Mlay
--%MATH Mleast
--%MATH Mrows
inductive A_gone : List PyData → PyData → Prop
  | mk (ws : List (List Nat)) (g : ∀ w ∈ ws, goodM w) (hl : ws.length ≤ 40) : A_gone [.list (ws.map dS)] (.tuple [dS (layM ws).1, .list ((layM ws).2.map gN), .list ((resM ws).map gR)])
theorem ok_gone (T : Tx C) : Ok C 3 "gone" P_gone (spP A_gone) := by
  refine ok_pure T.d_gone sc_gone (fun ds r h => by cases h; rfl) fun X hx ds r h F vs hv D hr hn => ?_
  have n_words : Nm N_gone 0 "words" := ⟨rfl, by decide, by decide⟩
  have n_text : Nm N_gone 1 "text" := ⟨rfl, by decide, by decide⟩
  have n_begins : Nm N_gone 2 "begins" := ⟨rfl, by decide, by decide⟩
  have n_reason : Nm N_gone 3 "reason" := ⟨rfl, by decide, by decide⟩
  have n_number : Nm N_gone 4 "number" := ⟨rfl, by decide, by decide⟩
  have n_word : Nm N_gone 5 "word" := ⟨rfl, by decide, by decide⟩
  have n_place : Nm N_gone 6 "place" := ⟨rfl, by decide, by decide⟩
  have n_passed : Nm N_gone 7 "passed" := ⟨rfl, by decide, by decide⟩
  have n_one : Nm N_gone 8 "one" := ⟨rfl, by decide, by decide⟩
  have n_at : Nm N_gone 9 "at" := ⟨rfl, by decide, by decide⟩
  have b_len := T.b_len
  have b_enumerate := T.b_enumerate
  have o_goes_behind := ok_goes_behind T
  obtain ⟨ws, g, hlen⟩ := h
  obtain ⟨v0, _, rfl, a0, hv⟩ := hv.inv
  obtain rfl := hv.end_
  refine' ex_setS (d := dS []) ?za (evr_of (EvD.is ?zb ?zc)) rfl ?zd
  case za => fail "asg"
  case zb => exact ev_strT
  case zc => rfl
  fail "new"
  intro q1 hFq1 hUq1
  fail "new"
  intro q2 hFq2 hUq2
  refine' ex_forM2 (fun i σ F1 M => ∃ (vs : List V) (v4 v5 v6 v7 v8 v9 : Option V), σ = [some v0, some (.str (tx (layI ws i).1)), some (.ref q1), some (.ref q2), v4, v5, v6, v7, v8, v9] ∧ M = [(q1, .lst ((layI ws i).2.map fun n : Nat => V.int (n : Nat))), (q2, .lst vs)] ∧ FdA (fun a => F a = none) F1 vs ((resTo ws i).map gR)) hx n_number n_word ?qloc ?qloc2 ?qlocB ?qlocB2 ?qi ?q0 ?qs ?qd ?qst
  case qloc => fail "loc"
  case qloc2 => fail "loc"
  case qlocB => fail "locB2"
  case qlocB2 => fail "locB2"
  case qi => fail "it"
  case qst => intro _ _; rfl
  case q0 => exact fun F1 _ => ⟨[], none, none, none, none, none, none, rfl, rfl, .nil⟩
  case qd =>
    rintro σ F1 M f1 ⟨vs, v4, v5, v6, v7, v8, v9, rfl, rfl, hvs⟩
    rw [List.length_zipIdx] at hvs ⊢
    rw [layI_all]
    refine ex_open (A := []) (B := [(q2, .lst vs)]) fun z1 e1 => ?_
    refine ex_open (A := []) (B := []) fun z2 e2 => ?_
    have a1 : Fd (fun a => F a = none) (upd (upd F1 q1 (.lst ((layM ws).2.map fun n : Nat => V.int (n : Nat)))) q2 (.lst vs)) (.ref q1) (.list ((layM ws).2.map gN)) := (Fd.lst hUq1 upd_same (FdA.gN _)).mono (fun _ h => h) e2
    have a2 : Fd (fun a => F a = none) (upd (upd F1 q1 (.lst ((layM ws).2.map fun n : Nat => V.int (n : Nat)))) q2 (.lst vs)) (.ref q2) (.list ((resTo ws ws.length).map gR)) := .lst hUq2 upd_same (hvs.mono (fun _ h => h) (e1.trans e2))
    refine' ex_ret (T := fun a => F a = none) ?zr1 ?zr2
    case zr1 => fail "ev"
    case zr2 => exact fun v F3 H hm f3 rv => hr v F3 H hm (((f1.trans e1).trans e2).trans f3) rv
  case qs =>
    rintro i a v u σ F1 F2 M ha f1 ⟨vs, v4, v5, v6, v7, v8, v9, rfl, rfl, hvs⟩ f2 rv ru
    obtain ⟨hi, rfl⟩ := zipGet ha
    obtain rfl := rv.scal rfl
    obtain rfl := ru.scal rfl
    have gw : goodM ws[i] := g _ (List.getElem_mem hi)
    obtain ⟨b1, b2, b3, b4⟩ := layI_ok g i (by omega)
    have hrl := resTo_len (ws := ws) i (by omega)
    have hgd : ws.getD i default = ws[i] := by rw [List.getD_eq_getElem?_getD, List.getElem?_eq_getElem hi]; rfl
    have hsucc := layI_succ hi
    have hres : resTo ws (i + 1) = resTo ws i ++ (paM (layI ws i).1 ws[i] (lastN (layI ws i).2)).map fun x => (i, x.1, x.2) := by rw [← hgd]; rfl
    have hvl : vs.length = (resTo ws i).length := by rw [hvs.length, List.length_map]
    clear hgd
    have okw := gw.ok
    have wl := gw.2.1
    generalize ws[i] = w at gw okw wl hsucc hres ⊢
    generalize layI ws i = st at b1 b2 b3 b4 hsucc hres hrl ⊢
    generalize resTo ws i = R0 at hvs hrl hvl hres
    obtain ⟨t, bs⟩ := st
    have okt : okW t := b3
    have tl : t.length ≤ 480 := by have : t.length ≤ 12 * i := b1; omega
    have bl : lastN bs ≤ t.length := b2
    have rl : R0.length = lastN bs := hrl
    show ExB X _ _ [some v0, some (.str (tx t)), some (.ref q1), some (.ref q2), some (.int i), some (.str (tx w)), v6, v7, v8, v9] _ _ [(q1, .lst (bs.map fun n : Nat => V.int (n : Nat))), (q2, .lst vs)]
    have pb := plM_le (t := t) (w := w) bl
    have pl := @paM_len t w (lastN bs)
    refine ex_open (A := []) (B := [(q2, .lst vs)]) fun z1 e1 => ?_
    have a1 : Fd Any (upd F2 q1 (.lst (bs.map fun n : Nat => V.int (n : Nat)))) (.ref q1) (.list (bs.map gN)) := .lst trivial upd_same (FdA.gN _)
    refine ex_mark ?_
    refine' ex_unpack2 (T := fun a => upd F2 q1 (.lst (bs.map fun n : Nat => V.int (n : Nat))) a = none) (d1 := .int (plM t w (lastN bs) : Nat)) (d2 := .list ((paM t w (lastN bs)).map gP)) hx n_place n_passed ?zl1 ?zl2 ?zl3 ?zl4 ?ze ?zk ?zs1 ?zs2 ?zs3
    case zl1 => fail "loc"
    case zl2 => fail "loc"
    case zl3 => fail "locB2"
    case zl4 => fail "locB2"
    case zs1 => intro _; rfl
    case zs2 => intro _; rfl
    case zs3 => intro _; rfl
    case ze =>
      refine' ev_call hx o_goes_behind ?y1 ?y2 ?y3 ?y4 ?y5 ?y6 ?y7
      case y1 => fail "lvl"
      case y2 => fail "gb"
      case y5 => decide
      case y6 => intro _; rfl
      case y7 => intro _; rfl
      case y3 =>
        refine' ea_cons ?x1 (ea_cons ?x2 (ea_cons ?x3 ea_nil ?x4) ?x5) ?x6
        case x4 => intro _; rfl
        case x5 => intro _; rfl
        case x6 => intro _; rfl
        case x1 => fail "ev"
        case x2 => fail "ev"
        case x3 =>
          refine' ev_if (d := .int (lastN bs : Nat)) ?w1 ?w2 ?w3
          case w1 => fail "et"
          case w2 =>
            intro hc
            have hne : bs ≠ [] := by
              cases bs with
              | nil => exact absurd hc (by simp)
              | cons => exact fun h => nomatch h
            refine' EvD.is ?w4 ?w5
            case w4 => fail "ev"
            case w5 => rfl
          case w3 =>
            intro hc
            have he : bs = [] := by
              cases bs with
              | nil => rfl
              | cons => exact absurd hc (by simp)
            subst he
            exact ev_int
      case y4 => exact SpD.pure (.mk t w (lastN bs) okt okw (by omega) (by omega) bl) fun _ h => h
    case zk =>
      intro v u F3 f3 av au
      obtain rfl := av.scal rfl
      generalize hp : plM t w (lastN bs) = p at pb pl f3 hsucc
      generalize paM t w (lastN bs) = L at pl au hres
      have nq : ∀ a, upd F2 q1 (.lst (bs.map fun n : Nat => V.int (n : Nat))) a = none → a ≠ q1 := fun a h c => by rw [c, upd_same] at h; cases h
      have au2 := au.del (q := q1) nq
      have f3' : Same F2 (del F3 q1) := same_del (e1.trans f3) z1
      show ExB X _ _ [some v0, some (.str (tx t)), some (.ref q1), some (.ref q2), some (.int i), some (.str (tx w)), some (.int p), some u, v8, v9] _ _ _
      refine ex_closeD (q := q1) (A := []) (B := [(q2, .lst vs)]) ?_ (f3 _ _ upd_same)
      refine' ex_setS (d := dS (txM t w p)) ?m1 (evr_of (ev_if ?m2 ?m3 ?m4)) rfl ?m5
      case m1 => fail "asg"
      case m2 => fail "et"
      case m3 =>
        intro hc
        have e : (t.length : Int) - (p : Int) = ((t.length - p : Nat) : Int) := by omega
        have hcl := cutL_le w (some ((t.length : Int) - (p : Int))) none
        refine' EvD.is ?n1 ?n2
        case n1 => fail "ev"
        case n2 => rw [e, cutL_from]; rfl
      case m4 =>
        intro hc
        have hs : p + w.length ≤ t.length := by have := of_decide_eq_false hc; omega
        rw [txM_short hs]
        fail "ev"
      case m5 =>
        refine' ex_append (T := Any) (A := []) (B := [(q2, .lst vs)]) (A1 := []) (B1 := [(q2, .lst vs)]) hx ?zn1 ?zn2 ?zn3 ?zn4 ?zn5 ?zn6 ?zn7 ?zn8 ?zn9
        case zn1 => fail "evv"
        case zn2 => fail "ev"
        case zn3 => rw [List.length_map, sizeLine_eq]; have : bs.length = i := b4; omega
        case zn5 => intro _; rfl
        case zn6 => intro _; rfl
        case zn7 => rfl
        case zn8 => intro _; rfl
        case zn9 => intro _; rfl
        case zn4 =>
          intro v F4 f4 rv
          obtain rfl := rv.scal rfl
          have au3 := au2.mono (T := Any) (fun _ _ => trivial) f4
          refine' ex_extend (T := fun a => upd F2 q1 (.lst (bs.map fun n : Nat => V.int (n : Nat))) a = none) (A := [(q1, .lst (bs.map (fun n : Nat => V.int (n : Nat)) ++ [.int p]))]) (B := []) (A1 := [(q1, .lst (bs.map (fun n : Nat => V.int (n : Nat)) ++ [.int p]))]) (B1 := []) hx ?zp1 ?zp2 ?zp3 ?zp4 ?zp5 ?zp6 ?zp7 ?zp8 ?zp9
          case zp1 => fail "evv"
          case zp2 => fail "ev"
          case zp3 => rw [List.length_map, sizeLine_eq]; omega
          case zp5 => intro _; rfl
          case zp6 => intro _; rfl
          case zp7 => rfl
          case zp8 => intro _; rfl
          case zp9 => intro _; rfl
          case zp4 =>
            intro us F5 f5 rv5
            have hS : ∀ a, upd F2 q1 (.lst (bs.map fun n : Nat => V.int (n : Nat))) a = none → F a = none := fun a h => (f1.trans (f2.trans e1)).free h
            refine ex_turnS hS (f2.trans (f3'.trans (f4.trans f5))) ⟨vs ++ us, some (.int i), some (.str (tx w)), some (.int p), some u, v8, v9, ?_, ?_, ?_⟩
            · exact congrArg (fun z : List Nat => [some v0, some (V.str (tx z)), some (V.ref q1), some (V.ref q2), some (V.int i), some (V.str (tx w)), some (V.int p), some u, v8, v9]) (by rw [hsucc]; show txM t w p = txM t w (plM t w (lastN bs)); rw [hp])
            · rw [hsucc]
              show _ = [(q1, HO.lst ((bs ++ [plM t w (lastN bs)]).map fun n : Nat => V.int (n : Nat))), _]
              rw [hp, List.map_append]; rfl
            · rw [hres, List.map_append, List.map_map]
              exact (hvs.mono (fun _ h => h) (f2.trans (f3'.trans (f4.trans f5)))).app (rv5.mono hS (Same.refl _))
theorem okw_gone (T : Tx C) : Ok C 3 "gone" P_gone (spW A_gone) := by
  exact (ok_gone T).toW fun ds d hw h => ⟨h, by
    obtain ⟨ws, g, hl⟩ := h
    have h1 := lay_wf g hl
    have h2 := res_wf g hl
    exact ⟨by rw [sizeLine_eq]; exact (by decide : 3 < 16777216), h1.2.1, h1.2.2.1, h2, trivial⟩⟩

/-! need_few -/
--%MATH Mword
--%MATH Mover
--%MATH Mdraw
--%MATH Mws
--%MATH Mlay
--%MATH Mplan
inductive A_few : List PyData → PyData → Prop
  | mk (ws : List (List Nat)) (g : Ws ws) (h8 : (freeM ws).length ≤ 8) : A_few [.list (ws.map dS)] (.list ((freeM ws).map gN))
theorem ok_need_few (T : Tx C) : Ok C 3 "need_few" P_need_few (spW A_few) := by
  refine ok_W T.d_need_few sc_need_few (by decide) (fun ds r h => by cases h; rfl) fun X hx ds r h hw Z => ?_
  have n_words : Nm N_need_few 0 "words" := ⟨rfl, by decide, by decide⟩
  have n_numbers : Nm N_need_few 1 "numbers" := ⟨rfl, by decide, by decide⟩
  have b_len := T.b_len
  obtain ⟨k_MOST_FREE, m_MOST_FREE⟩ := T.c_MOST_FREE
  have o_need_words := okw_need_words T
  have o_free_of := ok_free_of T
  obtain ⟨ws, g, h8⟩ := h
  have g1 := g.good
  have g2 := g.len
  show SB X Z _ [dc (.list (ws.map dS)) [0], none] _ _ _
  fail "hexp"
  fail "set"
  refine' sb_skip (b := false) (ET.to ?t1 ?t2) rfl ?t3
  case t1 => fail "hT2"
  case t2 => exact decide_eq_false (by omega)
  case t3 =>
    fail "hret"
    exact ⟨rfl, rfl⟩

/-! Plan.__init__ -/
--%MATH Mword
--%MATH Mover
--%MATH Mdraw
--%MATH Mws
--%MATH Mlay
--%MATH Mplan
theorem pF_init (u : PA) : putF "known" (.ref u.kd) (putF "numbers" (.ref u.na) (putF "every" (.ref u.wa) [])) = pF u := by
  have h1 : ¬ (("every" : Str) = "numbers") := by decide +kernel
  have h2 : ¬ (("every" : Str) = "known") := by decide +kernel
  have h3 : ¬ (("numbers" : Str) = "known") := by decide +kernel
  show putF "known" (.ref u.kd) (if ("every" : Str) = "numbers" then _ else (("every" : Str), V.ref u.wa) :: [("numbers", .ref u.na)]) = _
  rw [if_neg h1]
  show (if ("every" : Str) = "known" then _ else (("every" : Str), V.ref u.wa) :: (if ("numbers" : Str) = "known" then _ else (("numbers" : Str), V.ref u.na) :: [("known", .ref u.kd)])) = _
  rw [if_neg h2, if_neg h3]
theorem ok_Plan___init__ (T : Tx C) {A : Addr} (c : Cl_Plan C A) : OkI C A 1 P_Plan___init__ (spPInit C A) := by
  refine ok_init c.i_init sc_Plan___init__ (fun vs H Q E h => by obtain ⟨p, dx, wa, na, rfl, _⟩ := h; rfl) fun X hx vs H Q E h => ?_
  obtain ⟨p, dx, wa, na, rfl, hp, q⟩ := h
  have n_self : Nm N_Plan___init__ 0 "self" := ⟨rfl, by decide, by decide⟩
  have n_words : Nm N_Plan___init__ 1 "words" := ⟨rfl, by decide, by decide⟩
  have n_numbers : Nm N_Plan___init__ 2 "numbers" := ⟨rfl, by decide, by decide⟩
  refine ⟨_, fun i => pss_cons (show PS (X i) _ (sFld C.K (tVar 0) (tVar 1) "every") from by rw [← hx.K i]; exact ps_fld (pe_nm hx n_self (Or.inl rfl) i) (pe_nm hx n_words (Or.inl rfl) i) rfl)
    (pss_cons (show PS (X i) _ (sFld C.K (tVar 0) (tVar 2) "numbers") from by rw [← hx.K i]; exact ps_fld (pe_nm hx n_self (Or.inl rfl) i) (pe_nm hx n_numbers (Or.inl rfl) i) rfl)
    (pss_one (show PS (X i) _ (sFld C.K (tVar 0) (tDNewN C.P C.w) "known") from by rw [← hx.P i, ← hx.w i, ← hx.K i]; exact ps_fld (pe_nm hx n_self (Or.inl rfl) i) pe_dnewN rfl))), ?_⟩
  refine ⟨_, rfl, _, rfl, p, A, dx, _, rfl, hp, c.cl, c.n_every, (by show 0 < 1000; decide), ?_⟩
  refine ⟨_, rfl, _, rfl, p, A, dx, _, rfl, upd_same, c.cl, c.n_numbers, (by show 1 < 1000; decide), fun kd ep hkd => ?_⟩
  have npd : p ≠ kd := fun z => by rw [← z, upd_same] at hkd; cases hkd
  have hkd0 : H kd = none := grow_upd kd (grow_upd kd hkd)
  refine ⟨_, rfl, p, A, dx, _, rfl, (by rw [upd_ne npd, upd_same]), c.cl, c.n_known, (by show 2 < 1000; decide), ?_⟩
  refine q kd ep _ hkd0 ?_ ?_ fun b o e hb => ?_
  · rw [upd_same]
    show some (HO.ins A dx (putF "known" (.ref kd) (putF "numbers" (.ref na) (putF "every" (.ref wa) [])))) = _
    rw [pF_init ⟨p, dx, kd, wa, na⟩]
  · rw [upd_ne npd.symm, upd_same]
  · have hbp : b ≠ kd := ne_of_none e hkd0
    rw [upd_ne hb, upd_ne hbp, upd_ne hb, upd_ne hb]
    exact e

/-! Plan.step -/
--%MATH Mword
--%MATH Mover
--%MATH Mdraw
--%MATH Mws
--%MATH Mlay
--%MATH Mplan
inductive I_step : PSt → List PyData → PyData → PSt → Prop
  | mk (ks : PSt) (last : Option Nat) (m : Nat) (hm : m < ks.ws.length) (hl : ∀ l, last = some l → l < ks.ws.length) (hg : ∀ w ∈ ks.ws, goodM w) : I_step ks [lD last, .int (m : Nat)] (.int (stepM ks.ws last m : Nat)) ks
theorem ok_Plan_step (T : Tx C) {A : Addr} (c : Cl_Plan C A) : OkM C A 3 "step" P_Plan_step (spPM C A I_step) := by
  refine ok_PM c.m_step sc_Plan_step (by decide) (fun ks ds r k' h => by cases h; rfl) fun X hx ks ds r k' h hw Z u => ?_
  have n_self : Nm N_Plan_step 0 "self" := ⟨rfl, by decide, by decide⟩
  have n_last : Nm N_Plan_step 1 "last" := ⟨rfl, by decide, by decide⟩
  have n_number : Nm N_Plan_step 2 "number" := ⟨rfl, by decide, by decide⟩
  have n_word : Nm N_Plan_step 3 "word" := ⟨rfl, by decide, by decide⟩
  have b_len := T.b_len
  have o_far := okw_far T
  obtain ⟨last, m, hm, hl, hg⟩ := h
  have e0 : ((m : Nat) : Int).toNat = m := by omega
  have q0 : (0 : Int) ≤ (m : Nat) := by omega
  have q1 : ((m : Nat) : Int) < ks.ws.length := by omega
  have gm := hg _ (getD_memL hm)
  have gl := gm.2.1
  have gp := gm.1
  have hro : rOf (lD last) [0] = [] := rOf_flat (lD_flat last)
  show SB X Z _ [none, dc (lD last) (rOf (lD last) [0]), dc (.int (m : Nat)) [], none] _ _ _
  rw [hro]
  refine' sb_set (d := dS (ks.ws.getD m default)) ?s1 (er_of (EE.to (ee_ixMn (R := [0]) hx (ee_every (u := u) (ks := ks) hx n_self ?v1 c.cl c.n_every List.mem_cons_self ?v2) dflt ?v3 (fun _ => rfl) q0 q1 ?v4) ?v5)) ?s3 ?s4
  case s1 => fail "asg"
  case v1 => fail "vis"
  case v2 => intro _; rfl
  case v3 => fail "hE"
  case v4 => fail "ix"
  case v5 => rw [e0]
  case s3 => rfl
  case s4 =>
  show SB X Z _ [none, dc (lD last) [], dc (.int (m : Nat)) [], dc (dS (ks.ws.getD m default)) []] _ _ _
  refine' sb_ret (P := dP (.int (stepM ks.ws last m : Nat))) (EE.to (ee_bin ?a1 (ee_if (R := []) (k := (match last with | none => true | some _ => false)) (P := dP (.int ((match last with | none => 0 | some l => farM (ks.ws.getD l default) (ks.ws.getD m default) : Nat)))) ?a2 ?a3 ?a4) of_sub) ?a5) ⟨rfl, rfl, [0], rfl, rfl⟩
  case a1 => fail "hE"
  case a2 =>
    refine' et_cmp' (d1 := lD last) ?b1 ee_non (of_is ?b2) ?b3
    case b1 => exact ee_nameR hx n_last (by fail "vis") rfl rfl
    case b2 => cases last <;> rfl
    case b3 => fail "mark"
  case a3 =>
    intro hb
    cases last with
    | none => exact ee_int
    | some l => cases hb
  case a4 =>
    intro hb
    cases last with
    | none => cases hb
    | some l =>
      have hl' := hl l rfl
      have f0 : ((l : Nat) : Int).toNat = l := by omega
      have p0 : (0 : Int) ≤ (l : Nat) := by omega
      have p1 : ((l : Nat) : Int) < ks.ws.length := by omega
      have gl2 := hg _ (getD_memL hl')
      refine' ee_call hx o_far ?c1 ?c2 (ea_consR (R3 := []) (EE.to (ee_ixMn (R := [0]) hx (ee_every (u := u) (ks := ks) hx n_self ?d1 c.cl c.n_every List.mem_cons_self ?d2) dflt ?d3 (fun _ => rfl) p0 p1 ?d4) ?d5) ?d6 ?c3 ?c4) (fun _ => .mk _ _ gl2.ok gm.ok (by have := gl2.2.1; omega) (by omega) gl2.1 gp) ?c5 ?c6 ?c7
      case c1 => fail "lvl"
      case c2 => fail "gb"
      case d1 => fail "vis"
      case d2 => intro _; rfl
      case d3 => exact ee_nameR (P := dP (.int (l : Nat))) hx n_last (by fail "vis") rfl rfl
      case d4 => fail "ix"
      case d5 => rw [f0]
      case d6 => exact rOf_flat rfl
      case c3 => fail "hA"
      case c4 => intro _; rfl
      case c5 => decide
      case c6 => intro _; rfl
      case c7 => intro _; rfl
  case a5 =>
    refine congrArg PyData.int ?_
    unfold stepM
    cases last with
    | none => show ((ks.ws.getD m default).length : Int) - ((0 : Nat) : Int) = (((ks.ws.getD m default).length - 0 : Nat) : Int); omega
    | some l =>
      have := farM_le (ks.ws.getD l default) (ks.ws.getD m default)
      show ((ks.ws.getD m default).length : Int) - ((farM (ks.ws.getD l default) (ks.ws.getD m default) : Nat) : Int) = (((ks.ws.getD m default).length - farM (ks.ws.getD l default) (ks.ws.getD m default) : Nat) : Int)
      omega

/-! Plan.best -/
--%MATH Mword
--%MATH Mover
--%MATH Mdraw
--%MATH Mws
--%MATH Mlay
--%MATH Mplan
--%LEVEL 19
local macro_rules | `(tactic| fail "rof") => `(tactic| first | exact rOf_flat rfl | exact rOf_flat (lD_flat _) | exact rOf_non rfl | exact rfl)
inductive I_best (n : Nat) : PSt → List PyData → PyData → PSt → Prop
  | mk (ks : PSt) (done : List Nat) (last : Option Nat) (hn : remM ks.ns done ≤ n) (kb : KnB ks.ns ks.kn) (hc : ks.kn.length + cntB n ≤ 15000000) (hm : ∀ m ∈ ks.ns, m < ks.ws.length) (hl : ∀ l, last = some l → l < ks.ws.length) (hg : ∀ w ∈ ks.ws, goodM w)
      (h8 : ks.ns.length ≤ 40) (hd : done.length + remM ks.ns done ≤ 40) : I_best n ks [.tuple (done.map gN), lD last] (gV (bestS ks.ws ks.ns n ks.kn done last).2) ⟨ks.ws, ks.ns, (bestS ks.ws ks.ns n ks.kn done last).1⟩
theorem gN_map2 (l : List Nat) : l.map gN = (l.map fun n : Nat => (n : Int)).map PyData.int := by rw [List.map_map]; rfl
theorem best_step (T : Tx C) {A : Addr} (c : Cl_Plan C A) (n : Nat) (ih : ∀ m, n = m + 1 → OkM C A (m + 11) "best" P_Plan_best (spPM C A (I_best m))) : OkM C A (n + 11) "best" P_Plan_best (spPM C A (I_best n)) := by
  refine ok_PM c.m_best sc_Plan_best (by decide) (fun ks ds r k' h => by cases h; rfl) fun X hx ks ds r k' h hw Z u => ?_
  have n_self : Nm N_Plan_best 0 "self" := ⟨rfl, by decide, by decide⟩
  have n_done : Nm N_Plan_best 1 "done" := ⟨rfl, by decide, by decide⟩
  have n_last : Nm N_Plan_best 2 "last" := ⟨rfl, by decide, by decide⟩
  have n_some : Nm N_Plan_best 3 "some" := ⟨rfl, by decide, by decide⟩
  have n_number : Nm N_Plan_best 4 "number" := ⟨rfl, by decide, by decide⟩
  have n_more : Nm N_Plan_best 5 "more" := ⟨rfl, by decide, by decide⟩
  have n_order : Nm N_Plan_best 6 "order" := ⟨rfl, by decide, by decide⟩
  have b_min := T.b_min
  have b_tuple := T.b_tuple
  have b_sorted := T.b_sorted
  have o_Plan_step := ok_Plan_step T c
  obtain ⟨done, last, hn, kb, hc, hm, hl, hg, h8, hd⟩ := h
  obtain ⟨ws, ns, kn⟩ := ks
  have hn' : remM ns done ≤ n := hn
  have hro : rOf (lD last) [0] = [] := rOf_flat (lD_flat last)
  have hlp := fun pre hp => loop_inv (ws := ws) (ns := ns) (last := last) (recS_ok ws ns n) hn kb pre hp
  show SB X Z _ [none, dc (.tuple (done.map gN)) [0], dc (lD last) (rOf (lD last) [0]), none, none, none, none] _ _ _
  rw [hro]
  refine sb_wide (R' := [0, 1]) (fun r hr => by rw [List.mem_singleton.mp hr]; exact List.mem_cons_self) ?_
  have key : lookK (bestS ws ns n kn done last).1 (done, last) = some (bestS ws ns n kn done last).2 := bestS_key ws ns n kn done last fun h => loop_key ws ns n h
  refine' sb_ifJ (fun E O => (∃ c3 c4 c5 c6, E = [none, dc (.tuple (done.map gN)) [0], dc (lD last) [], c3, c4, c5, c6]) ∧ ∃ Ro : List Nat, Ro.contains 4242 = false ∧ O = [(0, planP C A u ⟨ws, ns, (bestS ws ns n kn done last).1⟩, Ro)]) (et_nnotin (u := u) (ks := ⟨ws, ns, kn⟩) (ky := (done, last)) (R := [0]) hx n_self ?a1 c.cl c.n_known ?a2 List.mem_cons_self ?a3) ?b1 ?b2 ?b3
  case a1 => fail "vis"
  case a2 =>
    refine' EE.sub (R := [0] ++ ([] ++ [])) (ee_tup (ea_consR (R3 := [0]) ?q1 ?q2 (ea_consR (R3 := []) ?q3 ?q4 ea_nil' ?q5) ?q6) ?q7) (fun _ h => h)
    case q1 => fail "hE"
    case q2 => exact rOf_non rfl
    case q3 => exact ee_nameR (P := dP (lD last)) (R' := []) hx n_last (by fail "vis") rfl rfl
    case q4 => exact rOf_flat (lD_flat last)
    case q5 => intro _; rfl
    case q6 => intro _; rfl
    case q7 => rw [sizeLine_eq]; show 2 < 16777216; decide
  case a3 => intro _; rfl
  case b3 =>
    rintro E O ⟨⟨c3, c4, c5, c6, rfl⟩, Ro, hRo, rfl⟩
    refine' sb_ret (ee_ngetp (u := u) (ky := (done, last)) (R := [0]) hx n_self ?g1 c.cl c.n_known ?g2 List.mem_cons_self key ?g3 ?g4) ⟨rfl, hRo, Ro, hRo, rfl⟩
    case g1 => fail "vis"
    case g2 =>
      refine' EE.sub (R := [0] ++ ([] ++ [])) (ee_tup (ea_consR (R3 := [0]) ?q1 ?q2 (ea_consR (R3 := []) ?q3 ?q4 ea_nil' ?q5) ?q6) ?q7) (fun _ h => h)
      case q1 => fail "hE"
      case q2 => exact rOf_non rfl
      case q3 => exact ee_nameR (P := dP (lD last)) (R' := []) hx n_last (by fail "vis") rfl rfl
      case q4 => exact rOf_flat (lD_flat last)
      case q5 => intro _; rfl
      case q6 => intro _; rfl
      case q7 => rw [sizeLine_eq]; show 2 < 16777216; decide
    case g3 => intro _; rfl
    case g4 => exact fun _ _ => rfl
  case b2 =>
    intro hk
    refine sb_nil ⟨⟨_, _, _, _, rfl⟩, [0, 1], rfl, ?_⟩
    rw [bestS_rec]
    unfold bestF
    cases hh : lookK kn (done, last) with
    | none => rw [show lookK (PSt.mk ws ns kn).kn (done, last) = none from hh] at hk; cases hk
    | some v => rfl
  case b1 =>
    intro hk
    have hk : lookK kn (done, last) = none := by
      cases hh : lookK kn (done, last) with
      | none => rfl
      | some v => rw [show lookK (PSt.mk ws ns kn).kn (done, last) = some v from hh] at hk; cases hk
    obtain ⟨lp, hlpd⟩ : ∃ lp : List Nat → Kn × List PVal, lp = fun pre => pre.foldl (stepB ws (recS ws ns n) done last) (kn, []) := ⟨_, rfl⟩
    have hlp : ∀ pre, (∀ m ∈ pre, m ∈ ns) → LoopInv ns n kn done pre (lp pre) := fun pre h => by rw [hlpd]; exact hlp pre h
    have hbs : bestS ws ns n kn done last = ((lp ns).1 ++ [((done, last), bestOf (lp ns).2)], bestOf (lp ns).2) := by
      rw [bestS_rec, hlpd]
      unfold bestF
      rw [hk]
    have hsn : ∀ pre x, lp (pre ++ [x]) = stepB ws (recS ws ns n) done last (lp pre) x := fun pre x => by rw [hlpd]; exact List.foldl_append
    have hl0 : lp [] = (kn, []) := by rw [hlpd]; rfl
    fail "set"
    refine' sb_for1 (w := 904) (l := ns) (g := gN) (Ri := [0, 1]) (fun i E O => ∃ c4 c5 c6, O = [(0, planP C A u ⟨ws, ns, (lp (ns.take i)).1⟩, [0, 1])] ∧ E = [none, dc (.tuple (done.map gN)) [0], dc (lD last) [], dc (.list ((lp (ns.take i)).2.map gV)) [4], c4, c5, c6]) hx n_number ?fq1 ?fq2 (ei_list hx (ee_numbers (u := u) hx n_self ?fq3 c.cl c.n_numbers List.mem_cons_self ?fq4)) ⟨_, _, _, by rw [List.take_zero, hl0], by rw [List.take_zero, hl0]; rfl⟩ ?fq5 ?fq6 ?fq7
    case fq1 => fail "loc"
    case fq2 => fail "locB2"
    case fq3 => fail "vis"
    case fq4 => intro _; rfl
    case fq7 => intro _ _; rfl
    case fq6 =>
      rintro E O ⟨c4, c5, c6, rfl, rfl⟩
      rw [List.take_length]
      have li := hlp ns fun _ h => h
      have lc := li.cnt
      have l2 := li.many
      have hcb : (lp ns).1.length < 16000000 := by
        have h2 : (ns.filter fun m => !done.contains m).length ≤ n := hn
        have : (ns.filter fun m => !done.contains m).length * cntB (n - 1) ≤ cntB n := by
          cases n with
          | zero => rw [show (ns.filter fun m => !done.contains m).length = 0 by omega, Nat.zero_mul]; exact Nat.zero_le _
          | succ m =>
            show _ * cntB m ≤ 1 + (m + 1) * cntB m
            have := Nat.mul_le_mul_right (cntB m) h2
            omega
        have hc' : kn.length + cntB n ≤ 15000000 := hc
        omega
      have hlook : lookK (lp ns).1 (done, last) = none := by
        rw [hlpd]
        exact loop_key ws ns n hk
      have hbl : (bestOf (lp ns).2).2.length < sizeLine := by
        have hle : (bestOf (lp ns).2).2.length ≤ remM ns done := by
          by_cases c : (lp ns).2 = []
          · rw [c]; exact Nat.zero_le _
          · exact (li.len _ (bestOf_mem c)).1
        have h9 : remM ns done ≤ ns.length := List.length_filter_le _ _
        have h8' : ns.length ≤ 40 := h8
        rw [sizeLine_eq]; omega
      refine' sb_nput (u := u) (ks := ⟨ws, ns, (lp ns).1⟩) (ky := (done, last)) (vl := bestOf (lp ns).2) (R := [4]) (R2 := [0]) (Rn := [0, 1, 4]) hx n_self ?v1 c.cl c.n_known (ee_minDf (R1 := [4]) (R2 := []) (ds := (lp ns).2.map gV) (d2 := gV (0, [])) hx b_min ?v2 ?v3 ?v4 (alikeV _) (depthV _) (bestOf_data (lp ns).2) ⟨fun _ h => h, fun _ h => absurd h (by simp)⟩ ?v5 ?v6 ?v7 ?v8 ?v9 ?v10) ?v11 List.mem_cons_self hlook hcb hbl ?v12 ?v13 ?v14 ?v15
      case v1 => fail "vis"
      case v2 => fail "gb"
      case v3 => exact ee_nameR hx n_some (by fail "vis") rfl rfl
      case v4 =>
        refine' EE.sub (R := [] ++ ([] ++ [])) (ee_tup (ea_consR (R3 := []) ee_int ?q2 (ea_consR (R1 := []) (R3 := []) (ee_list ea_nil' ?q3) ?q4 ea_nil' ?q5) ?q6) ?q7) (fun _ h => h)
        case q2 => exact rOf_flat rfl
        case q3 => rw [sizeLine_eq]; show 0 < 16777216; decide
        case q4 => exact rOf_non rfl
        case q5 => intro _; rfl
        case q6 => intro _; rfl
        case q7 => rw [sizeLine_eq]; show 2 < 16777216; decide
      case v5 => intro _; rfl
      case v6 => intro _; rfl
      case v7 => intro _; rfl
      case v8 => intro _; rfl
      case v9 => intro _; rfl
      case v10 => intro _; rfl
      case v11 =>
        refine' EE.sub (R := [0] ++ ([] ++ [])) (ee_tup (ea_consR (R3 := [0]) ?q1 ?q2 (ea_consR (R3 := []) ?q3 ?q4 ea_nil' ?q5) ?q6) ?q7) (fun _ h => h)
        case q1 => fail "hE"
        case q2 => exact rOf_non rfl
        case q3 => exact ee_nameR (P := dP (lD last)) (R' := []) hx n_last (by fail "vis") rfl rfl
        case q4 => exact rOf_flat (lD_flat last)
        case q5 => intro _; rfl
        case q6 => intro _; rfl
        case q7 => rw [sizeLine_eq]; show 2 < 16777216; decide
      case v12 => decide
      case v13 => intro _; rfl
      case v14 => intro _; rfl
      case v15 =>
        refine sb_nil ⟨⟨_, _, _, _, rfl⟩, [0, 1, 4], rfl, ?_⟩
        rw [hbs]; rfl
    case fq5 =>
      rintro i m E O ha _ ⟨c4, c5, c6, rfl, rfl⟩
      refine ⟨rfl, ?_⟩
      have hi : i < ns.length := (List.getElem?_eq_some_iff.mp ha).1
      have hi' : ns[i] = m := (List.getElem?_eq_some_iff.mp ha).2
      have hmn : m ∈ ns := hi' ▸ List.getElem_mem hi
      have li := hlp (ns.take i) fun _ h => List.mem_of_mem_take h
      have hts : lp (ns.take (i + 1)) = stepB ws (recS ws ns n) done last (lp (ns.take i)) m := by rw [List.take_succ_eq_append_getElem hi, hsn, hi']
      have l2 := li.many
      rw [List.length_take] at l2
      have hli := li.kb
      have hlc := li.cnt
      rw [hts]
      generalize hlpi : lp (ns.take i) = a at li l2 hli hlc
      obtain ⟨kn1, sm⟩ := a
      have l2' : sm.length ≤ min i ns.length := l2
      have h8' : ns.length ≤ 40 := h8
      show SB X Z _ [none, dc (.tuple (done.map gN)) [0], dc (lD last) [], dc (.list (sm.map gV)) [4], dc (gN m) [], c5, c6] [(0, planP C A u ⟨ws, ns, kn1⟩, [0, 1])] _ _
      refine' sb_if (b := !done.contains m) (ET.to (et_cmp' (d2 := .tuple ((done.map fun n : Nat => (n : Int)).map PyData.int)) ?t1 (EE.to ?t2 (congrArg PyData.tuple (gN_map2 done))) (of_notinTI hx) ?t3) ?t4) ?t5 ?t6
      case t1 => fail "hE"
      case t2 => fail "hE"
      case t3 => fail "mark"
      case t4 =>
        congr 1
        rw [Bool.eq_iff_iff]
        simp
        exact ⟨fun ⟨a, ha, e⟩ => by
          have : a = m := by omega
          exact this ▸ ha, fun h => ⟨m, h, rfl⟩⟩
      case t6 =>
        intro hb
        have hb : done.contains m = true := by simpa using hb
        refine sb_nil (sb_nil ⟨dc (gN m) [], c5, c6, ?_, ?_⟩)
        · unfold stepB; rw [if_pos hb]
        · unfold stepB; rw [if_pos hb]
      case t5 =>
        intro hb
        have hb : done.contains m = false := by simpa using hb
        have hlt := rem_ins hmn hb
        obtain ⟨n', rfl⟩ : ∃ n', n = n' + 1 := ⟨n - 1, by omega⟩
        have ihn := ih n' rfl
        have hst : stepB ws (recS ws ns (n' + 1)) done last (kn1, sm) m = ((bestS ws ns n' kn1 (insM done m) (some m)).1, sm ++ [(stepM ws last m + (bestS ws ns n' kn1 (insM done m) (some m)).2.1, m :: (bestS ws ns n' kn1 (insM done m) (some m)).2.2)]) := by
          unfold stepB; rw [if_neg (by rw [hb]; exact Bool.false_ne_true)]; rfl
        rw [hst]
        have hcnt : kn1.length + cntB n' ≤ 15000000 := by
          have h2 : (ns.filter fun m => !done.contains m).length ≤ n' + 1 := hn
          have h4 : ((ns.take i).filter fun m => !done.contains m).length + 1 ≤ (ns.filter fun m => !done.contains m).length := by
            have e : ns = ns.take i ++ ns[i] :: ns.drop (i + 1) := by rw [← List.drop_eq_getElem_cons hi, List.take_append_drop]
            conv => rhs; rw [e]
            rw [List.filter_append, List.length_append, List.filter_cons, if_pos (by rw [hi', hb]; rfl), List.length_cons]
            omega
          have hlc' : kn1.length + 1 ≤ kn.length + 1 + ((ns.take i).filter fun m => !done.contains m).length * cntB n' := hlc
          have h5 : (((ns.take i).filter fun m => !done.contains m).length + 1) * cntB n' ≤ (n' + 1) * cntB n' := Nat.mul_le_mul_right _ (Nat.le_trans h4 h2)
          rw [Nat.add_mul, Nat.one_mul] at h5
          have hc' : kn.length + (1 + (n' + 1) * cntB n') ≤ 15000000 := hc
          omega
        have hd' : (insM done m).length + remM ns (insM done m) ≤ 40 := by
          rw [ins_len]
          have hd2 : done.length + remM ns done ≤ 40 := hd
          omega
        have hdl : done.length ≤ 40 := by
          have hd2 : done.length + remM ns done ≤ 40 := hd
          omega
        have bi := bestS_inv ws ns n' kn1 (insM done m) (some m) (by have : remM ns done ≤ n' + 1 := hn; omega) hli
        have hIb : I_best n' ⟨ws, ns, kn1⟩ [.tuple ((insM done m).map gN), lD (some m)] (gV (bestS ws ns n' kn1 (insM done m) (some m)).2) ⟨ws, ns, (bestS ws ns n' kn1 (insM done m) (some m)).1⟩ :=
          .mk ⟨ws, ns, kn1⟩ (insM done m) (some m) (by have : remM ns done ≤ n' + 1 := hn; show remM ns (insM done m) ≤ n'; omega) hli hcnt hm (fun l e => by cases e; exact hm m hmn) hg h8 hd'
        have bl := bi.len
        have hrl : remM ns (insM done m) ≤ 40 := by
          have := ins_len done m
          omega
        generalize bestS ws ns n' kn1 (insM done m) (some m) = r at bi hIb bl
        obtain ⟨kn2, sg, od⟩ := r
        have hol : od.length ≤ 40 := Nat.le_trans bl hrl
        refine' sb_unpack2 (d1 := .int (sg : Nat)) (d2 := .list (od.map gN)) (R := [0, 1]) (O' := updC [(0, planP C A u ⟨ws, ns, kn1⟩, [0, 1])] 0 (planP C A u ⟨ws, ns, kn2⟩) [0, 1]) hx n_more n_order ?u1 ?u2 ?u3 ?u4 (ee_pm (u := u) (ks := ⟨ws, ns, kn1⟩) (k' := ⟨ws, ns, kn2⟩) (Rk := [0, 1]) (R := []) hx ihn ?p1 c.cl n_self ?p2 List.mem_cons_self (EA.sub ?p3 ?p31) (fun _ => hIb) ?p4 ?p5 ?p6 ?p7 ?p8 ?p9 ?p10) ?u5 ?u6 ?u7 ?u8 ?u9
        case u1 => fail "loc"
        case u2 => fail "loc"
        case u3 => fail "locB2"
        case u4 => fail "locB2"
        case p1 => fail "lvl"
        case p2 => fail "vis"
        case p3 =>
          refine' ea_consR (R1 := []) (R3 := []) (EE.to (ee_ct (ds := [.list (((insM done m).map fun n : Nat => (n : Int)).map PyData.int)]) (d := .tuple (((insM done m).map fun n : Nat => (n : Int)).map PyData.int)) hx b_tuple ?w1 ?w2 (ea_consR (R3 := []) (ee_sortT (ns := (done ++ [m]).map fun n : Nat => (n : Int)) (ms := (insM done m).map fun n : Nat => (n : Int)) hx b_sorted ?w3 (EE.to (d1 := .tuple (done.map gN ++ [gN m])) ?w4 ?w5) ((ins_perm done m).map _) ?w6 ?w7 ?w8) ?w9 ea_nil' ?w10) (cf_tupleMF hx fun _ => rfl) ?w11 ?w12 ?w13 ?w14) (congrArg PyData.tuple (gN_map2 _)).symm) ?w15 (ea_consR (R3 := []) ?w16 ?w17 ea_nil' ?w18) ?w19
          case w1 => fail "gb"
          case w2 => fail "dec"
          case w3 => fail "gb"
          case w4 =>
            refine' ee_catT (R1 := [0]) (R2 := []) hx ?x1 (EE.to (ee_tup (ea_consR (R3 := []) ?x2 ?x3 ea_nil' ?x4) ?x5) ?x6) ?x7
            case x1 => exact ee_nameR hx n_done (by fail "vis") rfl rfl
            case x2 => exact ee_nameR (P := dP (gN m)) hx n_number (by fail "vis") rfl rfl
            case x3 => exact rOf_flat rfl
            case x4 => intro _; rfl
            case x5 => rw [sizeLine_eq]; show 1 < 16777216; decide
            case x6 => rfl
            case x7 => rw [List.length_map, sizeLine_eq]; show done.length + 1 < 16777216; omega
          case w5 =>
            refine congrArg PyData.tuple ?_
            rw [← gN_map2, List.map_append]; rfl
          case w6 => exact List.pairwise_map.mpr ((ins_le done m).imp fun {a b} h => by omega)
          case w7 => intro _; rfl
          case w8 => intro _; rfl
          case w9 => exact rOf_non rfl
          case w10 => intro _; rfl
          case w11 => decide
          case w12 => decide
          case w13 => intro _; rfl
          case w14 => intro _; rfl
          case w15 => exact rOf_non rfl
          case w16 => exact ee_nameR (P := dP (gN m)) hx n_number (by fail "vis") rfl rfl
          case w17 => exact rOf_flat rfl
          case w18 => intro _; rfl
          case w19 => intro _; rfl
        case p31 => exact fun _ h => h
        case p4 => decide
        case p5 => decide
        case p6 => decide
        case p7 => decide
        case p8 => intro _; rfl
        case p9 => intro _; rfl
        case p10 => intro _; rfl
        case u5 => rfl
        case u7 => intro _; rfl
        case u8 => intro _; rfl
        case u9 => intro _; rfl
        case u6 =>
          have hIs : I_step ⟨ws, ns, kn2⟩ [lD last, .int (m : Nat)] (.int (stepM ws last m : Nat)) ⟨ws, ns, kn2⟩ := .mk ⟨ws, ns, kn2⟩ last m (hm m hmn) hl hg
          show SB X Z _ [none, dc (.tuple (done.map gN)) [0], dc (lD last) [], dc (.list (sm.map gV)) [4], dc (gN m) [], dc (.int (sg : Nat)) [], dc (.list (od.map gN)) _] [(0, planP C A u ⟨ws, ns, kn2⟩, [0, 1])] _ _
          refine' sb_append (d := gV (stepM ws last m + sg, m :: od)) (Rv := []) (R' := [4]) (O' := updC [(0, planP C A u ⟨ws, ns, kn2⟩, [0, 1])] 0 (planP C A u ⟨ws, ns, kn2⟩) [0, 1]) hx n_some ?y1 rfl (EE.to (d1 := .tuple [.int ((stepM ws last m : Nat) + (sg : Nat)), .list (([m] ++ od).map gN)]) (ee_tup (EA.sub (ea_consR (R3 := []) (ee_bin (ee_pm (u := u) (ks := ⟨ws, ns, kn2⟩) (k' := ⟨ws, ns, kn2⟩) (Rk := [0, 1]) (Rn := [0, 1]) (R := []) hx o_Plan_step ?z1 c.cl n_self ?z2 List.mem_cons_self (EA.sub (ea_consR (R3 := []) ?z3 ?z31 (ea_consR (R3 := []) ?z32 ?z33 ea_nil' ?z34) ?z35) ?z36) (fun _ => hIs) ?z4 ?z5 ?z6 ?z7 ?z8 ?z9 ?z10) ?y2 of_add) ?y3 (ea_consR (R3 := []) (ee_bin (EE.to (d2 := .list (([m] : List Nat).map gN)) (ee_list (ea_consR (R3 := []) ?y4 ?y41 ea_nil' ?y42) ?y43) rfl) ?y5 (of_catMF ?y6 (fun _ => rfl))) ?y7 ea_nil' ?y8) ?y9) ?y91) ?y10) ?y11) rfl rfl rfl (Or.inr rfl) rfl ?y12 ?y13 ?y14 ?y15 ?y16 ?y17 ?y18
          case y1 => fail "vis"
          case z1 => fail "lvl"
          case z2 => fail "vis"
          case z3 => exact ee_nameR (P := dP (lD last)) (R' := []) hx n_last (by fail "vis") rfl rfl
          case z31 => exact rOf_flat (lD_flat last)
          case z32 => exact ee_nameR (P := dP (gN m)) hx n_number (by fail "vis") rfl rfl
          case z33 => exact rOf_flat rfl
          case z34 => intro _; rfl
          case z35 => intro _; rfl
          case z36 => exact fun _ h => h
          case z4 => decide
          case z5 => decide
          case z6 => decide
          case z7 => decide
          case z8 => intro _; rfl
          case z9 => intro _; rfl
          case z10 => intro _; rfl
          case y2 => exact ee_nameR (P := dP (.int (sg : Nat))) hx n_more (by fail "vis") rfl rfl
          case y3 => exact rOf_flat rfl
          case y4 => exact ee_nameR (P := dP (gN m)) hx n_number (by fail "vis") rfl rfl
          case y41 => exact rOf_flat rfl
          case y42 => intro _; rfl
          case y43 => rw [sizeLine_eq]; show 1 < 16777216; decide
          case y5 => exact ee_nameR hx n_order (by fail "vis") rfl rfl
          case y6 => show 1 + od.length < _; rw [sizeLine_eq]; omega
          case y7 => exact rOf_non rfl
          case y8 => intro _; rfl
          case y9 => intro _; rfl
          case y91 => exact fun _ h => h
          case y10 => rw [sizeLine_eq]; show 2 < 16777216; decide
          case y11 => rfl
          case y12 => rw [List.length_map, sizeLine_eq]; omega
          case y14 => intro _; rfl
          case y15 => intro _; rfl
          case y16 => rfl
          case y17 => intro _; rfl
          case y18 => intro _; rfl
          case y13 =>
            refine' sb_nil (sb_nil ⟨?yc4, ?yc5, ?yc6, rfl, ?yce⟩)
            case yce =>
              rw [List.map_append]
              rfl
theorem best_all (T : Tx C) {A : Addr} (c : Cl_Plan C A) : ∀ n, OkM C A (n + 11) "best" P_Plan_best (spPM C A (I_best n))
  | 0 => best_step T c 0 fun m h => absurd h (by omega)
  | n + 1 => best_step T c (n + 1) fun m h => by
    obtain rfl : n = m := by omega
    exact best_all T c n
theorem ok_Plan_best (T : Tx C) {A : Addr} (c : Cl_Plan C A) : OkM C A 19 "best" P_Plan_best (spPM C A (I_best 8)) := best_all T c 8

/-! best -/
--%MATH Mword
--%MATH Mover
--%MATH Mdraw
--%MATH Mws
--%MATH Mlay
--%MATH Mleast
--%MATH Mrows
--%MATH Mplan
inductive A_best : List PyData → PyData → Prop
  | mk (ws : List (List Nat)) (g : Ws ws) (h8 : (freeM ws).length ≤ 8) : A_best [.list (ws.map dS)] (bestD ws)
theorem ok_best (T : Tx C) : Ok C 20 "best" P_best (spW A_best) := by
  refine ok_W T.d_best sc_best (by decide) (fun ds r h => by cases h; rfl) fun X hx ds r h hw Z => ?_
  have n_words : Nm N_best 0 "words" := ⟨rfl, by decide, by decide⟩
  have n_plan : Nm N_best 1 "plan" := ⟨rfl, by decide, by decide⟩
  have n_room : Nm N_best 2 "room" := ⟨rfl, by decide, by decide⟩
  have n_order : Nm N_best 3 "order" := ⟨rfl, by decide, by decide⟩
  have n_number : Nm N_best 4 "number" := ⟨rfl, by decide, by decide⟩
  have b_list := T.b_list
  have o_gone := okw_gone T
  have o_need_few := ok_need_few T
  obtain ⟨A_Plan, c_Plan⟩ := T.c_Plan
  have o_Plan___init__ := ok_Plan___init__ T c_Plan
  have o_Plan_step := ok_Plan_step T c_Plan
  have o_Plan_best := ok_Plan_best T c_Plan
  obtain ⟨ws, g, h8⟩ := h
  have g1 := g.good
  have g2 := g.len
  have bi := best_inv8 h8
  have cmg := c_Plan.mg
  have hmem : ∀ n ∈ (bestV ws).2, n < ws.length := fun n hn => free_lt n (bi.mem n hn)
  have hol : (bestV ws).2.length ≤ 8 := by
    have := bi.len
    rw [rem_nil] at this
    exact Nat.le_trans this h8
  show SB X Z _ [dc (.list (ws.map dS)) [0], none, none, none, none] _ _ _
  refine' sb_makeP (ws := ws) (ns := freeM ws) (Rn := [0, 2]) hx o_Plan___init__ ?k1 ?k2 cmg n_plan ?k3 ?k4 ?k5 ?k6 ?k65 ?k7 ?k8 ?k9 ?k10 ?k11 ?k12
  case k1 => fail "lvl"
  case k2 => fail "gb"
  case k3 => fail "loc"
  case k4 => fail "locB2"
  case k5 => show 1 < 5; decide
  case k6 => fail "hA"
  case k65 => rfl
  case k7 => exact ⟨by decide, by decide⟩
  case k8 => intro _; rfl
  case k9 => decide
  case k10 => intro _; rfl
  case k11 => intro _; rfl
  case k12 =>
    intro u
    show SB X Z _ [dc (.list (ws.map dS)) [0], none, none, none, none] [(1, planP C A_Plan u ⟨ws, freeM ws, []⟩, [0, 2])] _ _
    have hI : I_best 8 ⟨ws, freeM ws, []⟩ [.tuple (([] : List Nat).map gN), lD none] (gV (bestV ws)) ⟨ws, freeM ws, (bestS ws (freeM ws) 8 [] [] none).1⟩ :=
      .mk ⟨ws, freeM ws, []⟩ [] none (by rw [rem_nil]; exact h8) (fun e he => absurd he (by simp)) (by show 0 + cntB 8 ≤ 15000000; decide) (fun m hm => free_lt m hm) (fun l e => nomatch e) g1 (by show (freeM ws).length ≤ 40; omega) (by rw [rem_nil]; show 0 + (freeM ws).length ≤ 40; omega)
    refine' sb_unpack2 (d1 := .int ((bestV ws).1 : Nat)) (d2 := .list ((bestV ws).2.map gN)) (R := [0, 2]) (O' := updC [(1, planP C A_Plan u ⟨ws, freeM ws, []⟩, [0, 2])] 1 (planP C A_Plan u ⟨ws, freeM ws, (bestS ws (freeM ws) 8 [] [] none).1⟩) [0, 2]) hx n_room n_order ?u1 ?u2 ?u3 ?u4 (ee_pm (u := u) (ks := ⟨ws, freeM ws, []⟩) (k' := ⟨ws, freeM ws, (bestS ws (freeM ws) 8 [] [] none).1⟩) (Rk := [0, 2]) (R := []) hx o_Plan_best ?p1 c_Plan.cl n_plan ?p2 List.mem_cons_self ?p3 (fun _ => hI) ?p4 ?p5 ?p6 ?p7 ?p8 ?p9 ?p10) ?u5 ?u6 ?u7 ?u8 ?u9
    case u1 => fail "loc"
    case u2 => fail "loc"
    case u3 => fail "locB2"
    case u4 => fail "locB2"
    case p1 => fail "lvl"
    case p2 => fail "vis"
    case p3 =>
      refine' ea_consR (R1 := []) (R3 := []) (ee_tup ea_nil' ?z1) ?z2 (ea_consR (R1 := []) (R3 := []) ee_non ?z3 ea_nil' ?z4) ?z5
      case z1 => rw [sizeLine_eq]; show 0 < 16777216; decide
      case z2 => exact rOf_non rfl
      case z3 => exact rOf_flat rfl
      case z4 => intro _; rfl
      case z5 => intro _; rfl
    case p4 => exact ⟨fun _ h => h, fun _ h => absurd h (by simp), by decide⟩
    case p5 => decide
    case p6 => decide
    case p7 => decide
    case p8 => intro _; rfl
    case p9 => intro _; rfl
    case p10 => intro _; rfl
    case u5 => rfl
    case u7 => intro _; rfl
    case u8 => intro _; rfl
    case u9 => intro _; rfl
    case u6 =>
      show SB X Z _ [dc (.list (ws.map dS)) [0], none, dc (.int ((bestV ws).1 : Nat)) [], dc (.list ((bestV ws).2.map gN)) [3, 0, 2], none] _ _ _
      obtain ⟨ord, hord⟩ : ∃ ord, ord = (bestV ws).2 := ⟨_, rfl⟩
      have hG : ∀ w ∈ ord.map (fun n => ws.getD n default), goodM w := fun w hw => by
        obtain ⟨n, hn, rfl⟩ := List.mem_map.mp hw
        exact g1 _ (getD_memL (hmem n (hord ▸ hn)))
      unfold bestD
      rw [← hord] at hmem hol ⊢
      refine' sb_ret (P := dP _) (ee_tup (ea_consR (R1 := []) (R3 := []) ?a1 ?a2 (ea_consR (R1 := []) (R3 := []) ?a3 ?a4 (ea_consR (R1 := []) (R3 := []) ?a5 ?a6 ea_nil' ?a7) ?a8) ?a9) ?a10) ⟨rfl, rfl⟩
      case a1 => fail "hE"
      case a2 => exact rOf_flat rfl
      case a3 => fail "hE"
      case a4 => exact rOf_non rfl
      case a6 => exact rOf_flat rfl
      case a7 => intro _; rfl
      case a8 => intro _; rfl
      case a9 => intro _; rfl
      case a10 => rw [sizeLine_eq]; show 3 < 16777216; decide
      case a5 =>
        have hA : A_gone [.list ((ord.map fun n => ws.getD n default).map dS)] (.tuple [dS (layM (ord.map fun n => ws.getD n default)).1, .list ((layM (ord.map fun n => ws.getD n default)).2.map gN), .list ((resM (ord.map fun n => ws.getD n default)).map gR)]) := .mk _ hG (by rw [List.length_map]; omega)
        refine' ee_ixT0 hx (ee_call hx o_gone ?yk1 ?yk2 (EA.sub (ea_consR (R1 := []) (R3 := []) (EE.to (ee_lc0 (l := ord) (g := gN) (f := fun n => dS (ws.getD n default)) (Re := []) hx n_number ?yc1 ?yc2 ?yc3 (ei_list hx ?yc4) ?yc5 ?yc6 ?yc7 ?yc8) ?yc9) ?yk31 ea_nil' ?yk32) ?yk33) (fun _ => hA) ?yk5 ?yk6 ?yk7)
        case yk1 => fail "lvl"
        case yk2 => fail "gb"
        case yc1 => fail "loc"
        case yc2 => fail "locB"
        case yc3 => fail "dec"
        case yc4 => fail "hE"
        case yc5 => rfl
        case yc6 => rw [sizeLine_eq]; omega
        case yc8 => intro _ _; rfl
        case yc7 =>
          intro n hn hwf hxb
          have hn' := hmem n hn
          refine' EE.to (d1 := dS (ws.getD ((n : Nat) : Int).toNat default)) ?yd1 ?yd2
          case yd1 => fail "hE"
          case yd2 => rw [Int.toNat_natCast]
        case yc9 => rw [List.map_map]; rfl
        case yk31 => rfl
        case yk32 => intro _; rfl
        case yk33 => exact fun _ h => h
        case yk5 => decide
        case yk6 => intro _; rfl
        case yk7 => intro _; rfl

/-! begun -/
theorem ok_begun (T : Tx C) : Ok C 1 "_law_begun" P_begun (spBegun C.K) := by
  obtain ⟨f, fd, hm, hf, hb⟩ := T.d_begun.ex
  refine ⟨f, fd, hm, hf.kp, hb, ?_⟩
  refine hf.ok sc_begun (fun vs H Q E h => ?_) (fun cdv A outer s H vs Q E hr h => ?_)
  · obtain ⟨a, ns, rfl, _⟩ := h; rfl
  · obtain ⟨a, ns, rfl, hS, h63, q⟩ := h
    refine ⟨_, pss_cons (ps_set (i := 1) sc_begun.nd rfl (Or.inl rfl) pe_int)
      (pss_cons (ps_for PassesOwn.never rfl (pi_list (pv 0)) (pg_name (i := 2) sc_begun.nd rfl (Or.inl rfl))
        (pss_one (ps_set (i := 1) sc_begun.nd rfl (Or.inl rfl) (pe_op op_mod (pe_op op_add (pe_op op_add (pe_op op_mul (pv 1) pe_int) (pe_op op_mul (pv 2) pe_int)) pe_int) pe_int))))
      (pss_one (ps_ret (pe_lst (pa_cons (pe_callTy call_list_of (by rfl) T.b_list (by decide +kernel) (pa_cons (pv 0) pa_nil))
        (pa_cons (pe_op op_mul (pv 1) (pe_callTy call_int1 (by rfl) T.b_int (by decide +kernel) (pa_cons (pe_cmpR op_gt (pe_callB call_len_seq (by rfl) T.b_len PySem.boot_len (pa_cons (pv 0) pa_nil)) pe_int (nomark _)) pa_nil))) pa_nil)))))), ?_⟩
    refine ⟨_, rfl, a, rfl, ⟨_, hS⟩, for_list (K := C.K) (a := a) (xs := ns.map V.int) (fun i σ H' => ∃ (st : Int) (v : Option V), σ = [some (.ref a), some (.int st), v] ∧ H' = H) ⟨0, none, rfl, rfl⟩ (fun i σ H' _ ⟨_, _, _, e⟩ => by rw [e]; exact hS) ?_ ?_⟩
    · rintro i y σ H' hi ⟨st, v, rfl, rfl⟩
      obtain ⟨z, hz, rfl⟩ : ∃ z, ns[i]? = some z ∧ y = V.int z := by
        rw [List.getElem?_map] at hi
        cases e : ns[i]? with
        | none => rw [e] at hi; cases hi
        | some z => rw [e] at hi; exact ⟨z, rfl, (Option.some.inj hi).symm⟩
      exact ⟨_, rfl, _, _, rfl, rfl, .inr (by decide), _, rfl, _, _, rfl, rfl, .inr (by decide), _, _, rfl, rfl, _, _, rfl, rfl, _, _, rfl, rfl, (by show (0 : Int) < 2147483647; decide), _, _, rfl, rfl⟩
    · rintro σ H' ⟨st, v, rfl, rfl⟩
      refine ⟨_, rfl, a, _, rfl, .inl hS, fun l hl => ?_⟩
      have s1 : Same H' (upd H' l (.lst (ns.map V.int))) := same_new hl
      refine ⟨_, rfl, _, rfl, a, _, rfl, .inl (s1.seq hS), _, _, rfl, rfl, .inr ⟨_, rfl, _, _, rfl, rfl, .inr (by split <;> decide), (by show 2 ≤ sizeLine; rw [sizeLine_eq]; omega), fun p hp => ?_⟩⟩
      have np : l ≠ p := fun z => by rw [← z, upd_same] at hp; cases hp
      refine q p l _ _ (s1.trans (same_new hp)) (s1.free hp) hl (Ne.symm np) upd_same ?_
      rw [upd_ne np, upd_same]

/-! take -/
inductive A_take : List PyData → Bx → PyData → Bx → Prop
  | mk (m : Int) (s : Bx) (h0 : 0 < m) (h1 : m < 1073741824) : A_take [.int m] s (.int (takeV s m)) (takeB s m)
theorem ok_take (T : Tx C) : Ok C 1 "_law_take" P_take (spBox A_take) := by
  obtain ⟨f, fd, hm, hf, hb⟩ := T.d_take.ex
  refine ⟨f, fd, hm, hf.kp, hb, ?_⟩
  refine hf.ok sc_take (fun vs H Q E h => ?_) (fun cdv A outer s H vs Q E hr h => ?_)
  · obtain ⟨b, l, rest, ds, s, s', r, F, rfl, _, _, _, _, _, _, hd, ha, _⟩ := h
    cases ha
    rw [List.length_cons, hd.length]; rfl
  · obtain ⟨b, l, rest, ds, bx, bx', r, F, rfl, hne, hB, hL, hF, hFb, hFl, hd, ha, q⟩ := h
    obtain ⟨m, _, h0, h1⟩ := ha
    obtain ⟨v0, _, rfl, a0, hd⟩ := hd.inv
    obtain rfl := hd.end_
    obtain rfl := a0.scal rfl
    refine ⟨_, pss_cons (ps_if (pt_cmpR (op_eqD hr.units) (pe_ix ix_list (pv 0) pe_int (fun _ _ => rfl)) (pe_lst pa_nil) (nomark _))
        (pss_cons (ps_asg (pe_op op_mod (pe_op op_mul (pe_ix ix_list (pv 0) pe_int (fun _ _ => rfl)) pe_int) pe_int) (pg_sub (pv 0) pe_int set_list))
          (pss_one (ps_ret (pe_op op_mod (pe_op op_fdiv (pe_ix ix_list (pv 0) pe_int (fun _ _ => rfl)) pe_int) (pv 1))))) pss_nil)
      (pss_cons (ps_set (i := 2) sc_take.nd rfl (Or.inl rfl) (pe_ix ix_list (pe_ix ix_list (pv 0) pe_int (fun _ _ => rfl)) pe_int (fun _ _ => rfl)))
      (pss_cons (ps_asg (pe_op op_fdiv (pv 2) (pv 1)) (pg_sub (pe_ix ix_list (pv 0) pe_int (fun _ _ => rfl)) pe_int set_list))
      (pss_cons (ps_if (PW.pt (pw_or (pt_cmpR op_eq (pe_ix ix_list (pe_ix ix_list (pv 0) pe_int (fun _ _ => rfl)) pe_int (fun _ _ => rfl)) pe_int (nomark _))
          (pw_or1 (pt_cmpR op_eq (pe_ix ix_list (pe_ix ix_list (pv 0) pe_int (fun _ _ => rfl)) pe_int (fun _ _ => rfl)) (pe_un un_neg pe_int) (nomark _)))))
          (pss_one (ps_expr (pe_bm PySem.F.plainAttrs_list PySem.F.slot_list_pop PySem.F.type_list_pop mt_popAt (pe_ix ix_list (pv 0) pe_int (fun _ _ => rfl)) (pa_cons pe_int pa_nil)))) pss_nil)
      (pss_one (ps_ret (pe_op op_mod (pv 2) (pv 1))))))), ?_⟩
    refine ⟨_, rfl, b, _, 0, _, rfl, rfl, SqL.of hB, rfl, (by show 0 ≤ sizeLine; omega), fun p hp => ?_⟩
    have npb : b ≠ p := ne_of_none hB hp
    have npl : l ≠ p := ne_of_none hL hp
    have g1 : ∀ o, (upd H p o) b = some (.lst [.ref l, .int bx.2]) := fun o => by rw [upd_ne npb]; exact hB
    have g2 : ∀ o, (upd H p o) l = some (.lst (bx.1.map .int)) := fun o => by rw [upd_ne npl]; exact hL
    have keepp : ∀ (o : HO) x u, H x = some u → (upd H p o) x = some u := fun o x u e => by rw [upd_ne (ne_of_none e hp)]; exact e
    refine ⟨.list (bx.1.map .int), .list [], (Fd.dp _ (.lst (S := Any) trivial (g2 _) (FdA.ints _))), .lst (SqL.of upd_same) .nil, shIs _, rfl, _, rfl, ?_⟩
    rw [eqv_nil, List.isEmpty_map]
    obtain ⟨ns, st⟩ := bx
    cases ns with
    | nil =>
      refine iteT ?_
      refine ⟨_, rfl, b, _, 1, _, rfl, rfl, SqL.of (g1 _), rfl, _, _, rfl, rfl, .inr (by decide), _, _, rfl, rfl, (by show (0 : Int) < 2147483647; decide), _, rfl, b, _, 1, 1, rfl, rfl, g1 _, rfl, ?_⟩
      refine ⟨_, rfl, b, _, 1, _, rfl, rfl, SqL.of upd_same, rfl, _, _, rfl, rfl, ⟨by decide, by decide⟩, _, rfl, _, _, rfl, rfl, h0, ?_⟩
      refine q _ _ (fun x o h2 h3 e => ?_) upd_same ?_ (.int _)
      · rw [upd_ne h2]; exact keepp _ x o e
      · rw [upd_ne (Ne.symm hne)]; exact g2 _
    | cons n ns =>
      refine iteF ?_
      refine ⟨_, rfl, b, _, 0, _, rfl, rfl, SqL.of (g1 _), rfl, l, _, 0, _, rfl, rfl, SqL.of (g2 _), atI_hd _ _, ?_⟩
      refine ⟨_, rfl, _, rfl, _, _, rfl, rfl, ⟨h0, h1⟩, _, rfl, b, _, 0, _, rfl, rfl, SqL.of (g1 _), rfl, l, _, 0, 0, rfl, rfl, g2 _, ixN_hd _, ?_⟩
      have k1 : (upd (upd H p (.lst [])) l (.lst (((n :: ns).map V.int).set 0 (.int (n / m))))) b = some (.lst [.ref l, .int st]) := by rw [upd_ne hne]; exact g1 _
      refine ⟨_, rfl, b, _, 0, _, rfl, rfl, SqL.of k1, rfl, l, _, 0, _, rfl, rfl, SqL.of upd_same, atI_hd _ _, rfl, _, rfl, ?_⟩
      have fin : ∀ (H' : Hp) (ns' : List Int), H' b = some (.lst [.ref l, .int st]) → H' l = some (.lst (ns'.map .int)) → (∀ x o, x ≠ b → x ≠ l → H x = some o → H' x = some o) → takeB (n :: ns, st) m = (ns', st) →
          tRet (tOp (rI (fun _ j => 0 < j) fun i j => .int (i % j)) (tVar 2) (tVar 1)) { nx := fun _ H' => Q .non H', rt := Q } [some (.ref b), some (.int m), some (.int n)] H' := fun H' ns' e1 e2 e3 e4 => by
        refine ⟨_, rfl, _, rfl, _, _, rfl, rfl, h0, ?_⟩
        rw [e4] at q
        exact q _ H' e3 e1 e2 (.int _)
      by_cases c : n / m = 0
      · rw [show decide (V.int (n / m) = V.int 0) = true from decide_eq_true (by rw [c])]
        refine iteT (iteT ?_)
        refine ⟨_, rfl, b, _, 0, _, rfl, rfl, SqL.of k1, rfl, .inl ⟨rfl, _, SqL.of upd_same⟩, l, _, 0, 0, _, rfl, rfl, upd_same, by decide, by decide, seqIx_hd _, rfl, ?_⟩
        refine fin _ ns ?_ ?_ ?_ ?_
        · rw [upd_ne hne]; exact k1
        · rw [upd_same]; rfl
        · intro x o h2 h3 e; rw [upd_ne h3, upd_ne h3]; exact keepp _ x o e
        · show (if _ then _ else _) = _; rw [if_pos (.inl c)]
      · rw [show decide (V.int (n / m) = V.int 0) = false from decide_eq_false (fun z => c (V.int.inj z))]
        refine iteF ?_
        refine ⟨_, rfl, b, _, 0, _, rfl, rfl, SqL.of k1, rfl, l, _, 0, _, rfl, rfl, SqL.of upd_same, atI_hd _ _, _, rfl, rfl, _, rfl, ?_⟩
        by_cases c2 : n / m = -1
        · rw [show decide (V.int (n / m) = V.int (-1)) = true from decide_eq_true (by rw [c2])]
          refine iteT ?_
          refine ⟨_, rfl, b, _, 0, _, rfl, rfl, SqL.of k1, rfl, .inl ⟨rfl, _, SqL.of upd_same⟩, l, _, 0, 0, _, rfl, rfl, upd_same, by decide, by decide, seqIx_hd _, rfl, ?_⟩
          refine fin _ ns ?_ ?_ ?_ ?_
          · rw [upd_ne hne]; exact k1
          · rw [upd_same]; rfl
          · intro x o h2 h3 e; rw [upd_ne h3, upd_ne h3]; exact keepp _ x o e
          · show (if _ then _ else _) = _; rw [if_pos (.inr c2)]
        · rw [show decide (V.int (n / m) = V.int (-1)) = false from decide_eq_false (fun z => c2 (V.int.inj z))]
          refine iteF ?_
          refine fin _ (n / m :: ns) k1 ?_ ?_ ?_
          · rw [upd_same]; rfl
          · intro x o h2 h3 e; rw [upd_ne h3]; exact keepp _ x o e
          · show (if _ then _ else _) = _; rw [if_neg (by simp [c, c2])]

/-! word -/
--%MATH Mword
--%MATH Mdraw
inductive A_word : List PyData → Bx → PyData → Bx → Prop
  | mk (letters : List Nat) (most : Int) (s : Bx) (hl : letters ≠ []) (hl1 : letters.length ≤ 100) (ok : okW letters) (h0 : 0 < most) (h1 : most ≤ 1000) : A_word [dS letters, .int most] s (dS (wordV letters most s)) (wordB letters most s)
theorem ok_word (T : Tx C) : Ok C 2 "_law_word" P_word (spBox A_word) := by
  refine ok_box T.d_word sc_word (fun ds s r s' h => by cases h; rfl) fun X hx ds s r s' h b l F U vs hne hFb hFl hv hU D hr hn => ?_
  have n_box : Nm N_word 0 "_law_box" := ⟨rfl, by decide, by decide⟩
  have n_letters : Nm N_word 1 "_law_letters" := ⟨rfl, by decide, by decide⟩
  have n_most : Nm N_word 2 "_law_most" := ⟨rfl, by decide, by decide⟩
  have n_k : Nm N_word 3 "_law_k" := ⟨rfl, by decide, by decide⟩
  have b_len := T.b_len
  have b_range := T.b_range
  have o_take := ok_take T
  obtain ⟨letters, most, s, hl, hl1, ok, h0, h1⟩ := h
  obtain ⟨v0, _, rfl, a0, hv⟩ := hv.inv
  obtain ⟨v1, _, rfl, a1, hv⟩ := hv.inv
  obtain rfl := hv.end_
  obtain rfl := a0.scal rfl
  obtain rfl := a1.scal rfl
  have hb := takeV_nn s (m := most) h0
  have hlp : 0 < letters.length := List.length_pos_iff.mpr hl
  have hn := wordN_le (s := s) h0
  refine ex_ret ?_ hr
  have e : wordV letters most s = (((List.range (wordN most s)).map fun k => [drawV letters (takeB s most) k])).flatten := (flatten_one _ _).symm
  rw [e]
  refine' ev_join0 hx ?a ?b ?z
  case a => exact ev_strT
  case z =>
    rw [List.map_map]
    have : ((fun x => x.length) ∘ fun k => [drawV letters (takeB s most) k]) = fun _ : Nat => 1 := rfl
    rw [this, List.map_const', List.length_range, List.sum_replicate_nat]
    omega
  case b =>
    have hsrc : (rangeD (1 + takeV s most).toNat).length = wordN most s := by unfold rangeD; rw [List.length_map, List.length_range]; rfl
    refine' EvD.cast (ev_lcG (own := [("_law_k", 3)]) (un := un1) (src := rangeD (1 + takeV s most).toNat) (Ms := fun n => boxM b l (drawS letters.length (takeB s most) n)) (pr := fun _ => true) (f := fun n => dS [drawV letters (takeB s most) n])
      hx ?hi ?ok ?tg ?hun ?hT ?hz ?ht ?he ?hs) ?q1 ?q2
    case q1 => rw [hsrc, kept_all, List.map_map]; rfl
    case q2 => rw [hsrc]; rfl
    case ok => decide +kernel
    case tg => exact tg_name (hx.blk _) n_k (Or.inl rfl) (Or.inr rfl)
    case hun => exact fun n d _ => ⟨[d], rfl, rfl⟩
    case hT => exact fun _ _ => trivial
    case hs => intro _ _; rfl
    case hi => fail "it"
    case hz => rw [hsrc, sizeLine_eq]; omega
    case ht =>
      intro n d es vs F1 m hd hu f1 r
      exact ets_nil
    case he =>
      intro n d es vs F1 m hd hu f1 r _
      cases hu
      obtain ⟨v, rfl, rv⟩ := r.one
      have hb2 := takeV_nn (drawS letters.length (takeB s most) n) (m := (letters.length : Int)) (by omega)
      refine EvD.inb hx fun hxb => ?_
      refine' ev_ixSn ?e1 ?e2 ?e3 ?e4 ?e5 ?e6
      case e1 => exact ev_name hxb n_letters (by fail "vis") rfl (Fd.str _)
      case e2 =>
        fail "ev"
      case e3 => rw [sizeLine_eq]; omega
      case e4 => exact hb2.1
      case e5 => exact hb2.2
      case e6 => exact fun _ _ => rfl

/-! words -/
--%MATH Mword
--%MATH Mover
--%MATH Mdraw
--%MATH Mws
--%MATH Mlay
--%MATH Mleast
--%MATH Mrows
--%MATH Mkeep
--%MATH Mclosed
--%MATH Mfind
--%MATH Mplan
--%MATH Mopt
--%MATH Mturn
theorem over_cut {A w : List Nat} {lo hi : Option Int} (h : over A w) : over A (cutL w lo hi) := fun c hc => h c (List.mem_of_mem_drop (List.mem_of_mem_take hc))
theorem over_app {A u w : List Nat} (h1 : over A u) (h2 : over A w) : over A (u ++ w) := fun c hc => (List.mem_append.mp hc).elim (h1 c) (h2 c)
theorem over_made {A wo ot : List Nat} {a way signs : Int} (h1 : over A wo) (h2 : over A ot) : over A (madeM wo ot a way signs) := by
  unfold madeM
  refine over_cut ?_
  split
  · exact over_app (over_cut h2) h1
  · split
    · exact over_app h1 (over_cut h2)
    · exact over_cut h2
theorem over_word {L : List Nat} (h : L ≠ []) (hl : ∀ c ∈ L, c ∈ abczL) (most : Int) (s : Bx) : over abczL (wordV L most s) := fun c hc => hl c (wordV_mem h hc)
theorem letters_sub (s : Bx) : ∀ c ∈ lettersM s, c ∈ abczL := fun c hc => List.mem_of_mem_take hc
inductive Q_words : List PyData → Prop
  | mk (most signs : Int) (h0 : 0 < most) (h1 : most ≤ 40) (h2 : 0 < signs) (h3 : signs ≤ 12) : Q_words [.int most, .int signs]
inductive R_words : List PyData → PyData → Prop
  | mk (most signs : Int) (ws : List (List Nat)) (g : goodWs most signs ws) (ov : ∀ w ∈ ws, over abczL w) : R_words [.int most, .int signs] (.list (ws.map dS))
theorem ok_words (T : Tx C) : Ok C 3 "_law_words" P_words (spBoxE Q_words R_words) := by
  refine ok_boxE T.d_words sc_words (fun ds h => by cases h; rfl) fun X hx ds h s b l F U vs hne hFb hFl hv hU D hr => ?_
  have n_box : Nm N_words 0 "_law_box" := ⟨rfl, by decide, by decide⟩
  have n_most : Nm N_words 1 "_law_most" := ⟨rfl, by decide, by decide⟩
  have n_signs : Nm N_words 2 "_law_signs" := ⟨rfl, by decide, by decide⟩
  have n_letters : Nm N_words 3 "_law_letters" := ⟨rfl, by decide, by decide⟩
  have n_found : Nm N_words 4 "_law_found" := ⟨rfl, by decide, by decide⟩
  have n_turn : Nm N_words 5 "_law_turn" := ⟨rfl, by decide, by decide⟩
  have n_word_here : Nm N_words 6 "_law_word_here" := ⟨rfl, by decide, by decide⟩
  have n_way : Nm N_words 7 "_law_way" := ⟨rfl, by decide, by decide⟩
  have n_other_here : Nm N_words 8 "_law_other_here" := ⟨rfl, by decide, by decide⟩
  have n_at : Nm N_words 9 "_law_at" := ⟨rfl, by decide, by decide⟩
  have b_len := T.b_len
  have b_range := T.b_range
  have o_take := ok_take T
  have o_word := ok_word T
  obtain ⟨most, signs, h0, h1, h2, h3⟩ := h
  obtain ⟨v0, _, rfl, a0, hv⟩ := hv.inv
  obtain ⟨v1, _, rfl, a1, hv⟩ := hv.inv
  obtain rfl := hv.end_
  obtain rfl := a0.scal rfl
  obtain rfl := a1.scal rfl
  refine' ex_setS (d := dS (lettersM s)) ?za (evr_of (EvD.is (ev_slS ev_strT eo_none (eo_some ?zb) ?zs) ?zc)) rfl ?zk
  case za => fail "asg"
  case zb => fail "ev"
  case zs => rw [lit_abcz, sizeLine_eq]; decide
  case zc => rw [lettersM_is]
  have hL := lettersM_ok s
  have hLs := letters_sub s
  have hL1 := hL.ne
  have hL2 := hL.len
  have hL3 := hL.ok
  generalize lettersM s = L at hL hL1 hL2 hL3 hLs
  generalize takeB s 3 = s
  have hb0 := takeV_nn s (m := most) h0
  fail "new"
  intro q hFq hUq
  refine' ex_forM (α := Nat) (fun i σ F1 M => ∃ s ws v5 v6 v7 v8 v9, soFar i signs ws ∧ (∀ w ∈ ws, over abczL w) ∧ M = boxM b l s ++ [(q, .lst (ws.map fun w => V.str (tx w)))] ∧ σ = [some (.ref b), some (.int most), some (.int signs), some (.str (tx L)), some (.ref q), v5, v6, v7, v8, v9]) hx n_turn ?qloc ?qlocB ?qi ?q0 ?qs ?qd ?qst
  case qloc => fail "loc"
  case qlocB => fail "locB2"
  case qi => fail "it"
  case qst => intro _ _; rfl
  case q0 => exact fun F1 _ => ⟨takeB s most, [], none, none, none, none, none, ⟨fun _ h => (nomatch h), List.nodup_nil, fun h => absurd h (by omega), Nat.le_refl _⟩, fun _ h => (nomatch h), rfl, rfl⟩
  case qd =>
    rintro σ F1 M f1 ⟨s, ws, v5, v6, v7, v8, v9, g, ov, rfl, rfl⟩
    rw [List.length_range] at g
    refine ex_open fun z f => ?_
    have af : Fd U (upd F1 q (.lst (ws.map fun w => V.str (tx w)))) (.ref q) (.list (ws.map dS)) := .lst hUq upd_same (FdA.txs ws)
    refine' ex_ret (T := U) ?zr ?zrk
    case zr => fail "ev"
    case zrk => exact fun v F3 H hm f3 rv => hr _ s v F3 H (.mk most signs ws ⟨g.good, g.nd, g.ne (by omega), by have := g.len; omega⟩ ov) hm ((f1.trans f).trans f3) rv
  case qs =>
    rintro i t w σ F1 F2 M ha f1 ⟨s, ws, v5, v6, v7, v8, v9, g, ov, rfl, rfl⟩ f2 rv
    obtain ⟨rfl, hi⟩ := rangeGet ha
    show ExB X _ _ [some (.ref b), some (.int most), some (.int signs), some (.str (tx L)), some (.ref q), some w, v6, v7, v8, v9] _ _ _
    have okws : ∀ w ∈ ws, okW w := fun w h => (g.good w h).1.ok
    refine ex_open fun z f => ?_
    have af : Fd Any (upd F2 q (.lst (ws.map fun w => V.str (tx w)))) (.ref q) (.list (ws.map dS)) := .lst trivial upd_same (FdA.txs ws)
    fail "setS"
    have g1 := hL.word (most := signs) h2 h3 s
    have o1 := over_word hL1 hLs signs s
    have gl : ((wordV L signs s).length : Int) ≤ signs := by rw [wordV_len]; exact (wordN_le h2).2
    generalize wordV L signs s = wo at g1 gl o1
    generalize wordB L signs s = s1
    fail "setS"
    have hw := takeV_nn s1 (m := 5) (by omega)
    generalize takeV s1 5 = way at hw
    generalize takeB s1 5 = s2
    have wl := g.len
    refine' ex_ifJ (fun σ M => ∃ wo s v8 v9, goodM wo ∧ (wo.length : Int) ≤ signs ∧ over abczL wo ∧ M = boxM b l s ++ [] ∧ σ = [some (.ref b), some (.int most), some (.int signs), some (.str (tx L)), some (.ref q), some w, some (.str (tx wo)), some (.int way), v8, v9]) ?zc1 ?zc2 ?zc3 ?zc4
    case zc1 => fail "et"
    case zc3 => exact fun _ => ex_meet (Same.refl _) ⟨_, _, _, _, g1, gl, o1, rfl, rfl⟩
    case zc2 =>
      intro hc
      rw [Bool.and_eq_true] at hc
      have hne' : 0 < ws.length := by
        cases ws with
        | nil => exact absurd hc.1 (by simp)
        | cons => exact Nat.succ_pos _
      have hway : way < 3 := by simpa using hc.2
      have hb1 := takeV_nn s2 (m := (ws.length : Int)) (by omega)
      fail "setS"
      have hm : ws.getD (takeV s2 (ws.length : Int)).toNat default ∈ ws := getD_memL (by omega)
      have g2 := (g.good _ hm).1
      have o2 := ov _ hm
      generalize ws.getD (takeV s2 (ws.length : Int)).toNat default = ot at g2 o2
      generalize takeB s2 (ws.length : Int) = s3
      have l2 := g2.1
      have l3 := g2.2.1
      have l1 := g1.2.1
      have hb2 := takeV_nn s3 (m := (ot.length : Int)) (by omega)
      fail "setS"
      generalize takeV s3 (ot.length : Int) = at' at hb2
      generalize takeB s3 (ot.length : Int) = s4
      have hc1 := cutL_le ot (some at') none
      have hc2 := cutL_le ot none (some (at' + 1))
      fail "setS"
      have hcl : (if way = 0 then cutL ot (some at') none ++ wo else if way = 1 then wo ++ cutL ot none (some (at' + 1)) else cutL ot (some at') none).length ≤ 100 := by
        split
        · rw [List.length_append]; omega
        · split
          · rw [List.length_append]; omega
          · omega
      fail "setS"
      exact ex_meet (Same.refl _) ⟨madeM wo ot at' way signs, _, _, _, madeM_good g1 g2 hb2.1 hb2.2 h2 h3, madeM_len h2, over_made o1 o2, rfl, rfl⟩
    clear g1 gl o1 s2 wo
    rintro _ _ ⟨wo, s2, v8, v9, g1, gl, o1, rfl, rfl⟩
    have ok1 := g1.ok
    refine' ex_if ?zd1 ?zd2 ?zd3
    case zd1 => fail "et"
    case zd3 =>
      intro hc
      refine ex_on (ex_close (F0 := F2) (q := q) (A := boxM b l s2) (B := []) ?_ f z upd_same)
      exact ex_turn f2 ⟨_, _, _, _, _, _, _, g.stay hc, ov, rfl, rfl⟩
    case zd2 =>
      intro hc
      refine ex_close (F0 := F2) (q := q) (A := boxM b l s2) (B := []) ?_ f z upd_same
      refine' ex_append (T := Any) (A1 := boxM b l s2) (B1 := []) hx ?ze1 ?ze2 ?ze3 ?ze4 ?ze5 ?ze6 ?ze7 ?ze8 ?ze9
      case ze1 => fail "evv"
      case ze2 => fail "ev"
      case ze3 => rw [List.length_map, sizeLine_eq]; have : t < 100 := by omega
                  omega
      case ze4 =>
        intro v F3 f3 rv3
        obtain rfl := rv3.scal rfl
        refine ex_on (ex_turn (f2.trans f3) ⟨s2, ws ++ [wo], _, _, _, _, _, g.add g1 gl hc, (fun w hw => (List.mem_append.mp hw).elim (ov w) fun h => by rw [List.mem_singleton.mp h]; exact o1), ?_, rfl⟩)
        rw [List.map_append]; rfl
      case ze5 => intro _; rfl
      case ze6 => intro _; rfl
      case ze7 => rfl
      case ze8 => intro _; rfl
      case ze9 => intro _; rfl

/-! free -/
--%MATH Mword
--%MATH Mover
--%MATH Mdraw
--%MATH Mws
--%MATH Mlay
--%MATH Mplan
theorem others_free {ws : List (List Nat)} (hd : ws.Nodup) {i : Nat} (hi : i < ws.length) : ((ws.take i ++ ws.drop (i + 1)).filter fun o => inS ws[i] o).isEmpty = freeB ws ws[i] := by
  unfold freeB
  have e : ws = ws.take i ++ ws[i] :: ws.drop (i + 1) := by rw [← List.drop_eq_getElem_cons hi, List.take_append_drop]
  have hd2 := hd
  rw [e, List.nodup_append] at hd2
  obtain ⟨_, h2, h3⟩ := hd2
  rw [List.nodup_cons] at h2
  generalize hw : ws[i] = w at *
  have q1 : ∀ o ∈ ws.take i, (o == w) = false := fun o ho => beq_eq_false_iff_ne.mpr (h3 o ho w List.mem_cons_self)
  have q2 : ∀ o ∈ ws.drop (i + 1), (o == w) = false := fun o ho => beq_eq_false_iff_ne.mpr fun z => h2.1 (z ▸ ho)
  conv => rhs; rw [e]
  rw [List.filter_append, List.filter_append, List.filter_cons, if_neg (by simp)]
  rw [List.filter_congr (p := fun o => inS w o) (q := fun o => !(o == w) && inS w o) (l := ws.take i) fun o ho => by rw [q1 o ho]; rfl]
  rw [List.filter_congr (p := fun o => inS w o) (q := fun o => !(o == w) && inS w o) (l := ws.drop (i + 1)) fun o ho => by rw [q2 o ho]; rfl]
theorem free_filter (ws : List (List Nat)) : ((List.range ws.length).filter fun n => freeB ws (ws.getD n default)) = freeM ws := by
  unfold freeM
  have e : (ws.zipIdx.filter fun q => freeB ws q.1) = ws.zipIdx.filter ((fun n => freeB ws (ws.getD n default)) ∘ Prod.snd) := List.filter_congr fun q hq => by
    have := List.mk_mem_zipIdx_iff_getElem?.mp hq
    show _ = freeB ws (ws.getD q.2 default)
    rw [List.getD_eq_getElem?_getD, this]; rfl
  rw [e]
  have : List.range ws.length = ws.zipIdx.map Prod.snd := by
    refine List.ext_getElem? fun n => ?_
    simp only [List.getElem?_map, List.getElem?_zipIdx]
    by_cases h : n < ws.length
    · rw [List.getElem?_range h, List.getElem?_eq_getElem h]; simp
    · rw [List.getElem?_eq_none (by simpa using h), List.getElem?_eq_none (by omega)]; rfl
  rw [this, List.filter_map]
inductive A_lfree : List PyData → PyData → Prop
  | mk (ws : List (List Nat)) (g : Ws ws) : A_lfree [.list (ws.map dS)] (.list ((freeM ws).map gN))
theorem ok_l_free (T : Tx C) : Ok C 1 "_law_free" P_l_free (spW A_lfree) := by
  refine ok_W T.d_l_free sc_l_free (by decide) (fun ds r h => by cases h; rfl) fun X hx ds r h hw Z => ?_
  have n_words_here : Nm N_l_free 0 "_law_words_here" := ⟨rfl, by decide, by decide⟩
  have n_found : Nm N_l_free 1 "_law_found" := ⟨rfl, by decide, by decide⟩
  have n_number : Nm N_l_free 2 "_law_number" := ⟨rfl, by decide, by decide⟩
  have n_others : Nm N_l_free 3 "_law_others" := ⟨rfl, by decide, by decide⟩
  have n_other_here : Nm N_l_free 4 "_law_other_here" := ⟨rfl, by decide, by decide⟩
  have b_len := T.b_len
  have b_range := T.b_range
  obtain ⟨ws, g⟩ := h
  have g1 := g.good
  have g2 := g.len
  show SB X Z _ [dc (.list (ws.map dS)) [0], none, none, none, none] _ _ _
  fail "set"
  show SB X Z _ [dc (.list (ws.map dS)) [0], dc (.list []) [2], none, none, none] _ _ _
  refine' sb_for1 (w := 902) ((fun i E O => O = [] ∧ ∃ c2 c3 c4, E = [dc (.list (ws.map dS)) [0], dc (.list (((List.range i).filter fun n => freeB ws (ws.getD n default)).map gN)) [2], c2, c3, c4])) hx n_number ?l0a ?m0a ?ia ?za ?sa ?da ?ta
  case l0a => fail "loc"
  case m0a => fail "locB2"
  case ia => fail "hI"
  case ta => intro _ _; rfl
  case za => exact ⟨rfl, _, _, _, rfl⟩
  case da =>
    rintro E O ⟨rfl, c2, c3, c4, rfl⟩
    rw [List.length_range, Int.toNat_natCast, free_filter]
    fail "hret"
    exact ⟨rfl, rfl⟩
  case sa =>
    rintro i q E O ha _ ⟨rfl, c2, c3, c4, rfl⟩
    refine ⟨rfl, ?_⟩
    obtain ⟨rfl, hi⟩ := rangeGet ha
    have hq : q < ws.length := by omega
    show SB X Z _ [dc (.list (ws.map dS)) [0], dc (.list (((List.range q).filter fun n => freeB ws (ws.getD n default)).map gN)) [2], dc (.int (q : Nat)) [], c3, c4] _ _ _
    have hgd : ws.getD q default = ws[q] := by rw [List.getD_eq_getElem?_getD, List.getElem?_eq_getElem hq]; rfl
    have hs : (List.range (q + 1)).filter (fun n => freeB ws (ws.getD n default)) = (List.range q).filter (fun n => freeB ws (ws.getD n default)) ++ (if freeB ws ws[q] = true then [q] else []) := by
      rw [List.range_succ, List.filter_append, List.filter_cons, List.filter_nil, hgd]
    have hl : ((List.range q).filter fun n => freeB ws (ws.getD n default)).length ≤ 40 := by
      refine Nat.le_trans (List.length_filter_le _ _) ?_
      rw [List.length_range]; omega
    refine' sb_set (d := .list ((ws.take q ++ ws.drop (q + 1)).map dS)) (O' := []) ?s1 (er_of (ee_bin (EE.to (d2 := .list ((ws.take q).map dS)) ?p1 ?p2) (EE.to (d2 := .list ((ws.drop (q + 1)).map dS)) ?p3 ?p4) (of_catMF ?p5 (fun _ => rfl)))) ?s5 ?s4
    case s1 => fail "asg"
    case p1 => fail "hE"
    case p2 => rw [cutL_to]
    case p3 => fail "hE"
    case p4 => rw [show ((q : Nat) : Int) + 1 = ((q + 1 : Nat) : Int) by omega, cutL_from]
    case p5 => rw [List.length_take, List.length_drop, sizeLine_eq]; omega
    case s5 => rfl
    case s4 =>
    have hol : (ws.take q ++ ws.drop (q + 1)).length ≤ 40 := by rw [List.length_append, List.length_take, List.length_drop]; omega
    have hof := others_free g.nd hq
    generalize ws.take q ++ ws.drop (q + 1) = os at hol hof
    show SB X Z _ [dc (.list (ws.map dS)) [0], dc (.list (((List.range q).filter fun n => freeB ws (ws.getD n default)).map gN)) [2], dc (.int (q : Nat)) [], dc (.list (os.map dS)) [4], c4] _ _ _
    refine' sb_if (b := freeB ws ws[q]) (ET.to ?t1 ?t2) ?t3 ?t4
    case t1 => fail "hT2"
    case t2 =>
      rw [Int.toNat_natCast, hgd, ← hof]
    case t3 =>
      intro hb
      fail "happ"
      refine sb_nil (sb_nil ⟨rfl, dc (.int (q : Nat)) [], killC [2] (dc (.list (os.map dS)) [4]), killC [2] c4, ?_⟩)
      rw [hs, if_pos hb, List.map_append]
      rfl
    case t4 =>
      intro hb
      refine sb_nil (sb_nil ⟨rfl, dc (.int (q : Nat)) [], dc (.list (os.map dS)) [4], c4, ?_⟩)
      rw [hs, if_neg (by rw [hb]; exact Bool.false_ne_true), List.append_nil]

/-! few -/
--%MATH Mplan
inductive Q_few : List PyData → Prop
  | mk (most signs : Int) (h0 : 0 < most) (h1 : most ≤ 8) (h2 : 0 < signs) (h3 : signs ≤ 12) : Q_few [.int most, .int signs]
inductive R_few : List PyData → PyData → Prop
  | mk (most signs : Int) (ws : List (List Nat)) (g : Ws ws) (ov : ∀ w ∈ ws, over abczL w) (hf : ((freeM ws).length : Int) ≤ most) : R_few [.int most, .int signs] (.list (ws.map dS))
theorem cut_last {α : Type} (l : List α) : cutL l none (some (-1)) = l.take (l.length - 1) := by
  unfold cutL
  rw [HT.sIx_none, List.drop_zero, Nat.sub_zero]
  congr 1
  unfold HT.sIx
  simp
  omega
theorem few_len (ws : List (List Nat)) : (freeM ws).length ≤ ws.length := by
  unfold freeM
  rw [List.length_map]
  refine Nat.le_trans (List.length_filter_le _ _) ?_
  rw [List.length_zipIdx]; exact Nat.le_refl _
theorem ok_few (T : Tx C) : Ok C 4 "_law_few" P_few (spBoxE Q_few fun ds d => R_few ds d ∧ wfD d) := by
  refine ok_BE T.d_few sc_few (by decide) (fun ds h => by cases h; rfl) (by intro ds h; cases h; first | assumption | simp [wfA, wfD]) fun X hx ds h hw Z u s => ?_
  have n_box : Nm N_few 0 "_law_box" := ⟨rfl, by decide, by decide⟩
  have n_most : Nm N_few 1 "_law_most" := ⟨rfl, by decide, by decide⟩
  have n_signs : Nm N_few 2 "_law_signs" := ⟨rfl, by decide, by decide⟩
  have n_words_here : Nm N_few 3 "_law_words_here" := ⟨rfl, by decide, by decide⟩
  have b_len := T.b_len
  have o_words := ok_words T
  have o_l_free := ok_l_free T
  obtain ⟨most, signs, h0, h1, h2, h3⟩ := h
  show SB X Z _ [none, dc (.int most) [], dc (.int signs) [], none] _ _ _
  fail "setBE"
  · rintro d ⟨_, _, ws, gw, ov⟩
    exact ws_wf (fun w hw => (gw.good w hw).1) (by have := gw.len; omega)
  rintro d s2 ⟨_, _, ws, gw, ov⟩
  have hW : Ws ws := gw.ws (by omega)
  clear gw
  show SB X Z _ [none, dc (.int most) [], dc (.int signs) [], dc (.list (ws.map dS)) [4]] _ _ _
  refine' sb_while hx (fun m E O => ∃ ws, m = ws.length ∧ Ws ws ∧ (∀ w ∈ ws, over abczL w) ∧ O = [bx 0 u s2] ∧ E = [none, dc (.int most) [], dc (.int signs) [], dc (.list (ws.map dS)) [4]]) (m0 := ws.length) ⟨ws, rfl, hW, ov, rfl, rfl⟩ ?w1
  clear hW ov ws
  rintro m E O ⟨ws, rfl, hW, ov, rfl, rfl⟩
  have g1 := hW.good
  have g2 := hW.len
  have g3 := few_len ws
  have hp : 0 < ws.length := List.length_pos_iff.mpr hW.ne
  refine' ⟨decide (most < ((freeM ws).length : Int)), [bx 0 u s2], ET.to (k := decide (most < ((freeM ws).length : Int))) ?x1 ?x2, ?x4, ?x5⟩
  case x1 => fail "hT2"
  case x2 => rfl
  case x4 =>
    intro hb
    have hb := of_decide_eq_true hb
    refine' sb_set (d := .list ((ws.take (ws.length - 1)).map dS)) ?s1 (er_of (EE.to ?s2 ?s3)) ?s5 ?s4
    case s1 => fail "asg"
    case s2 => fail "hE"
    case s3 => rw [cut_last]
    case s5 => rfl
    case s4 => exact sb_nil ⟨ws.length - 1, by omega, _, by rw [List.length_take]; omega, ⟨fun w hw => g1 w (List.mem_of_mem_take hw), hW.nd.sublist (List.take_sublist _ _), fun e => by have := congrArg List.length e; rw [List.length_take] at this; simp at this; omega, by rw [List.length_take]; omega⟩, fun w hw => ov w (List.mem_of_mem_take hw), rfl, rfl⟩
  case x5 =>
    intro hb
    have hb := of_decide_eq_false hb
    fail "hret"
    exact ⟨_, _, rfl, rfl, rfl, R_few.mk most signs ws hW ov (by omega)⟩

/-! first_unlike -/
--%MATH Mword
--%MATH Mover
inductive A_first_unlike : List PyData → PyData → Prop
  | mk (one other : List Nat) (m : Int) (ok1 : okW one) (ok2 : okW other) (l1 : one.length ≤ 100) (l2 : other.length ≤ 100) (h0 : 0 ≤ m) (h1 : m ≤ one.length) (h2 : m ≤ other.length) (hf : fitsM one other m.toNat = false) : A_first_unlike [dS one, dS other, .int m] (.int (unlikeM one other m.toNat : Nat))
theorem ok_first_unlike (T : Tx C) : Ok C 1 "first_unlike" P_first_unlike (spP A_first_unlike) := by
  refine ok_pure T.d_first_unlike sc_first_unlike (fun ds r h => by cases h; rfl) fun X hx ds r h F vs hv D hr hn => ?_
  have n_one : Nm N_first_unlike 0 "one" := ⟨rfl, by decide, by decide⟩
  have n_other : Nm N_first_unlike 1 "other" := ⟨rfl, by decide, by decide⟩
  have n_many : Nm N_first_unlike 2 "many" := ⟨rfl, by decide, by decide⟩
  have n_end : Nm N_first_unlike 3 "end" := ⟨rfl, by decide, by decide⟩
  have n_place : Nm N_first_unlike 4 "place" := ⟨rfl, by decide, by decide⟩
  have b_len := T.b_len
  have b_range := T.b_range
  obtain ⟨one, other, m, ok1, ok2, l1, l2, h0, h1, h2, hf⟩ := h
  obtain ⟨v0, _, rfl, a0, hv⟩ := hv.inv
  obtain ⟨v1, _, rfl, a1, hv⟩ := hv.inv
  obtain ⟨v2, _, rfl, a2, hv⟩ := hv.inv
  obtain rfl := hv.end_
  obtain rfl := a0.scal rfl
  obtain rfl := a1.scal rfl
  obtain rfl := a2.scal rfl
  obtain ⟨n, rfl⟩ : ∃ n : Nat, m = (n : Int) := ⟨m.toNat, by omega⟩
  have e : (one.length : Int) - (n : Int) = ((one.length - n : Nat) : Int) := by omega
  refine' ex_setS (d := dS (one.drop (one.length - n))) ?a (evr_of (EvD.is ?b ?c)) rfl ?k
  case a => fail "asg"
  case b => fail "ev"
  case c => rw [e, cutL_from]
  have hpos : 0 < ((unlikeL one other n).length : Int) := by
    have := unlikeL_pos (m := n) (by omega) (by omega) hf; omega
  have hd : ((one.drop (one.length - n)).length : Int) = (n : Int) := by rw [List.length_drop]; omega
  have hd2 : (one.drop (one.length - n)).length ≤ 100 := by omega
  refine ex_ret ?_ hr
  refine' ev_ixLn (α := Nat) (g := fun i => .int (i : Int)) (l := unlikeL one other n) hx (EvD.is ?x ?y) dflt ev_int (by omega) hpos ?z
  case z => exact fun _ _ => rfl
  case x => fail "ev"
  case y =>
    congr 1
    congr 1
    refine List.filter_congr fun a ha => ?_
    have ha := List.mem_range.mp ha
    rw [dropGetD, one_beq]
    rfl

/-! why_no_more -/
--%MATH Mword
--%MATH Mword
--%MATH Mover
inductive A_why_no_more : List PyData → PyData → Prop
  | mk (one other : List Nat) (g1 : goodM one) (g2 : goodM other) : A_why_no_more [dS one, dS other] (.list (rowsM one other))
local macro_rules | `(tactic| fail "mine") => `(tactic| (refine far_not ?_ ?_ <;> omega))
theorem ok_why_no_more (T : Tx C) : Ok C 3 "why_no_more" P_why_no_more (spP A_why_no_more) := by
  refine ok_pure T.d_why_no_more sc_why_no_more (fun ds r h => by cases h; rfl) fun X hx ds r h F vs hv D hr hn => ?_
  have n_one : Nm N_why_no_more 0 "one" := ⟨rfl, by decide, by decide⟩
  have n_other : Nm N_why_no_more 1 "other" := ⟨rfl, by decide, by decide⟩
  have n_least : Nm N_why_no_more 2 "least" := ⟨rfl, by decide, by decide⟩
  have n_many : Nm N_why_no_more 3 "many" := ⟨rfl, by decide, by decide⟩
  have b_len := T.b_len
  have b_range := T.b_range
  have b_min := T.b_min
  have o_need_word := ok_need_word T
  have o_far := ok_far T
  have o_first_unlike := ok_first_unlike T
  obtain ⟨one, other, g1, g2⟩ := h
  obtain ⟨v0, _, rfl, a0, hv⟩ := hv.inv
  obtain ⟨v1, _, rfl, a1, hv⟩ := hv.inv
  obtain rfl := hv.end_
  obtain rfl := a0.scal rfl
  obtain rfl := a1.scal rfl
  have ok1 := g1.ok
  have ok2 := g2.ok
  have l1 := g1.1
  have l2 := g2.1
  have l3 := g1.2.1
  have l4 := g2.2.1
  have hfar := farM_lt l1 l2
  refine ex_drop (T := Any) (by fail "ev") (ex_drop (T := Any) (by fail "ev") ?_)
  fail "setS"
  refine ex_ret (EvD.is (by fail "ev") ?_) hr
  unfold rowsM
  congr 1
  have en : (min (one.length : Int) (other.length : Int) - ((farM one other : Int) + 1)).toNat = min one.length other.length - (farM one other + 1) := by omega
  rw [en]
  refine List.map_congr_left fun i _ => ?_
  have e1 : ((farM one other : Int) + 1 + (i : Int)) = ((farM one other + 1 + i : Nat) : Int) := by omega
  rw [e1]; rfl
theorem okw_why_no_more (T : Tx C) : Ok C 3 "why_no_more" P_why_no_more (spW A_why_no_more) := by
  exact (ok_why_no_more T).toW fun ds d hw h => ⟨h, by
    obtain ⟨one, other, h1, h2⟩ := h
    have l1 := h1.2.1
    refine ⟨by unfold rowsM; rw [List.length_map, List.length_range, sizeLine_eq]; omega, wfA_iff.mpr fun d hd => ?_⟩
    unfold rowsM at hd
    obtain ⟨i, _, rfl⟩ := List.mem_map.mp hd
    exact ⟨by rw [sizeLine_eq]; show 2 < 16777216; decide, trivial, trivial, trivial⟩⟩

/-! risen -/
--%MATH Mfind
inductive A_risen : List PyData → PyData → Prop
  | mk (ws : List (List Nat)) (g : Ws ws) : A_risen [.list (ws.map dS)] (.list ((ordM ws).map gN))
theorem ok_risen (T : Tx C) : Ok C 1 "risen" P_risen (spW A_risen) := by
  refine ok_W T.d_risen sc_risen (by decide) (fun ds r h => by cases h; rfl) fun X hx ds r h hw Z => ?_
  have n_words : Nm N_risen 0 "words" := ⟨rfl, by decide, by decide⟩
  have n_pair : Nm N_risen 1 "pair" := ⟨rfl, by decide, by decide⟩
  have n_number : Nm N_risen 2 "number" := ⟨rfl, by decide, by decide⟩
  have n_word : Nm N_risen 3 "word" := ⟨rfl, by decide, by decide⟩
  have b_enumerate := T.b_enumerate
  have b_sorted := T.b_sorted
  obtain ⟨ws, g⟩ := h
  have g1 := g.good
  have g2 := g.len
  show SB X Z _ [dc (.list (ws.map dS)) [0], none, none, none] _ _ _
  have hl : (ws.zipIdx.mergeSort rS).length = ws.length := by rw [List.length_mergeSort, List.length_zipIdx]
  refine' sb_ret (P := dP (.list ((ordM ws).map gN))) (EE.to (ee_lc0 (l := ws.zipIdx.mergeSort rS) (g := gS) (f := fun q => .int (q.2 : Nat)) (Re := []) hx n_pair ?c1 ?c2 ?c3 (ei_list hx ?c4) ?c5 ?c6 ?c7 ?c8) ?c9) ⟨rfl, rfl⟩
  case c1 => fail "loc"
  case c2 => fail "locB"
  case c3 => fail "dec"
  case c4 =>
    refine' ee_sortM (l := ws.zipIdx) (g := gS) rS hx b_sorted ?e1 ?e2 gS_alike (Or.inl fun a => ⟨_, _, rfl⟩) (fun a => by show (1 : Nat) ≤ 60; decide) (fun a _ b _ => rfl) ?e3 ?e4
    case e1 => fail "gb"
    case e2 => fail "hE"
    case e3 => intro _; rfl
    case e4 => intro _; rfl
  case c5 => rfl
  case c6 => rw [hl, sizeLine_eq]; omega
  case c7 =>
    intro q hq hwf hxb
    exact (ee_ixT1 hxb (ee_nameR (P := dP (gS q)) (R := [900]) (R' := [900]) hxb n_pair (by fail "vis") rfl rfl)).flat (R' := []) rfl
  case c8 => intro _ _; rfl
  case c9 => unfold ordM; rw [List.map_map]; rfl

/-! index -/
--%MATH Mfind
theorem ok_index (T : Tx C) : Ok C 3 "index" P_index (spW A_risen) := by
  refine ok_W T.d_index sc_index (by decide) (fun ds r h => by cases h; rfl) fun X hx ds r h hw Z => ?_
  have n_words : Nm N_index 0 "words" := ⟨rfl, by decide, by decide⟩
  have o_need_words := okw_need_words T
  have o_risen := ok_risen T
  obtain ⟨ws, g⟩ := h
  have g1 := g.good
  have g2 := g.len
  show SB X Z _ [dc (.list (ws.map dS)) [0]] _ _ _
  fail "hexp"
  fail "hret"
  exact ⟨rfl, rfl⟩

/-! sought -/
--%MATH Mfind
local macro_rules | `(tactic| fail "hmine") => `(tactic| first | exact (⟨by decide, by decide⟩ : CDiv _ 2) | assumption)
inductive A_sought : List PyData → PyData → Prop
  | mk (ws : List (List Nat)) (w : List Nat) (g : Ws ws) (gw : goodM w) : A_sought [.list (ws.map dS), dS w] (tlD ws (tellM ws w))
theorem ok_sought (T : Tx C) : Ok C 3 "sought" P_sought (spW A_sought) := by
  refine ok_W T.d_sought sc_sought (by decide) (fun ds r h => by cases h; rfl) fun X hx ds r h hw Z => ?_
  have n_words : Nm N_sought 0 "words" := ⟨rfl, by decide, by decide⟩
  have n_word : Nm N_sought 1 "word" := ⟨rfl, by decide, by decide⟩
  have n_order : Nm N_sought 2 "order" := ⟨rfl, by decide, by decide⟩
  have n_low : Nm N_sought 3 "low" := ⟨rfl, by decide, by decide⟩
  have n_high : Nm N_sought 4 "high" := ⟨rfl, by decide, by decide⟩
  have n_looks : Nm N_sought 5 "looks" := ⟨rfl, by decide, by decide⟩
  have n_middle : Nm N_sought 6 "middle" := ⟨rfl, by decide, by decide⟩
  have b_len := T.b_len
  have o_need_word := okw_need_word T
  have o_need_words := okw_need_words T
  have o_risen := ok_risen T
  obtain ⟨ws, w, g, gw⟩ := h
  have g1 := g.good
  have g2 := g.len
  show SB X Z _ [dc (.list (ws.map dS)) [0], dc (dS w) [], none, none, none, none, none] _ _ _
  fail "hexp"
  fail "hexp"
  fail "set"
  fail "par"
  fail "set"
  have ol := ord_len ws
  show SB X Z _ [dc (.list (ws.map dS)) [0], dc (dS w) [], dc (.list ((ordM ws).map gN)) [3], dc (.int 0) [], dc (.int (ordM ws).length) [], dc (.list []) [6], none] _ _ _
  refine' sb_while hx (fun m E O => ∃ (low high : Nat) (acc : List Nat) (c : Cell), m = high - low ∧ low ≤ high ∧ high ≤ ws.length ∧ acc.length + (high - low) ≤ ws.length ∧ O = [] ∧
      tellM ws w = (acc ++ (seekF (atM ws) w low high).1, (seekF (atM ws) w low high).2) ∧
      E = [dc (.list (ws.map dS)) [0], dc (dS w) [], dc (.list ((ordM ws).map gN)) [3], dc (.int (low : Nat)) [], dc (.int (high : Nat)) [], dc (.list (acc.map fun m => .int ((ordM ws).getD m default : Nat))) [6], c]) (m0 := ws.length) ⟨0, ws.length, [], _, rfl, Nat.zero_le _, Nat.le_refl _, by simp, rfl, rfl, by rw [ol]; rfl⟩ ?w1
  case w1 =>
    rintro m E O ⟨low, high, acc, c, rfl, h1, h2, h3, rfl, ht, rfl⟩
    refine' ⟨decide (low < high), [], ET.to (k := decide (((low : Nat) : Int) < ((high : Nat) : Int))) ?x1 ?x2, ?x4, ?x5⟩
    case x1 => fail "hT2"
    case x2 => rw [decide_eq_decide]; omega
    case x5 =>
      intro hb
      have hb := of_decide_eq_false hb
      rw [seek_done hb, List.append_nil] at ht
      refine' sb_ret (P := dP (tlD ws (tellM ws w))) (EE.to ?y1 ?y2) ⟨rfl, ?y3⟩
      case y1 => fail "hE"
      case y2 => rw [ht]; rfl
      case y3 => rfl
    case x4 =>
      intro hb
      have hb := of_decide_eq_true hb
      obtain ⟨md, hmd⟩ : ∃ md, md = (low + high) / 2 := ⟨_, rfl⟩
      have hm1 : low ≤ md := by omega
      have hm2 : md < high := by omega
      obtain ⟨o1, o2⟩ := ord_at g.nd (m := md) (by omega)
      refine' sb_set (d := .int (md : Nat)) ?s1 (ER.to ?s2 ?s3) ?s5 ?s4
      case s1 => fail "asg"
      case s2 => fail "her"
      case s3 => rw [hmd]; refine congrArg PyData.int ?_; omega
      case s5 => rfl
      case s4 =>
      show SB X Z _ [dc (.list (ws.map dS)) [0], dc (dS w) [], dc (.list ((ordM ws).map gN)) [3], dc (.int (low : Nat)) [], dc (.int (high : Nat)) [], dc (.list (acc.map fun m => .int ((ordM ws).getD m default : Nat))) [6], dc (.int (md : Nat)) []] _ _ _
      have q1 : (md : Int) < (ordM ws).length := by omega
      have q0 : (0 : Int) ≤ (md : Nat) := by omega
      have e0 : ((md : Nat) : Int).toNat = md := by omega
      have q3 : (((ordM ws).getD ((md : Nat) : Int).toNat default : Nat) : Int) < ws.length := by rw [e0]; omega
      have hal : acc.length ≤ 40 := by omega
      fail "happ"
      show SB X Z _ [dc (.list (ws.map dS)) [0], dc (dS w) [], dc (.list ((ordM ws).map gN)) [3], dc (.int (low : Nat)) [], dc (.int (high : Nat)) [], dc (.list (acc.map (fun m => .int ((ordM ws).getD m default : Nat)) ++ [.int ((ordM ws).getD ((md : Nat) : Int).toNat default : Nat)])) [6], dc (.int (md : Nat)) []] _ _ _
      rw [e0, show acc.map (fun m => PyData.int ((ordM ws).getD m default : Nat)) ++ [.int ((ordM ws).getD md default : Nat)] = (acc ++ [md]).map (fun m => PyData.int ((ordM ws).getD m default : Nat)) by rw [List.map_append]; rfl]
      have hat : ws.getD (((ordM ws).getD ((md : Nat) : Int).toNat default : Nat) : Int).toNat default = atM ws md := by
        rw [e0, show (((ordM ws).getD md default : Nat) : Int).toNat = (ordM ws).getD md default by omega]; rfl
      refine' sb_if (b := decide (atM ws md = w)) (ET.to ?u1 ?u2) ?u3 ?u4
      case u1 =>
        refine' et_cmp' (ee_ixMn hx ?aa1 dflt ?aa2 (fun _ => rfl) ?aa3 ?aa4 ?aa5) ?aa6 (of_eqS hx) ?aa7
        case aa1 => fail "hE"
        case aa2 => fail "hE"
        case aa3 => fail "hsd"
        case aa4 => fail "hsd"
        case aa5 => fail "ix"
        case aa6 => fail "hE"
        case aa7 => fail "mark"
      case u2 =>
        rw [hat, Bool.eq_iff_iff, beq_iff_eq, decide_eq_true_eq]
      case u3 =>
        intro he
        have he := of_decide_eq_true he
        rw [seek_hit hb (hmd ▸ he), ← hmd] at ht
        refine' sb_ret (P := dP (tlD ws (tellM ws w))) (EE.to ?y1 ?y2) ⟨rfl, ?y3⟩
        case y1 => fail "hE"
        case y2 => rw [ht, e0]; rfl
        case y3 => rfl
      case u4 =>
        intro he
        have he := of_decide_eq_false he
        refine sb_nil ?_
        refine' sb_if (b := decide (atM ws md < w)) (ET.to ?v1 ?v2) ?v3 ?v4
        case v1 => fail "hT2"
        case v2 => rw [hat]
        case v3 =>
          intro hl
          have hl := of_decide_eq_true hl
          fail "set"
          refine sb_nil (sb_nil ⟨high - (md + 1), by omega, md + 1, high, acc ++ [md], _, rfl, by omega, h2, by rw [List.length_append]; show acc.length + 1 + _ ≤ _; omega, rfl, ?_, rfl⟩)
          rw [ht, seek_up hb (hmd ▸ he) (hmd ▸ hl), ← hmd, List.append_assoc]; rfl
        case v4 =>
          intro hl
          have hl := of_decide_eq_false hl
          fail "set"
          refine sb_nil (sb_nil ⟨md - low, by omega, low, md, acc ++ [md], _, rfl, by omega, by omega, by rw [List.length_append]; show acc.length + 1 + _ ≤ _; omega, rfl, ?_, rfl⟩)
          rw [ht, seek_down hb (hmd ▸ he) (hmd ▸ hl), ← hmd, List.append_assoc]; rfl

/-! tails -/
--%MATH Mkeep
inductive A_tails : List PyData → PyData → Prop
  | mk (ws : List (List Nat)) (g : Ws ws) : A_tails [.list (ws.map dS)] (.list (ws.map fun w => uD (tailM ws w)))
theorem ok_tails (T : Tx C) : Ok C 3 "tails" P_tails (spW A_tails) := by
  refine ok_W T.d_tails sc_tails (by decide) (fun ds r h => by cases h; rfl) fun X hx ds r h hw Z => ?_
  have n_words : Nm N_tails 0 "words" := ⟨rfl, by decide, by decide⟩
  have n_found : Nm N_tails 1 "found" := ⟨rfl, by decide, by decide⟩
  have n_word : Nm N_tails 2 "word" := ⟨rfl, by decide, by decide⟩
  have n_some : Nm N_tails 3 "some" := ⟨rfl, by decide, by decide⟩
  have n_number : Nm N_tails 4 "number" := ⟨rfl, by decide, by decide⟩
  have n_other : Nm N_tails 5 "other" := ⟨rfl, by decide, by decide⟩
  have b_enumerate := T.b_enumerate
  have o_need_words := okw_need_words T
  obtain ⟨ws, g⟩ := h
  have g1 := g.good
  have g2 := g.len
  show SB X Z _ [dc (.list (ws.map dS)) [0], none, none, none, none, none] _ _ _
  fail "hexp"
  fail "set"
  refine' sb_for1 (w := 902) ((fun i E O => O = [] ∧ ∃ c2 c3 c4 c5, E = [dc (.list (ws.map dS)) [0], dc (.list ((ws.take i).map fun w => uD (tailM ws w))) [2], c2, c3, c4, c5])) hx n_word ?l0a ?m0a ?ia ?za ?sa ?da ?ta
  case l0a => fail "loc"
  case m0a => fail "locB2"
  case ia => fail "hI"
  case ta => intro _ _; rfl
  case za => exact ⟨rfl, _, _, _, _, rfl⟩
  case da =>
    rintro E O ⟨rfl, c2, c3, c4, c5, rfl⟩
    rw [List.take_length]
    fail "hret"
    exact ⟨rfl, rfl⟩
  case sa =>
    rintro i w E O ha _ ⟨rfl, c2, c3, c4, c5, rfl⟩
    refine ⟨rfl, ?_⟩
    show SB X Z _ [dc (.list (ws.map dS)) [0], dc (.list ((ws.take i).map fun w => uD (tailM ws w))) [2], dc (dS w) [], c3, c4, c5] _ _ _
    refine' sb_set (d := .list ((tailL ws w).map gN)) ?s1 (ER.to ?s2 ?s3) ?s5 ?s4
    case s1 => fail "asg"
    case s2 => fail "her"
    case s3 =>
      unfold tailL
      rw [List.map_map]
      rfl
    case s5 => rfl
    case s4 =>
      have hi : i < ws.length := (List.getElem?_eq_some_iff.mp ha).1
      have hi' : ws[i] = w := (List.getElem?_eq_some_iff.mp ha).2
      show SB X Z _ [dc (.list (ws.map dS)) [0], dc (.list ((ws.take i).map fun w => uD (tailM ws w))) [2], dc (dS w) [], dc (.list ((tailL ws w).map gN)) [4], c4, c5] _ _ _
      refine' sb_append (d := uD (tailM ws w)) (Rv := []) (R' := [2]) (O' := []) hx n_found ?p1 rfl ?p2 rfl rfl rfl (Or.inr rfl) ?p3 ?p4 ?p5 ?p6 ?p7 rfl ?p8 ?p9
      case p1 => fail "vis"
      case p2 =>
        refine' ee_if ?i1 ?i2 ?i3
        case i1 => fail "hT2"
        case i2 =>
          intro hc
          cases ht : tailL ws w with
          | nil => rw [ht] at hc; exact absurd hc (by simp)
          | cons x xs =>
            unfold tailM
            rw [ht]
            refine' (ee_ixL hx ?q1 ee_int (atI_hd _ _) fun _ _ => rfl).flat (R' := []) rfl
            case q1 => fail "hE"
        case i3 =>
          intro hc
          cases ht : tailL ws w with
          | cons x xs => rw [ht] at hc; exact absurd hc (by simp)
          | nil =>
            unfold tailM
            rw [ht]
            exact ee_non
      case p3 =>
        have : flatD (uD (tailM ws w)) = true := by cases tailM ws w <;> rfl
        rw [if_pos this]
      case p4 => rw [List.length_map, List.length_take, sizeLine_eq]; omega
      case p6 => intro _; rfl
      case p7 => intro _; rfl
      case p8 => intro _; rfl
      case p9 => intro _; rfl
      case p5 =>
        refine sb_nil ⟨rfl, dc (dS w) [], dc (.list ((tailL ws w).map gN)) [4], killC [2] c4, killC [2] c5, ?_⟩
        rw [List.take_succ_eq_append_getElem hi, List.map_append, hi']
        rfl

/-! least_room -/
--%MATH Mkeep
inductive A_least_room : List PyData → PyData → Prop
  | mk (ws : List (List Nat)) (g : Ws ws) : A_least_room [.list (ws.map dS)] (.int (roomM ws))
theorem zself : ∀ ws : List (List Nat), ws.zip ws = ws.map fun w => (w, w)
  | [] => rfl
  | w :: ws => by rw [List.zip_cons_cons, List.map_cons, zself ws]
theorem ok_least_room (T : Tx C) : Ok C 4 "least_room" P_least_room (spW A_least_room) := by
  refine ok_W T.d_least_room sc_least_room (by decide) (fun ds r h => by cases h; rfl) fun X hx ds r h hw Z => ?_
  have n_words : Nm N_least_room 0 "words" := ⟨rfl, by decide, by decide⟩
  have n_word : Nm N_least_room 1 "word" := ⟨rfl, by decide, by decide⟩
  have n_other : Nm N_least_room 2 "other" := ⟨rfl, by decide, by decide⟩
  have b_len := T.b_len
  have b_zip := T.b_zip
  have b_sum := T.b_sum
  have o_need_words := okw_need_words T
  have o_tails := ok_tails T
  obtain ⟨ws, g⟩ := h
  have g1 := g.good
  have g2 := g.len
  show SB X Z _ [dc (.list (ws.map dS)) [0], none, none] _ _ _
  fail "hexp"
  refine' sb_ret (P := dP (.int (roomM ws))) (ee_cb hx b_sum ?r1 ?r2 (ea_cons' (EE.to ?r3 ?r4) ea_nil' ?r5) (cf_sum hx) ?r6 ?r7 ?r8 ?r9) ⟨rfl, rfl⟩
  case r1 => fail "gb"
  case r2 => fail "dec"
  case r3 => fail "hE"
  case r4 =>
    refine congrArg PyData.list ?_
    rw [zself, List.filter_map, List.map_map, List.map_map]
    have key : ∀ (p1 p2 : List Nat → Bool), (∀ w, p1 w = p2 w) → ∀ f : List Nat → PyData, List.map f (ws.filter p1) = List.map f (ws.filter p2) := fun p1 p2 h f => by rw [funext h]
    refine key _ _ (fun w => ?_) _
    show (match uD (tailM ws w) with | .none => true | _ => false) = _
    cases tailM ws w <;> rfl
  case r5 => intro _; rfl
  case r6 => decide
  case r7 => decide
  case r8 => intro _; rfl
  case r9 => intro _; rfl

/-! Keeper.__init__ -/
theorem kF_init (t : List Nat) (pd cl : Addr) : putF "coming" (.ref cl) (putF "places" (.ref pd) (putF "kept" (.str (tx t)) [])) = [(("kept" : Str), V.str (tx t)), ("places", .ref pd), ("coming", .ref cl)] := by
  have h1 : ¬ (("kept" : Str) = "places") := by decide +kernel
  have h2 : ¬ (("kept" : Str) = "coming") := by decide +kernel
  have h3 : ¬ (("places" : Str) = "coming") := by decide +kernel
  show putF "coming" (.ref cl) (if ("kept" : Str) = "places" then _ else (("kept" : Str), V.str (tx t)) :: [("places", .ref pd)]) = _
  rw [if_neg h1]
  show (if ("kept" : Str) = "coming" then _ else (("kept" : Str), V.str (tx t)) :: (if ("places" : Str) = "coming" then _ else (("places" : Str), V.ref pd) :: [("coming", .ref cl)])) = _
  rw [if_neg h2, if_neg h3]
theorem ok_Keeper___init__ (T : Tx C) {A : Addr} (c : Cl_Keeper C A) : OkI C A 1 P_Keeper___init__ (spKInit A) := by
  refine ok_init c.i_init sc_Keeper___init__ (fun vs H Q E h => by obtain ⟨p, dx, rfl, _⟩ := h; rfl) fun X hx vs H Q E h => ?_
  obtain ⟨p, dx, rfl, hp, q⟩ := h
  have n_self : Nm N_Keeper___init__ 0 "self" := ⟨rfl, by decide, by decide⟩
  have e0 : (Str.ofString "") = tx [] := by decide +kernel
  refine ⟨_, fun i => pss_cons (show PS (X i) _ (sFld C.K (tVar 0) _ "kept") from by rw [← hx.K i]; exact ps_fld (pe_nm hx n_self (Or.inl rfl) i) pe_str rfl)
    (pss_cons (show PS (X i) _ (sFld C.K (tVar 0) tDNewK "places") from by rw [← hx.K i]; exact ps_fld (pe_nm hx n_self (Or.inl rfl) i) pe_dnewK rfl)
    (pss_one (show PS (X i) _ (sFld C.K (tVar 0) _ "coming") from by rw [← hx.K i]; exact ps_fld (pe_nm hx n_self (Or.inl rfl) i) (pe_lst pa_nil) rfl))), ?_⟩
  refine ⟨_, rfl, p, A, dx, _, rfl, hp, c.cl, c.n_kept, (by show 0 < 1000; decide), fun pd hpd => ?_⟩
  have npd : p ≠ pd := fun z => by rw [← z, upd_same] at hpd; cases hpd
  have hpd0 : H pd = none := grow_upd pd hpd
  refine ⟨_, rfl, p, A, dx, _, rfl, (by rw [upd_ne npd, upd_same]), c.cl, c.n_places, (by show 1 < 1000; decide), (by show 0 ≤ sizeLine; omega), fun cl hcl => ?_⟩
  have ncl : p ≠ cl := fun z => by rw [← z, upd_same] at hcl; cases hcl
  have hcl1 := grow_upd cl hcl
  have npc : pd ≠ cl := fun z => by rw [← z, upd_same] at hcl1; cases hcl1
  have hcl0 : H cl = none := grow_upd cl (grow_upd cl hcl1)
  refine ⟨_, rfl, p, A, dx, _, rfl, (by rw [upd_ne ncl, upd_same]), c.cl, c.n_coming, (by show 2 < 1000; decide), ?_⟩
  refine q pd cl _ hpd0 hcl0 ⟨?_, ?_, ?_⟩ fun b o e hb => ?_
  · rw [upd_same]
    show some (HO.ins A dx (putF "coming" (.ref cl) (putF "places" (.ref pd) (putF "kept" (.str (Str.ofString "")) [])))) = _
    rw [e0, kF_init]
  · rw [upd_ne npd.symm, upd_ne npc, upd_ne npd.symm, upd_same]; rfl
  · rw [upd_ne ncl.symm, upd_same]; rfl
  · have hbp : b ≠ pd := ne_of_none e hpd0
    have hbc : b ≠ cl := ne_of_none e hcl0
    rw [upd_ne hb, upd_ne hbc, upd_ne hb, upd_ne hbp, upd_ne hb]
    exact e

/-! Keeper.put -/
--%MATH Mword
inductive I_put : KS → List PyData → PyData → KS → Prop
  | mk (ks : KS) (w : List Nat) (g : goodM w) (hn : lookP ks.pl w = none → ks.com.length < 40) (hk : ks.kept.length ≤ 1000) (ok : okW ks.kept) (hp : ks.pl.length ≤ 40) (hc : ks.com.length ≤ 40) : I_put ks [dS w] (.int (putS ks w).2) (putS ks w).1
theorem putS_look (ks : KS) (w : List Nat) : lookP (putS ks w).1.pl w = some (putS ks w).2 := by
  have app : ∀ (pl : List (List Nat × Nat)) (i : Nat), lookP pl w = none → lookP (pl ++ [(w, i)]) w = some i := fun pl i h => by
    unfold lookP at h ⊢
    rw [Option.map_eq_none_iff] at h
    rw [List.find?_append, h]
    simp
  unfold putS
  cases h : lookP ks.pl w with
  | some i => exact h
  | none =>
    cases findM ks.kept (w ++ [46]) with
    | some i => exact app _ _ h
    | none => exact app _ _ h
theorem end_dot : (Str.ofString ".").cps.toList = [46] := by decide +kernel
theorem ok_Keeper_put (T : Tx C) {A : Addr} (c : Cl_Keeper C A) : OkM C A 3 "put" P_Keeper_put (spKM A I_put) := by
  refine ok_KM c.m_put sc_Keeper_put (by decide) (fun ks ds r k' h => by cases h; rfl) fun X hx ks ds r k' h hw Z u => ?_
  have n_self : Nm N_Keeper_put 0 "self" := ⟨rfl, by decide, by decide⟩
  have n_word : Nm N_Keeper_put 1 "word" := ⟨rfl, by decide, by decide⟩
  have n_place : Nm N_Keeper_put 2 "place" := ⟨rfl, by decide, by decide⟩
  have b_len := T.b_len
  obtain ⟨k_MOST_WORDS, m_MOST_WORDS⟩ := T.c_MOST_WORDS
  obtain ⟨k_END, m_END⟩ := T.c_END
  have o_need_word := okw_need_word T
  obtain ⟨w, g, hn, hk, ok, hp, hc⟩ := h
  have ok1 := g.ok
  have ccl := c.cl
  have cnk := c.n_kept
  have hdot : (Str.ofString ".").cps.toList.length = 1 := by rw [end_dot]; rfl
  have hz : w.length ≤ 12 := g.2.1
  have wk : wfD (dS ks.kept) := wfD.mkS ok (by rw [sizeLine_eq]; omega)
  show SB X Z _ [none, dc (dS w) [], none] _ _ _
  fail "hexp"
  refine' sb_ifJ (fun E O => (∃ c2, E = [none, dc (dS w) [], c2]) ∧ O = [kob 0 A u (putS ks w).1]) (et_notinp (u := u) (ks := ks) (w := w) hx n_self ?a1 c.cl c.n_places ?a2 ?a3 ?a4) ?b1 ?b2 ?b3
  case a1 => fail "vis"
  case a2 => fail "hE"
  case a3 => exact List.mem_cons_self
  case a4 => intro _; rfl
  case b2 =>
    intro hl
    refine sb_nil ⟨⟨_, rfl⟩, ?_⟩
    unfold putS
    cases hh : lookP ks.pl w with
    | none => rw [hh] at hl; cases hl
    | some i => rfl
  case b3 =>
    rintro E O ⟨⟨c2, rfl⟩, rfl⟩
    have hl2 : lookP (putS ks w).1.pl w = some (putS ks w).2 := putS_look ks w
    refine' sb_ret (ee_getp (w := w) hx n_self ?c1 c.cl c.n_places ?c2 List.mem_cons_self hl2 ?c3 ?c4) ⟨rfl, rfl, rfl⟩
    case c1 => fail "vis"
    case c2 => fail "hE"
    case c3 => intro _; rfl
    case c4 => exact fun _ _ => rfl
  case b1 =>
    intro hl
    have hl : lookP ks.pl w = none := by
      cases hh : lookP ks.pl w with
      | none => rfl
      | some i => rw [hh] at hl; cases hl
    have hl' := hn hl
    have e1 : putS ks w = match findM ks.kept (w ++ [46]) with
        | some i => (⟨ks.kept, ks.pl ++ [(w, i)], ks.com ++ [w]⟩, i)
        | none => (⟨ks.kept ++ w ++ [46], ks.pl ++ [(w, ks.kept.length)], ks.com ++ [w]⟩, ks.kept.length) := by unfold putS; rw [hl]; try rfl
    refine' sb_skip (b := false) (ET.to (et_cmp' (ee_lencom (u := u) (ks := ks) hx b_len ?d1 n_self ?d2 c.cl c.n_coming ?d3 ?d4 ?d5 ?d6) ?d7 of_ge ?d8) ?d9) rfl ?d10
    case d1 => fail "gb"
    case d2 => fail "vis"
    case d3 => exact List.mem_cons_self
    case d4 => intro _; rfl
    case d5 => intro _; rfl
    case d6 => intro _; rfl
    case d7 => fail "hE"
    case d8 => fail "mark"
    case d9 => exact decide_eq_false (by omega)
    case d10 =>
    refine' sb_set (d := .int (findI (findM ks.kept (w ++ [46])))) ?f1 (er_of (EE.to (ee_find (ee_kept (u := u) (ks := ks) hx n_self ?f2 c.cl c.n_kept ?f3 wk ?f4) ?f5 ?f6 ?f7 ?f8) ?f9)) ?f10 ?f11
    case f1 => fail "asg"
    case f2 => fail "vis"
    case f3 => exact List.mem_cons_self
    case f4 => intro _; rfl
    case f5 => fail "hE"
    case f6 => intro _; rfl
    case f7 => intro _; rfl
    case f8 => rfl
    case f9 => rw [end_dot, find_eq (by simp)]
    case f10 => rfl
    case f11 =>
    obtain ⟨kp, hkp⟩ : ∃ kp : List Nat × Nat, kp = match findM ks.kept (w ++ [46]) with | some i => (ks.kept, i) | none => (ks.kept ++ w ++ [46], ks.kept.length) := ⟨_, rfl⟩
    have e2 : putS ks w = (⟨kp.1, ks.pl ++ [(w, kp.2)], ks.com ++ [w]⟩, kp.2) := by
      rw [e1, hkp]
      cases findM ks.kept (w ++ [46]) <;> rfl
    refine' sb_ifJ (fun E O => E = [none, dc (dS w) [], dc (.int (kp.2 : Nat)) []] ∧ O = [kob 0 A u ⟨kp.1, ks.pl, ks.com⟩]) ?g1 ?g2 ?g3 ?g4
    case g1 => fail "hT2"
    case g3 =>
      intro hc
      cases hf : findM ks.kept (w ++ [46]) with
      | none => rw [hf] at hc; exact absurd hc (by decide)
      | some i =>
        rw [hf] at hkp
        subst hkp
        exact sb_nil ⟨rfl, rfl⟩
    case g2 =>
      intro hc
      cases hf : findM ks.kept (w ++ [46]) with
      | some i =>
        rw [hf] at hc
        have := of_decide_eq_true hc
        have : ((i : Nat) : Int) = -1 := this
        omega
      | none =>
        rw [hf] at hkp
        subst hkp
        fail "set"
        refine' sb_setkept (u := u) (ks := ks) (t := ks.kept ++ w ++ [46]) hx n_self ?h1 c.cl c.n_kept (EE.to ?h2 ?h3) ?h4 ?h5 ?h6
        case h1 => fail "vis"
        case h2 => fail "hE"
        case h3 => rw [end_dot]
        case h4 => exact List.mem_cons_self
        case h5 => intro _; rfl
        case h6 => exact sb_nil ⟨rfl, rfl⟩
    case g4 =>
      rintro E O ⟨rfl, rfl⟩
      refine' sb_putp (u := u) (ks := ⟨kp.1, ks.pl, ks.com⟩) (w := w) (i0 := kp.2) hx n_self ?i1 c.cl c.n_places ?i2 ?i3 List.mem_cons_self hl ?i4 ?i5 ?i6 ?i7
      case i1 => fail "vis"
      case i2 => fail "hE"
      case i3 => fail "hE"
      case i4 => show ks.pl.length < 1000; omega
      case i5 => intro _; rfl
      case i6 => intro _; rfl
      case i7 =>
        refine' sb_appc (u := u) (ks := ⟨kp.1, ks.pl ++ [(w, kp.2)], ks.com⟩) (w := w) hx n_self ?k1 c.cl c.n_coming ?k2 List.mem_cons_self ?k3 ?k4 ?k5 ?k6 ?k7 ?k8 ?k9 ?k10
        case k1 => fail "vis"
        case k2 => fail "hE"
        case k3 => show ks.com.length < 1000; omega
        case k4 => intro _; rfl
        case k5 => intro _; rfl
        case k6 => intro _; rfl
        case k7 => rfl
        case k8 => intro _; rfl
        case k9 => intro _; rfl
        case k10 =>
          refine sb_nil ⟨⟨_, rfl⟩, ?_⟩
          rw [e2]; rfl

/-! Keeper.text -/
--%MATH Mword
inductive I_text : KS → List PyData → PyData → KS → Prop
  | mk (ks : KS) (hk : ks.kept.length ≤ 1000) (ok : okW ks.kept) : I_text ks [] (dS ks.kept) ks
theorem ok_Keeper_text (T : Tx C) {A : Addr} (c : Cl_Keeper C A) : OkM C A 1 "text" P_Keeper_text (spKM A I_text) := by
  refine ok_KM c.m_text sc_Keeper_text (by decide) (fun ks ds r k' h => by cases h; rfl) fun X hx ks ds r k' h hw Z u => ?_
  have n_self : Nm N_Keeper_text 0 "self" := ⟨rfl, by decide, by decide⟩
  obtain ⟨hk, ok⟩ := h
  have ccl := c.cl
  have cnk := c.n_kept
  have wk : wfD (dS ks.kept) := wfD.mkS ok (by rw [sizeLine_eq]; omega)
  refine' sb_ret ?r1 ⟨rfl, rfl, rfl⟩
  case r1 => fail "hE"

/-! Keeper.words -/
--%MATH Mclosed
def wpD (q : List Nat × Nat) : PyData := .tuple [dS q.1, .int (q.2 : Nat)]
inductive I_words : KS → List PyData → PyData → KS → Prop
  | mk (ks : KS) (hk : ks.pl.map (·.1) = ks.com) (hl : ∀ q ∈ ks.pl, lookP ks.pl q.1 = some q.2) (hz : ks.pl.length ≤ 40) (hw : ∀ w ∈ ks.com, goodM w) : I_words ks [] (.list (ks.pl.map wpD)) ks
theorem ok_Keeper_words (T : Tx C) {A : Addr} (c : Cl_Keeper C A) : OkM C A 1 "words" P_Keeper_words (spKM A I_words) := by
  refine ok_KM c.m_words sc_Keeper_words (by decide) (fun ks ds r k' h => by cases h; rfl) fun X hx ks ds r k' h hw Z u => ?_
  have n_self : Nm N_Keeper_words 0 "self" := ⟨rfl, by decide, by decide⟩
  have n_word : Nm N_Keeper_words 1 "word" := ⟨rfl, by decide, by decide⟩
  obtain ⟨hk, hl, hz, hg⟩ := h
  have ccl := c.cl
  have hcz : ks.com.length ≤ 40 := by rw [← hk, List.length_map]; exact hz
  refine' sb_ret (EE.to (ee_lcJ (pr := fun _ => true) (f := fun w => wpD (w, (lookP ks.pl w).getD 0)) (g := dS) (l := ks.com) (Re := []) hx n_word ?a1 ?a2 ?a3 (ej_com (u := u) (ks := ks) hx n_self ?a4 c.cl c.n_coming List.mem_cons_self ?a5 ?a6) List.mem_cons_self ?a7 ?a8 (fun _ _ _ _ => ets_nil') ?a9 ?a10) ?a11) ⟨rfl, rfl, rfl⟩
  case a1 => fail "loc"
  case a2 => fail "locB"
  case a3 => fail "dec"
  case a4 => fail "vis"
  case a5 => exact fun w hw => wfD.mkS (hg w hw).ok (by have := (hg w hw).2.1; rw [sizeLine_eq]; omega)
  case a6 => intro _; rfl
  case a7 => rfl
  case a8 => rw [sizeLine_eq]; omega
  case a10 => intro _ _; rfl
  case a9 =>
    intro w hw' _ _ hxb
    have hm : w ∈ ks.pl.map (·.1) := hk ▸ hw'
    obtain ⟨q, hq, rfl⟩ := List.mem_map.mp hm
    have hlq := hl q hq
    refine' EE.to (ee_tup (ea_consR (R3 := []) ?b1 ?b2 (ea_consR (R3 := []) (ee_getp (u := u) (ks := ks) (w := q.1) hxb n_self ?b3 c.cl c.n_places ?b4 List.mem_cons_self hlq ?b5 ?b6) ?b7 ea_nil' ?b8) ?b9) ?b10) ?b11
    case b1 => fail "hE"
    case b2 => fail "rof"
    case b3 => fail "vis"
    case b4 => fail "hE"
    case b5 => intro _; rfl
    case b6 => exact fun _ _ => rfl
    case b7 => fail "rof"
    case b8 => intro _; rfl
    case b9 => intro _; rfl
    case b10 => rw [sizeLine_eq]; show 2 < 16777216; decide
    case b11 => show _ = wpD (q.1, _); rw [hlq]; rfl
  case a11 =>
    rw [List.filter_eq_self.mpr fun _ _ => rfl, ← hk, List.map_map]
    refine congrArg PyData.list (List.map_congr_left fun q hq => ?_)
    show wpD (q.1, (lookP ks.pl q.1).getD 0) = _
    rw [hl q hq]; rfl

/-! wasted -/
--%MATH Mkeep
inductive A_wasted : List PyData → PyData → Prop
  | mk (ws : List (List Nat)) (g : Ws ws) : A_wasted [.list (ws.map dS)] (.int ((keptM ws).length - roomM ws))
theorem ok_wasted (T : Tx C) : Ok C 5 "wasted" P_wasted (spW A_wasted) := by
  refine ok_W T.d_wasted sc_wasted (by decide) (fun ds r h => by cases h; rfl) fun X hx ds r h hw Z => ?_
  have n_words : Nm N_wasted 0 "words" := ⟨rfl, by decide, by decide⟩
  have n_keeper : Nm N_wasted 1 "keeper" := ⟨rfl, by decide, by decide⟩
  have n_word : Nm N_wasted 2 "word" := ⟨rfl, by decide, by decide⟩
  have b_len := T.b_len
  have o_need_words := okw_need_words T
  have o_least_room := ok_least_room T
  obtain ⟨A_Keeper, c_Keeper⟩ := T.c_Keeper
  have o_Keeper___init__ := ok_Keeper___init__ T c_Keeper
  have o_Keeper_put := ok_Keeper_put T c_Keeper
  have o_Keeper_text := ok_Keeper_text T c_Keeper
  have o_Keeper_words := ok_Keeper_words T c_Keeper
  obtain ⟨ws, g⟩ := h
  have g1 := g.good
  have g2 := g.len
  have ccl := c_Keeper.cl
  have cnk := c_Keeper.n_kept
  have kf := kOk rfl g.nd g.good
  show SB X Z _ [dc (.list (ws.map dS)) [0], none, none] _ _ _
  refine' sb_make hx o_Keeper___init__ ?k1 ?k2 c_Keeper.mg n_keeper ?k3 ?k4 ?k5 rfl ?k6 ?k7 ?k8
  case k1 => fail "lvl"
  case k2 => fail "gb"
  case k3 => fail "loc"
  case k4 => fail "locB2"
  case k5 => show 1 < 3; decide
  case k6 => intro _; rfl
  case k7 => decide
  case k8 =>
    intro u
    show SB X Z _ [dc (.list (ws.map dS)) [0], none, none] [kob 1 A_Keeper u (kI ws 0)] _ _
    fail "hexp"
    refine' sb_for1 (w := 904) ((fun i E O => O = [kob 1 A_Keeper u (kI ws i)] ∧ ∃ c2, E = [dc (.list (ws.map dS)) [0], none, c2])) hx n_word ?l0a ?m0a ?ia ?za ?sa ?da ?ta
    case l0a => fail "loc"
    case m0a => fail "locB2"
    case ia => fail "hI"
    case ta => intro _ _; rfl
    case za => exact ⟨rfl, _, rfl⟩
    case da =>
      rintro E O ⟨rfl, c2, rfl⟩
      rw [show kI ws ws.length = kM ws by unfold kI; rw [List.take_length]]
      have wk : wfD (dS (kM ws).kept) := wfD.mkS kf.ok (by have := kf.len; rw [sizeLine_eq]; omega)
      rw [← kf.kept]
      refine' sb_ret ?r1 ⟨rfl, rfl⟩
      case r1 => fail "hE"
    case sa =>
      rintro i w E O ha _ ⟨rfl, c2, rfl⟩
      refine ⟨rfl, ?_⟩
      have hi : i < ws.length := (List.getElem?_eq_some_iff.mp ha).1
      have hi' : ws[i] = w := (List.getElem?_eq_some_iff.mp ha).2
      have gw : goodM w := hi' ▸ g1 _ (List.getElem_mem hi)
      have ko := kI_ok g i
      have l1 : (ws.take i).length = i := by rw [List.length_take]; omega
      have l2 : (kI ws i).pl.length = i := by have := congrArg List.length ko.keys; rwa [List.length_map, l1] at this
      have l3 : (kI ws i).com.length = i := by rw [ko.com, l1]
      have l4 := ko.len
      show SB X Z _ [dc (.list (ws.map dS)) [0], none, dc (dS w) []] _ _ _
      refine' sb_drop (ee_km hx o_Keeper_put ?m1 c_Keeper.cl n_keeper ?m2 List.mem_cons_self ?m3 (fun _ => .mk (kI ws i) w gw (fun _ => by omega) (by omega) ko.ok (by omega) (by omega)) ?m4 ?m5 ?m6 ?m7 ?m8 ?m9) ?m10 ?m11
      case m1 => fail "lvl"
      case m2 => fail "vis"
      case m3 => fail "hA"
      case m4 => decide
      case m5 => decide
      case m6 => decide
      case m7 => intro _; rfl
      case m8 => intro _; rfl
      case m9 => intro _; rfl
      case m10 => intro _; rfl
      case m11 =>
        refine sb_nil ⟨?_, dc (dS w) [], rfl⟩
        have e : kI ws (i + 1) = (putS (kI ws i) w).1 := by
          unfold kI
          rw [List.take_succ_eq_append_getElem hi, kM_snoc, hi']
        rw [e]; rfl

/-! laid -/
--%MATH Mlay
inductive A_laid : List PyData → PyData → Prop
  | mk (ws : List (List Nat)) (g : Ws ws) : A_laid [.list (ws.map dS)] (.tuple [dS (layM ws).1, .list ((layM ws).2.map gN)])
theorem ok_laid (T : Tx C) : Ok C 4 "laid" P_laid (spP A_laid) := by
  refine ok_pure T.d_laid sc_laid (fun ds r h => by cases h; rfl) fun X hx ds r h F vs hv D hr hn => ?_
  have n_words : Nm N_laid 0 "words" := ⟨rfl, by decide, by decide⟩
  have n_text : Nm N_laid 1 "text" := ⟨rfl, by decide, by decide⟩
  have n_begins : Nm N_laid 2 "begins" := ⟨rfl, by decide, by decide⟩
  have n_reason : Nm N_laid 3 "reason" := ⟨rfl, by decide, by decide⟩
  have o_need_words := ok_need_words T
  have o_gone := ok_gone T
  obtain ⟨ws, g⟩ := h
  obtain ⟨v0, _, rfl, a0, hv⟩ := hv.inv
  obtain rfl := hv.end_
  have g1 := g.good
  have g2 := g.len
  refine ex_drop (T := Any) (by fail "ev") ?_
  fail "unp3"
  intro v u w F1 f1 av au aw
  obtain rfl := av.scal rfl
  refine' ex_ret (T := fun a => F a = none) ?zr1 ?zr2
  case zr1 => fail "ev"
  case zr2 => exact fun v F3 H hm f3 rv => hr v F3 H hm (f1.trans f3) rv
theorem okw_laid (T : Tx C) : Ok C 4 "laid" P_laid (spW A_laid) := by
  exact (ok_laid T).toW fun ds d hw h => ⟨h, by obtain ⟨ws, g⟩ := h; exact lay_wf g.good g.len⟩

/-! reason -/
--%MATH Mlay
inductive A_reason : List PyData → PyData → Prop
  | mk (ws : List (List Nat)) (g : Ws ws) : A_reason [.list (ws.map dS)] (.list ((resM ws).map gR))
theorem ok_reason (T : Tx C) : Ok C 4 "reason" P_reason (spP A_reason) := by
  refine ok_pure T.d_reason sc_reason (fun ds r h => by cases h; rfl) fun X hx ds r h F vs hv D hr hn => ?_
  have n_words : Nm N_reason 0 "words" := ⟨rfl, by decide, by decide⟩
  have o_need_words := ok_need_words T
  have o_gone := ok_gone T
  obtain ⟨ws, g⟩ := h
  obtain ⟨v0, _, rfl, a0, hv⟩ := hv.inv
  obtain rfl := hv.end_
  have g1 := g.good
  have g2 := g.len
  refine ex_drop (T := Any) (by fail "ev") ?_
  fail "ret"
  exact fun v F3 H hm f3 rv => hr v F3 H hm f3 rv
theorem okw_reason (T : Tx C) : Ok C 4 "reason" P_reason (spW A_reason) := by
  exact (ok_reason T).toW fun ds d hw h => ⟨h, by obtain ⟨ws, g⟩ := h; exact res_wf g.good g.len⟩

/-! other -/
--%MATH Mturn
theorem abcz_tx : (Str.ofString "abcz") = tx abczL := by decide +kernel
theorem occ_at : ∀ c ∈ abczL, Builtin.Str.occurrences (tx abczL) (tx [c]) 0 (tx abczL).length 1 = abczL.idxOf c :: [] := by decide +kernel
theorem phi_at {a b c d : Nat} : ∀ x ∈ abczL, [a, b, c, d].getD (abczL.idxOf x) default = phiM a b c d x := fun x hx => by
  have hx : x = 97 ∨ x = 98 ∨ x = 99 ∨ x = 122 := by simpa [abczL] using hx
  rcases hx with e | e | e | e <;> subst e <;> rfl
theorem idx_lt4 : ∀ x ∈ abczL, abczL.idxOf x < 4 := by decide +kernel
inductive A_other : List PyData → PyData → Prop
  | mk (a b c d : Nat) (w : List Nat) (ov : over abczL w) (hl : w.length ≤ 1000) (ok : okW [a, b, c, d]) : A_other [dS w, dS [a, b, c, d]] (dS (w.map (phiM a b c d)))
theorem flat_one (f : Nat → Nat) (w : List Nat) : (w.map fun c => [f c]).flatten = w.map f := by
  induction w with
  | nil => rfl
  | cons x w ih => rw [List.map_cons, List.flatten_cons, ih]; rfl
theorem sum_one (f : Nat → Nat) (w : List Nat) : ((w.map fun c => [f c]).map (·.length)).sum = w.length := by
  induction w with
  | nil => rfl
  | cons x w ih => rw [List.map_cons, List.map_cons, List.sum_cons, ih, List.length_cons]; exact Nat.add_comm 1 _
theorem ok_other (T : Tx C) : Ok C 1 "_law_other" P_other (spW A_other) := by
  refine ok_W T.d_other sc_other (by decide) (fun ds r h => by cases h; rfl) fun X hx ds r h hw Z => ?_
  have n_word_here : Nm N_other 0 "_law_word_here" := ⟨rfl, by decide, by decide⟩
  have n_letters : Nm N_other 1 "_law_letters" := ⟨rfl, by decide, by decide⟩
  have n_sign : Nm N_other 2 "_law_sign" := ⟨rfl, by decide, by decide⟩
  obtain ⟨a, b, c, d, w, ov, hl, ok⟩ := h
  show SB X Z _ [dc (dS w) [], dc (dS [a, b, c, d]) [], none] _ _ _
  have okr : okW (w.map (phiM a b c d)) := fun x hx => by
    obtain ⟨y, hy, rfl⟩ := List.mem_map.mp hx
    rw [← phi_at y (ov y hy)]
    exact ok _ (getD_mem (idx_lt4 y (ov y hy)))
  refine' sb_ret (P := dP (dS (w.map (phiM a b c d)))) (EE.to (ee_join0 (ws := w.map fun x => [phiM a b c d x]) hx ?j1 (EE.to (ee_lc0 (l := w) (g := fun x => dS [x]) (f := fun x => dS [phiM a b c d x]) (Re := []) hx n_sign ?c1 ?c2 ?c3 ?c4 ?c5 ?c6 ?c7 ?c8) ?c9) ?j2 ?j3 ?j4 ?j5 ?j6) ?j7) ⟨rfl, rfl⟩
  case j1 => fail "hE"
  case c1 => fail "loc"
  case c2 => fail "locB"
  case c3 => fail "dec"
  case c4 => fail "hI"
  case c5 => rfl
  case c6 => rw [sizeLine_eq]; omega
  case c8 => intro _ _; rfl
  case c9 => rw [List.map_map]; rfl
  case j2 => rw [sum_one]; exact Nat.le_trans hl (by decide)
  case j3 => rw [flat_one]; exact wfD.mkS okr (by rw [List.length_map, sizeLine_eq]; omega)
  case j4 => intro _; rfl
  case j5 => intro _; rfl
  case j6 => rfl
  case j7 => rw [flat_one]
  case c7 =>
    intro x hx' hwf hxb
    have hm := ov x hx'
    have hi := idx_lt4 x hm
    refine' EE.to (ee_ixSn (i := (abczL.idxOf x : Nat)) (w := [a, b, c, d]) ?d1 (ee_sindex (u := abczL) (w := [x]) (rest := []) (EE.to ?d2 ?d3) ?d4 (occ_at x hm) ?d5 ?d6 ?d7) ?d8 ?d9 ?d10) ?d11
    case d1 => fail "hE"
    case d2 => exact ee_str (by fail "dec")
    case d3 => exact congrArg PyData.str abcz_tx
    case d4 => fail "hE"
    case d5 => intro _; rfl
    case d6 => intro _; rfl
    case d7 => rfl
    case d8 => omega
    case d9 => show ((abczL.idxOf x : Nat) : Int) < 4; omega
    case d10 => exact fun _ _ => rfl
    case d11 => rw [Int.toNat_natCast, phi_at x hm]

/-! fits -/
--%MATH Mword
--%MATH Mover
--%MATH Mdraw
--%MATH Mws
--%MATH Mlay
--%MATH Mleast
--%MATH Mrows
--%MATH Mkeep
--%MATH Mclosed
--%MATH Mfind
--%MATH Mplan
--%MATH Mopt
--%MATH Mturn
section
variable {C : Ctx} {N : List Str} {sc : Scope} {fn : Str → Bool} {k : Nat} {J : Type} {X : J → Cx}
variable {Z : Hp} {E : List Cell} {O O1 O2 : List Ob} {a b : Expr} {R1 R2 : List Nat} {d : PyData} {pos : Pos}
theorem et_same (hx : SX C N sc fn k X) (ha : ED X Z E O a d R1 O1) (hb : ED X Z E O1 b d R2 O2) (hd : PyData.depth d ≤ 64) (hm : behindInMarks .NotEq b = false) : ET X Z E O (.Compare a [.NotEq] [b] pos) false O2 :=
  et_cmp' ha hb (fun w1 w2 => (of_ne hx hd hd).to (by rw [PySem.SeqAt.eqv_refl _ w1.can]; rfl) w1 w2) hm
end
structure Let4 (a b c d : Nat) : Prop where
  h1 : 97 ≤ a
  h2 : a < b
  h3 : b < c
  h4 : c < d
  h5 : d ≤ 122
inductive A_lfits : List PyData → PyData → Prop
  | mk (ws : List (List Nat)) (a b c d : Nat) (g : Ws ws) (ov : ∀ w ∈ ws, over abczL w) (h8 : (freeM ws).length ≤ 8) (lt : Let4 a b c d) : A_lfits [.list (ws.map dS), dS [a, b, c, d]] (.bool true)
theorem other_ws {ws : List (List Nat)} {a b c d : Nat} (g : Ws ws) (ov : ∀ w ∈ ws, over abczL w) (lt : Let4 a b c d) : Ws (mW (phiM a b c d) ws) := by
  have hr := phi_ren lt.h1 lt.h2 lt.h3 lt.h4 lt.h5
  refine ⟨fun w hw => ?_, List.pairwise_map.mpr (g.nd.imp fun {u w} h e => h (map_inj2 hr e)), fun e => g.ne (List.map_eq_nil_iff.mp e), by rw [List.length_map]; exact g.len⟩
  obtain ⟨u, hu, rfl⟩ := List.mem_map.mp hw
  exact good_mp lt.h1 lt.h2 lt.h3 lt.h4 lt.h5 (g.good u hu) (ov u hu)
theorem let_ok {a b c d : Nat} (lt : Let4 a b c d) : okW [a, b, c, d] := fun x hx => by
  have hx : x = a ∨ x = b ∨ x = c ∨ x = d := by simpa using hx
  have := lt.h1; have := lt.h2; have := lt.h3; have := lt.h4; have := lt.h5
  omega
theorem over_lay {ws : List (List Nat)} {A : List Nat} (ov : ∀ w ∈ ws, over A w) : over A (layM ws).1 := by
  have : ∀ (l : List (List Nat)) (s : List Nat × List Nat), (∀ w ∈ l, over A w) → over A s.1 → over A (l.foldl layStep s).1 := fun l => by
    induction l with
    | nil => exact fun s _ h => h
    | cons w l ih =>
      intro s hl hs
      refine ih _ (fun u hu => hl u (List.mem_cons_of_mem _ hu)) ?_
      have hw := hl w List.mem_cons_self
      show over A (txM s.1 w _)
      intro x hx
      unfold txM at hx
      rcases List.mem_append.mp hx with z | z
      · exact hs x z
      · exact hw x (List.mem_of_mem_drop z)
  exact this ws ([], []) ov fun _ h => nomatch h
theorem depNs (l : List Nat) : PyData.depth (.list (l.map gN)) ≤ 1 := depLM fun _ => Nat.le_refl _
theorem dep_tup {l : List PyData} (h : ∀ d ∈ l, PyData.depth d ≤ 3) : PyData.depth (.tuple l) ≤ 64 := Nat.le_trans (depT h) (by decide)
theorem dep_p2 (u : List Nat) (l : List Nat) : PyData.depth (.tuple [dS u, .list (l.map gN)]) ≤ 64 := dep_tup fun d hd => by
  rcases List.mem_cons.mp hd with rfl | hd
  · exact Nat.zero_le _
  · rw [List.mem_singleton.mp hd]; exact Nat.le_trans (depNs _) (by decide)
theorem dep_p3 (i : Int) (l u : List Nat) : PyData.depth (.tuple [.int i, .list (l.map gN), dS u]) ≤ 64 := dep_tup fun d hd => by
  rcases List.mem_cons.mp hd with rfl | hd
  · exact Nat.zero_le _
  · rcases List.mem_cons.mp hd with rfl | hd
    · exact Nat.le_trans (depNs _) (by decide)
    · rw [List.mem_singleton.mp hd]; exact Nat.zero_le _
theorem dep_rows (u w : List Nat) : PyData.depth (.list (rowsM u w)) ≤ 64 := Nat.le_trans (depLM (n := 1) fun i => Nat.le_refl 1) (by decide)
theorem ok_l_fits (T : Tx C) : Ok C 21 "_law_fits" P_l_fits (spW A_lfits) := by
  refine ok_W T.d_l_fits sc_l_fits (by decide) (fun ds r h => by cases h; rfl) fun X hx ds r h hw Z => ?_
  have n_words_here : Nm N_l_fits 0 "_law_words_here" := ⟨rfl, by decide, by decide⟩
  have n_letters : Nm N_l_fits 1 "_law_letters" := ⟨rfl, by decide, by decide⟩
  have n_others : Nm N_l_fits 2 "_law_others" := ⟨rfl, by decide, by decide⟩
  have n_text : Nm N_l_fits 3 "_law_text" := ⟨rfl, by decide, by decide⟩
  have n_begins : Nm N_l_fits 4 "_law_begins" := ⟨rfl, by decide, by decide⟩
  have n_room : Nm N_l_fits 5 "_law_room" := ⟨rfl, by decide, by decide⟩
  have n_order : Nm N_l_fits 6 "_law_order" := ⟨rfl, by decide, by decide⟩
  have n_word_here : Nm N_l_fits 7 "_law_word_here" := ⟨rfl, by decide, by decide⟩
  have o_why_no_more := okw_why_no_more T
  have o_index := ok_index T
  have o_sought := ok_sought T
  have o_tails := ok_tails T
  have o_least_room := ok_least_room T
  have o_wasted := ok_wasted T
  have o_laid := okw_laid T
  have o_reason := okw_reason T
  have o_free := ok_free T
  have o_best := ok_best T
  have o_other := ok_other T
  obtain ⟨ws, a, b, c, d, g, ov, h8, lt⟩ := h
  have g1 := g.good
  have g2 := g.len
  have hr := phi_ren lt.h1 lt.h2 lt.h3 lt.h4 lt.h5
  have hm := phi_mono lt.h1 lt.h2 lt.h3 lt.h4 lt.h5
  have okl := let_ok lt
  have gO := other_ws g ov lt
  have gn : ∀ w ∈ ws, w ≠ [] := fun w hw e => by have := (g1 w hw).1; rw [e] at this; simp at this
  have hp : 0 < ws.length := List.length_pos_iff.mpr g.ne
  have hwl : ∀ w, over abczL w → w.length ≤ 1000 → A_other [dS w, dS [a, b, c, d]] (dS (w.map (phiM a b c d))) := fun w h1 h2 => .mk a b c d w h1 h2 okl
  have lay2 := lay_mp hr ws
  have res2 := res_mp hr ws
  have fr2 := free_mp hr gn
  have bv2 := bestV_mp hr gn
  have bt2 := bestT_mp hr gn
  have ta2 := tails_mp hr ws
  have ro2 := room_mp hr ws
  have ke2 := kept_mp hr ws
  have or2 := ord_mp hr hm ov
  have tl2 := fun w hw => tlD_mp hr hm ov (w := w) hw
  have ovL := over_lay ov
  have llen : (layM ws).1.length ≤ 480 := by
    have h := (layI_ok g1 ws.length (Nat.le_refl _)).1
    rw [layI_all] at h
    omega
  show SB X Z _ [dc (.list (ws.map dS)) [0], dc (dS [a, b, c, d]) [], none, none, none, none, none, none] _ _ _
  refine' sb_set (d := .list ((mW (phiM a b c d) ws).map dS)) ?s1 (ER.to (lcR0' (l := ws) (g := dS) (f := fun w => dS (w.map (phiM a b c d))) (Re := []) hx n_word_here ?c1 ?c2 ?c3 ?c4 ?c5 ?c6 ?c7) ?s3) ?s5 ?s4
  case s1 => fail "asg"
  case c1 => fail "loc"
  case c2 => fail "locB"
  case c3 => fail "dec"
  case c4 => fail "hI"
  case c5 => rfl
  case c6 => rw [sizeLine_eq]; omega
  case c7 =>
    intro w hw hwf hxb
    refine' ee_call hxb o_other ?y1 ?y2 ?y3 (fun _ => hwl w (ov w hw) (by have := (g1 w hw).2.1; omega)) ?y5 ?y6 ?y7
    case y1 => fail "lvl"
    case y2 => fail "gb"
    case y3 => fail "hA"
    case y5 => decide
    case y6 => intro _; rfl
    case y7 => intro _; rfl
  case s3 => rw [List.map_map]; rfl
  case s5 => rfl
  case s4 =>
  show SB X Z _ [dc (.list (ws.map dS)) [0], dc (dS [a, b, c, d]) [], dc (.list ((mW (phiM a b c d) ws).map dS)) [3], none, none, none, none, none] _ _ _
  fail "un2"
  show SB X Z _ [dc (.list (ws.map dS)) [0], dc (dS [a, b, c, d]) [], dc (.list ((mW (phiM a b c d) ws).map dS)) [3], dc (dS (layM ws).1) [], dc (.list ((layM ws).2.map gN)) [4], none, none, none] _ _ _
  refine' sb_skip (b := false) (ET.to (et_w' (ew_or' (k := false) ?v1 (fun _ => ew_or1' (k := false) ?v2))) rfl) rfl ?v4
  case v1 =>
    refine' et_same (d := (.tuple [dS ((layM ws).1.map (phiM a b c d)), .list ((layM ws).2.map gN)])) hx (EE.to (d1 := .tuple [dS (layM (mW (phiM a b c d) ws)).1, .list ((layM (mW (phiM a b c d) ws)).2.map gN)]) ?v1a ?v1b) ?v1c ?v1d ?v1e
    case v1a => fail "hE"
    case v1b => rw [lay2]
    case v1c => fail "hE"
    case v1d => exact dep_p2 _ _
    case v1e => fail "mark"
  case v2 =>
    refine' et_same (d := (.list ((resM ws).map gR))) hx (EE.to (d1 := .list ((resM (mW (phiM a b c d) ws)).map gR)) ?v2a ?v2b) ?v2c ?v2d ?v2e
    case v2a => fail "hE"
    case v2b => rw [res2]
    case v2c => fail "hE"
    case v2d => exact Nat.le_trans (depLM (n := 1) fun i => Nat.le_refl 1) (by decide)
    case v2e => fail "mark"
  case v4 =>
  have bi := best_inv8 h8
  have hmem : ∀ n ∈ (bestV ws).2, n < ws.length := fun n hn => free_lt n (bi.mem n hn)
  have hol : (bestV ws).2.length ≤ 8 := by
    have := bi.len
    rw [rem_nil] at this
    exact Nat.le_trans this h8
  have hG : ∀ w ∈ (bestV ws).2.map (fun n => ws.getD n default), w ∈ ws := fun w hw => by
    obtain ⟨n, hn, rfl⟩ := List.mem_map.mp hw
    exact getD_memL (hmem n hn)
  have ovT : over abczL (layM ((bestV ws).2.map fun n => ws.getD n default)).1 := over_lay fun w hw => ov w (hG w hw)
  have tlen : (layM ((bestV ws).2.map fun n => ws.getD n default)).1.length ≤ 1000 := by
    have h := (layI_ok (ws := (bestV ws).2.map fun n => ws.getD n default) (fun w hw => g1 w (hG w hw)) _ (Nat.le_refl _)).1
    rw [layI_all, List.length_map] at h
    omega
  have h8' : (freeM (mW (phiM a b c d) ws)).length ≤ 8 := by rw [fr2]; exact h8
  refine' sb_unpack3 (d1 := .int ((bestV ws).1 : Nat)) (d2 := .list ((bestV ws).2.map gN)) (d3 := dS (layM ((bestV ws).2.map fun n => ws.getD n default)).1) hx n_room n_order n_text ?u1 ?u2 ?u3 ?u4 ?u5 ?u6 (EE.to (d1 := bestD ws) ?u7 rfl) ?u8 ?u9 ?u10 ?u11 ?u12
  case u1 => fail "loc"
  case u2 => fail "loc"
  case u3 => fail "loc"
  case u4 => fail "locB2"
  case u5 => fail "locB2"
  case u6 => fail "locB2"
  case u7 => fail "hE"
  case u8 => rfl
  case u10 => intro _; rfl
  case u11 => intro _; rfl
  case u12 => intro _; rfl
  case u9 =>
  show SB X Z _ [dc (.list (ws.map dS)) [0], dc (dS [a, b, c, d]) [], dc (.list ((mW (phiM a b c d) ws).map dS)) [3], dc (dS (layM ((bestV ws).2.map fun n => ws.getD n default)).1) [], dc (.list ((layM ws).2.map gN)) [4], dc (.int ((bestV ws).1 : Nat)) [], dc (.list ((bestV ws).2.map gN)) [6], none] _ _ _
  refine' sb_skip (b := false) (ET.to (et_w' (ew_or' (k := false) ?v1 (fun _ => ew_or1' (k := false) ?v2))) rfl) rfl ?v4
  case v1 =>
    refine' et_same (d := (.tuple [.int ((bestV ws).1 : Nat), .list ((bestV ws).2.map gN), dS ((layM ((bestV ws).2.map fun n => ws.getD n default)).1.map (phiM a b c d))])) hx (EE.to (d1 := bestD (mW (phiM a b c d) ws)) ?v1a ?v1b) ?v1c ?v1d ?v1e
    case v1a => fail "hE"
    case v1b => unfold bestD; rw [bt2, bv2]
    case v1c => fail "hE"
    case v1d => exact dep_p3 _ _ _
    case v1e => fail "mark"
  case v2 =>
    refine' et_same (d := (.list ((freeM ws).map gN))) hx (EE.to (d1 := .list ((freeM (mW (phiM a b c d) ws)).map gN)) ?v2a ?v2b) ?v2c ?v2d ?v2e
    case v2a => fail "hE"
    case v2b => rw [fr2]
    case v2c => fail "hE"
    case v2d => exact Nat.le_trans (depNs _) (by decide)
    case v2e => fail "mark"
  case v4 =>
  refine' sb_skip (b := false) (ET.to (et_w' (ew_or' (k := false) ?v1 (fun _ => ew_or' (k := false) ?v2 (fun _ => ew_or1' (k := false) ?v3)))) rfl) rfl ?v4
  case v1 =>
    refine' et_same (d := (.list ((ordM ws).map gN))) hx (EE.to (d1 := .list ((ordM (mW (phiM a b c d) ws)).map gN)) ?v1a ?v1b) ?v1c ?v1d ?v1e
    case v1a => fail "hE"
    case v1b => rw [or2]
    case v1c => fail "hE"
    case v1d => exact Nat.le_trans (depNs _) (by decide)
    case v1e => fail "mark"
  case v2 =>
    refine' et_same (d := (.list (ws.map fun w => uD (tailM ws w)))) hx (EE.to (d1 := .list ((mW (phiM a b c d) ws).map fun w => uD (tailM (mW (phiM a b c d) ws) w))) ?v2a ?v2b) ?v2c ?v2d ?v2e
    case v2a => fail "hE"
    case v2b => rw [ta2]
    case v2c => fail "hE"
    case v2d => exact Nat.le_trans (depLM (n := 0) fun w => by cases tailM ws w <;> exact Nat.le_refl _) (by decide)
    case v2e => fail "mark"
  case v3 =>
    refine' et_same (d := (.int ((keptM ws).length - roomM ws))) hx (EE.to (d1 := .int ((keptM (mW (phiM a b c d) ws)).length - roomM (mW (phiM a b c d) ws))) ?v3a ?v3b) ?v3c ?v3d ?v3e
    case v3a => fail "hE"
    case v3b => rw [ke2, ro2]
    case v3c => fail "hE"
    case v3d => exact Nat.zero_le _
    case v3e => fail "mark"
  case v4 =>
  refine' sb_skip (b := false) ?v1 rfl ?v4
  case v1 =>
    refine' et_same (d := (.int (roomM ws))) hx (EE.to (d1 := .int (roomM (mW (phiM a b c d) ws))) ?v1a ?v1b) ?v1c ?v1d ?v1e
    case v1a => fail "hE"
    case v1b => rw [ro2]
    case v1c => fail "hE"
    case v1d => exact Nat.zero_le _
    case v1e => fail "mark"
  case v4 =>
  have hp2 : 0 < (mW (phiM a b c d) ws).length := by rw [List.length_map]; exact hp
  have gz : goodM (ws.getD (0 : Int).toNat default) := g1 _ (getD_memL hp)
  have gz2 : goodM ((mW (phiM a b c d) ws).getD (0 : Int).toNat default) := gO.good _ (getD_memL hp2)
  refine' sb_for1 (w := 902) ((fun i E O => O = [] ∧ ∃ c7, E = [dc (.list (ws.map dS)) [0], dc (dS [a, b, c, d]) [], dc (.list ((mW (phiM a b c d) ws).map dS)) [3], dc (dS (layM ((bestV ws).2.map fun n => ws.getD n default)).1) [], dc (.list ((layM ws).2.map gN)) [4], dc (.int ((bestV ws).1 : Nat)) [], dc (.list ((bestV ws).2.map gN)) [6], c7])) hx n_word_here ?l0a ?m0a ?ia ?za ?sa ?da ?ta
  case l0a => fail "loc"
  case m0a => fail "locB2"
  case ia => fail "hI"
  case ta => intro _ _; rfl
  case za => exact ⟨rfl, _, rfl⟩
  case da =>
    rintro E O ⟨rfl, c7, rfl⟩
    fail "hret"
    exact ⟨rfl, rfl⟩
  case sa =>
    rintro i w E O ha _ ⟨rfl, c7, rfl⟩
    refine ⟨rfl, ?_⟩
    have hw := List.mem_of_getElem? ha
    have gw := g1 w hw
    have ow := ov w hw
    have lw : w.length ≤ 1000 := Nat.le_trans gw.2.1 (by decide)
    have gw2 : goodM (w.map (phiM a b c d)) := good_mp lt.h1 lt.h2 lt.h3 lt.h4 lt.h5 gw ow
    show SB X Z _ [dc (.list (ws.map dS)) [0], dc (dS [a, b, c, d]) [], dc (.list ((mW (phiM a b c d) ws).map dS)) [3], dc (dS (layM ((bestV ws).2.map fun n => ws.getD n default)).1) [], dc (.list ((layM ws).2.map gN)) [4], dc (.int ((bestV ws).1 : Nat)) [], dc (.list ((bestV ws).2.map gN)) [6], dc (dS w) []] _ _ _
    refine' sb_skip (b := false) ?v1 rfl ?v4
    case v1 =>
      refine' et_same (d := (tlD ws (tellM ws w))) hx (EE.to (d1 := tlD (mW (phiM a b c d) ws) (tellM (mW (phiM a b c d) ws) (w.map (phiM a b c d)))) ?v1a ?v1b) ?v1c ?v1d ?v1e
      case v1a => fail "hE"
      case v1b => rw [tl2 w ow]
      case v1c => fail "hE"
      case v1d => exact Nat.le_trans (depTl _ _) (by decide)
      case v1e => fail "mark"
    case v4 =>
    refine' sb_skip (b := false) ?v1 rfl ?v4
    case v1 =>
      refine' et_same (d := (.list (rowsM (ws.getD (0 : Int).toNat default) w))) hx (EE.to (d1 := .list (rowsM ((mW (phiM a b c d) ws).getD (0 : Int).toNat default) (w.map (phiM a b c d)))) ?v1a ?v1b) ?v1c ?v1d ?v1e
      case v1a => fail "hE"
      case v1b => rw [getD_mW, rows_mp hr]
      case v1c => fail "hE"
      case v1d => exact dep_rows _ _
      case v1e => fail "mark"
    case v4 => exact sb_nil ⟨rfl, _, rfl⟩

/-! law -/
--%MATH Mword
--%MATH Mover
--%MATH Mdraw
--%MATH Mws
--%MATH Mlay
--%MATH Mleast
--%MATH Mrows
--%MATH Mkeep
--%MATH Mclosed
--%MATH Mfind
--%MATH Mplan
--%MATH Mopt
--%MATH Mturn
local macro_rules | `(tactic| fail "hmine") => `(tactic| first | exact Or.inr ⟨by decide, by decide⟩ | (split <;> decide))
theorem rev_good {w : List Nat} (g : goodM w) : goodM w.reverse := ⟨by rw [List.length_reverse]; exact g.1, by rw [List.length_reverse]; exact g.2.1, fun c hc => g.2.2 c (List.mem_reverse.mp hc)⟩
theorem rev_ws {ws : List (List Nat)} (g : Ws ws) : Ws (revW ws) := ⟨fun w hw => by
  obtain ⟨u, hu, rfl⟩ := List.mem_map.mp hw
  exact rev_good (g.good u hu), List.pairwise_map.mpr (g.nd.imp fun {u w} h e => h (List.reverse_inj.mp e)), fun e => g.ne (List.map_eq_nil_iff.mp e), by rw [revW, List.length_map]; exact g.len⟩
theorem every_at : ∀ n, n < 26 → (Str.ofString "abcdefghijklmnopqrstuvwxyz").cps.toList.getD n default = 97 + n := by decide +kernel
theorem every_len : (Str.ofString "abcdefghijklmnopqrstuvwxyz").cps.toList.length = 26 := by decide +kernel
structure Rising (i : Nat) (ls : List Nat) (at' : Nat) : Prop where
  len : ls.length = i
  up : ls.Pairwise (· < ·)
  lo : ∀ x ∈ ls, 97 ≤ x ∧ x < 97 + at'
  hi : at' ≤ 6 * i
theorem Rising.next {i : Nat} {ls : List Nat} {at' t : Nat} (h : Rising i ls at') (ht : t < 6) : Rising (i + 1) (ls ++ [97 + (at' + t)]) (at' + t + 1) := by
  refine ⟨by rw [List.length_append, h.len]; rfl, List.pairwise_append.mpr ⟨h.up, List.pairwise_singleton _ _, fun x hx y hy => ?_⟩, fun x hx => ?_, by have := h.hi; omega⟩
  · rw [List.mem_singleton.mp hy]; have := (h.lo x hx).2; omega
  · rcases List.mem_append.mp hx with z | z
    · have := h.lo x z; omega
    · rw [List.mem_singleton.mp z]; omega
theorem Rising.four {ls : List Nat} {at' : Nat} (h : Rising 4 ls at') : ∃ a b c d, ls = [a, b, c, d] ∧ Let4 a b c d := by
  obtain ⟨l, u, lo, hi⟩ := h
  match ls, l with
  | [a, b, c, d], _ =>
    refine ⟨a, b, c, d, rfl, ?_⟩
    have q1 := lo a (by simp)
    have q2 := lo d (by simp)
    simp at u
    exact ⟨q1.1, u.1.1, u.2.1.1, u.2.2, by omega⟩
theorem ok_law_ (T : Tx C) {f : PySem.Addr} {fd : FuncData} (hf : Fun C.K "law" "law" s_law f fd) : FnOk C.P C.w C.K C.mg C.base CX0 22 f fd ["_law_script"] (spLaw C.K) := by
  refine ok_law hf sc_law fun X hx a ns F hS h63 D hr => ?_
  have n_script : Nm N_law 0 "_law_script" := ⟨rfl, by decide, by decide⟩
  have n_box : Nm N_law 1 "_law_box" := ⟨rfl, by decide, by decide⟩
  have n_words_here : Nm N_law 2 "_law_words_here" := ⟨rfl, by decide, by decide⟩
  have n_turned : Nm N_law 3 "_law_turned" := ⟨rfl, by decide, by decide⟩
  have n_one : Nm N_law 4 "_law_one" := ⟨rfl, by decide, by decide⟩
  have n_other_here : Nm N_law 5 "_law_other_here" := ⟨rfl, by decide, by decide⟩
  have n_every : Nm N_law 6 "_law_every" := ⟨rfl, by decide, by decide⟩
  have n_at : Nm N_law 7 "_law_at" := ⟨rfl, by decide, by decide⟩
  have n_letters : Nm N_law 8 "_law_letters" := ⟨rfl, by decide, by decide⟩
  have n_k : Nm N_law 9 "_law_k" := ⟨rfl, by decide, by decide⟩
  have n_word_here : Nm N_law 10 "_law_word_here" := ⟨rfl, by decide, by decide⟩
  have b_len := T.b_len
  have b_range := T.b_range
  have o_overlap := okw_overlap T
  have o_free := ok_free T
  have o_best := ok_best T
  have o_begun := ok_begun T
  have o_take := ok_take T
  have o_few := ok_few T
  have o_l_fits := ok_l_fits T
  refine' ex_begun hx o_begun (by decide) ?bg n_box ?bl ?bm ?be hS h63 (by decide) ?bk ?bs ?bp
  case bl => first | exact Or.inl rfl | exact Or.inr rfl
  case bm => first | exact Or.inl rfl | exact Or.inr rfl
  case bg => fail "gb"
  case be => fail "evv"
  case bs => intro _; rfl
  case bp => intro _; rfl
  intro b l st hFb hFl hne
  refine law_on (j := 1) hne hFb hFl rfl hr fun Z u => ?_
  generalize (ns, st) = s0
  show SB X Z _ [none, none, none, none, none, none, none, none, none, none, none] _ _ _
  have d1 := takeV_nn s0 (m := 2) (by omega)
  fail "setBE"
  · rintro d ⟨_, w⟩; exact w
  generalize (if takeV s0 2 = 0 then (5 : Int) else 12) = sg
  rintro d s2 ⟨⟨most, signs, ws, hW, ov, hfr⟩, _⟩
  have g1 := hW.good
  have g2 := hW.len
  have hR := rev_ws hW
  have h8 : (freeM ws).length ≤ 8 := by omega
  have gn : ∀ w ∈ ws, w ≠ [] := fun w hw e => by have := (g1 w hw).1; rw [e] at this; simp at this
  have fr2 := free_rev gn
  have rr2 := room_rev gn h8
  have h8' : (freeM (revW ws)).length ≤ 8 := by rw [fr2]; exact h8
  show SB X Z _ [none, none, dc (.list (ws.map dS)) [3], none, none, none, none, none, none, none, none] _ _ _
  refine' sb_set (d := .list ((revW ws).map dS)) ?s1 (ER.to (lcR0' (l := ws) (g := dS) (f := fun w => dS w.reverse) (Re := []) hx n_word_here ?c1 ?c2 ?c3 ?c4 ?c5 ?c6 ?c7) ?s3) ?s5 ?s4
  case s1 => fail "asg"
  case c1 => fail "loc"
  case c2 => fail "locB"
  case c3 => fail "dec"
  case c4 => fail "hI"
  case c5 => rfl
  case c6 => rw [sizeLine_eq]; omega
  case c7 =>
    intro w hw hwf hxb
    refine' ee_revS ?y1 ?y2
    case y1 => fail "hE"
    case y2 => exact fun _ _ => rfl
  case s3 => unfold revW; rw [List.map_map]; rfl
  case s5 => rfl
  case s4 =>
  have hrl : (revW ws).length = ws.length := by unfold revW; rw [List.length_map]
  show SB X Z _ [none, none, dc (.list (ws.map dS)) [3], dc (.list ((revW ws).map dS)) [4], none, none, none, none, none, none, none] _ _ _
  refine' sb_for1 (w := 902) ((fun i E O => O = [bx 1 u s2] ∧ ∃ c4 c5, E = [none, none, dc (.list (ws.map dS)) [3], dc (.list ((revW ws).map dS)) [4], c4, c5, none, none, none, none, none])) hx n_one ?l0a ?m0a ?ia ?za ?sa ?da ?ta
  case l0a => fail "loc"
  case m0a => fail "locB2"
  case ia => fail "hI"
  case ta => intro _ _; rfl
  case za => exact ⟨rfl, _, _, rfl⟩
  case sa =>
    rintro i m E O ha _ ⟨rfl, c4, c5, rfl⟩
    refine ⟨rfl, ?_⟩
    have hm : m < ws.length := by have := List.mem_range.mp (List.mem_of_getElem? ha); omega
    show SB X Z _ [none, none, dc (.list (ws.map dS)) [3], dc (.list ((revW ws).map dS)) [4], dc (.int (m : Nat)) [], c5, none, none, none, none, none] _ _ _
    refine' sb_for1 (w := 904) ((fun i E O => O = [bx 1 u s2] ∧ ∃ c5, E = [none, none, dc (.list (ws.map dS)) [3], dc (.list ((revW ws).map dS)) [4], dc (.int (m : Nat)) [], c5, none, none, none, none, none])) hx n_other_here ?l0b ?m0b ?ib ?zb ?sb ?db ?tb
    case l0b => fail "loc"
    case m0b => fail "locB2"
    case ib => fail "hI"
    case tb => intro _ _; rfl
    case zb => exact ⟨rfl, _, rfl⟩
    case db =>
      rintro E O ⟨rfl, c5, rfl⟩
      exact sb_nil ⟨rfl, _, _, rfl⟩
    case sb =>
      rintro i2 m2 E O hb _ ⟨rfl, c5, rfl⟩
      refine ⟨rfl, ?_⟩
      have hm2 : m2 < ws.length := by have := List.mem_range.mp (List.mem_of_getElem? hb); omega
      have e1 : ((m : Nat) : Int).toNat = m := Int.toNat_natCast m
      have e2 : ((m2 : Nat) : Int).toNat = m2 := Int.toNat_natCast m2
      have q1 : goodM (ws.getD ((m : Nat) : Int).toNat default) := by rw [e1]; exact g1 _ (getD_memL hm)
      have q2 : goodM (ws.getD ((m2 : Nat) : Int).toNat default) := by rw [e2]; exact g1 _ (getD_memL hm2)
      have q3 : goodM ((revW ws).getD ((m : Nat) : Int).toNat default) := by rw [e1]; exact hR.good _ (getD_memL (by omega))
      have q4 : goodM ((revW ws).getD ((m2 : Nat) : Int).toNat default) := by rw [e2]; exact hR.good _ (getD_memL (by omega))
      have hm' : m < (revW ws).length := by omega
      have hm2' : m2 < (revW ws).length := by omega
      show SB X Z _ [none, none, dc (.list (ws.map dS)) [3], dc (.list ((revW ws).map dS)) [4], dc (.int (m : Nat)) [], dc (.int (m2 : Nat)) [], none, none, none, none, none] _ _ _
      refine' sb_skip (b := false) (et_same (d := .int (farM (ws.getD ((m : Nat) : Int).toNat default) (ws.getD ((m2 : Nat) : Int).toNat default) : Nat)) hx ?v1 (EE.to (d1 := .int (farM ((revW ws).getD ((m2 : Nat) : Int).toNat default) ((revW ws).getD ((m : Nat) : Int).toNat default) : Nat)) ?v2 ?v3) (Nat.zero_le _) ?v4) rfl ?v5
      case v1 => fail "hE"
      case v2 => fail "hE"
      case v3 => rw [e1, e2, getD_rev, getD_rev, far_rev]
      case v4 => fail "mark"
      case v5 => exact sb_nil ⟨rfl, _, rfl⟩
  case da =>
    rintro E O ⟨rfl, c4, c5, rfl⟩
    refine' sb_skip (b := false) (ET.to (et_w' (ew_or' (k := false) ?v1 (fun _ => ew_or1' (k := false) ?v2))) rfl) rfl ?v4
    case v1 =>
      refine' et_same (d := .list ((freeM ws).map gN)) hx ?w1 (EE.to (d1 := .list ((freeM (revW ws)).map gN)) ?w2 ?w3) (Nat.le_trans (depNs _) (by decide)) ?w4
      case w1 => fail "hE"
      case w2 => fail "hE"
      case w3 => rw [fr2]
      case w4 => fail "mark"
    case v2 =>
      refine' et_same (d := .int ((bestV ws).1 : Nat)) hx (ee_ixT0 hx (EE.to (d1 := bestD ws) ?w1 rfl)) (EE.to (d1 := .int ((bestV (revW ws)).1 : Nat)) (ee_ixT0 hx (EE.to (d1 := bestD (revW ws)) ?w2 rfl)) ?w3) (Nat.zero_le _) ?w4
      case w1 => fail "hE"
      case w2 => fail "hE"
      case w3 => rw [rr2]
      case w4 => fail "mark"
    case v4 =>
    fail "set"
    fail "set"
    fail "set"
    have he := every_len
    obtain ⟨ev, hev⟩ : ∃ ev, ev = (Str.ofString "abcdefghijklmnopqrstuvwxyz").cps.toList := ⟨_, rfl⟩
    have hea := every_at
    rw [← hev] at he hea
    show SB X Z _ [none, none, dc (.list (ws.map dS)) [3], dc (.list ((revW ws).map dS)) [4], c4, c5, dc (dS (Str.ofString "abcdefghijklmnopqrstuvwxyz").cps.toList) [], dc (.int 0) [], dc (dS (Str.ofString "").cps.toList) [], none, none] _ _ _
    rw [← hev]
    refine' sb_for1 (w := 904) ((fun i E O => ∃ s at' ls c9, Rising i ls at' ∧ O = [bx 1 u s] ∧ E = [none, none, dc (.list (ws.map dS)) [3], dc (.list ((revW ws).map dS)) [4], c4, c5, dc (dS ev) [], dc (.int (at' : Nat)) [], dc (dS ls) [], c9, none])) hx n_k ?l0a ?m0a ?ia ?za ?sa ?da ?ta
    case l0a => fail "loc"
    case m0a => fail "locB2"
    case ia => fail "hI"
    case ta => intro _ _; rfl
    case za => exact ⟨s2, 0, [], none, Rising.mk rfl List.Pairwise.nil (fun _ h => absurd h (by simp)) (Nat.le_refl _), rfl, rfl⟩
    case da =>
      rintro E O ⟨s, at', ls, c9, hri, rfl, rfl⟩
      obtain ⟨a, b, c, d, rfl, lt⟩ := Rising.four hri
      fail "hret"
      rfl
    case sa =>
      rintro i m E O ha _ ⟨s, at', ls, c9, hri, rfl, rfl⟩
      refine ⟨rfl, ?_⟩
      have hi : i < 4 := by have := (List.getElem?_eq_some_iff.mp ha).1; simpa using this
      have ht := takeV_nn s (m := 6) (by omega)
      have h6 := hri.hi
      have hll := hri.len
      obtain ⟨t, ht'⟩ : ∃ t : Nat, takeV s 6 = t := ⟨(takeV s 6).toNat, by omega⟩
      rw [ht'] at ht
      have hte : ((at' : Nat) : Int) + ((t : Nat) : Int) = ((at' + t : Nat) : Int) := by omega
      refine' sb_set (d := .int ((at' + t : Nat) : Int)) ?r1 (er_of (EE.to ?r2 ?r3)) ?r5 ?r4
      case r1 => fail "asg"
      case r2 => fail "hE"
      case r3 => rw [ht', hte]
      case r5 => rfl
      case r4 =>
      show SB X Z _ [none, none, dc (.list (ws.map dS)) [3], dc (.list ((revW ws).map dS)) [4], c4, c5, dc (dS ev) [], dc (.int ((at' + t : Nat) : Int)) [], dc (dS ls) [], dc (.int (m : Nat)) [], none] _ _ _
      refine' sb_set (d := dS (ls ++ [97 + (at' + t)])) ?s1 (er_of (EE.to ?s2 ?s3)) ?s5 ?s4
      case s1 => fail "asg"
      case s2 => fail "hE"
      case s3 => rw [Int.toNat_natCast, hea _ (by omega)]
      case s5 => rfl
      case s4 =>
      fail "set"
      exact sb_nil ⟨_, at' + t + 1, _, _, hri.next (by omega), rfl, rfl⟩

end G
open PySem PySem.W PyProof.Rows
set_option maxRecDepth 100000 in
set_option maxHeartbeats 0 in
set_option pp.maxSteps 300 in
theorem PySem.Challenge.cw_tailshare_k14_whole_turned_about_holds : PySem.Challenge.rw_tailshare_k14_whole_turned_about.Holds := by
  w_on; o_law; k_head; (case hw => w_witness2)
  k_fill
  refine G.walk (l := PySem.Challenge.rw_tailshare_k14_whole_turned_about) (kk := 22) ⟨rfl, by decide, by decide⟩ rfl rfl (fun w h Y => PySem.W.kIn_of Y) ?F
  case F =>
    intro w mg fa h KX GN hmg
    have h_is_word : G.FunAt KX mg "is_word" G.s_is_word G.P_is_word := by
      refine' G.def_mk KX GN ?a ?l ?c ?k ?b; (case a => k_is); (case l => k_is); (case c => k_is); (case k => k_is); (case b => exact (fun _ _ _ _ _ _ us hl => match us, hl with | [_], _ => rfl))
    have h_need_word : G.FunAt KX mg "need_word" G.s_need_word G.P_need_word := by
      refine' G.def_mk KX GN ?a ?l ?c ?k ?b; (case a => k_is); (case l => k_is); (case c => k_is); (case k => k_is); (case b => exact (fun _ _ _ _ _ _ us hl => match us, hl with | [_], _ => rfl))
    have h_fits : G.FunAt KX mg "fits" G.s_fits G.P_fits := by
      refine' G.def_mk KX GN ?a ?l ?c ?k ?b; (case a => k_is); (case l => k_is); (case c => k_is); (case k => k_is); (case b => exact (fun _ _ _ _ _ _ us hl => match us, hl with | [_, _, _], _ => rfl))
    have h_far : G.FunAt KX mg "far" G.s_far G.P_far := by
      refine' G.def_mk KX GN ?a ?l ?c ?k ?b; (case a => k_is); (case l => k_is); (case c => k_is); (case k => k_is); (case b => exact (fun _ _ _ _ _ _ us hl => match us, hl with | [_, _], _ => rfl))
    have h_overlap : G.FunAt KX mg "overlap" G.s_overlap G.P_overlap := by
      refine' G.def_mk KX GN ?a ?l ?c ?k ?b; (case a => k_is); (case l => k_is); (case c => k_is); (case k => k_is); (case b => exact (fun _ _ _ _ _ _ us hl => match us, hl with | [_, _], _ => rfl))
    have h_need_words : G.FunAt KX mg "need_words" G.s_need_words G.P_need_words := by
      refine' G.def_mk KX GN ?a ?l ?c ?k ?b; (case a => k_is); (case l => k_is); (case c => k_is); (case k => k_is); (case b => exact (fun _ _ _ _ _ _ us hl => match us, hl with | [_], _ => rfl))
    have h_free_of : G.FunAt KX mg "free_of" G.s_free_of G.P_free_of := by
      refine' G.def_mk KX GN ?a ?l ?c ?k ?b; (case a => k_is); (case l => k_is); (case c => k_is); (case k => k_is); (case b => exact (fun _ _ _ _ _ _ us hl => match us, hl with | [_], _ => rfl))
    have h_free : G.FunAt KX mg "free" G.s_free G.P_free := by
      refine' G.def_mk KX GN ?a ?l ?c ?k ?b; (case a => k_is); (case l => k_is); (case c => k_is); (case k => k_is); (case b => exact (fun _ _ _ _ _ _ us hl => match us, hl with | [_], _ => rfl))
    have h_unlike_at : G.FunAt KX mg "unlike_at" G.s_unlike_at G.P_unlike_at := by
      refine' G.def_mk KX GN ?a ?l ?c ?k ?b; (case a => k_is); (case l => k_is); (case c => k_is); (case k => k_is); (case b => exact (fun _ _ _ _ _ _ us hl => match us, hl with | [_, _, _], _ => rfl))
    have h_goes_behind : G.FunAt KX mg "goes_behind" G.s_goes_behind G.P_goes_behind := by
      refine' G.def_mk KX GN ?a ?l ?c ?k ?b; (case a => k_is); (case l => k_is); (case c => k_is); (case k => k_is); (case b => exact (fun _ _ _ _ _ _ us hl => match us, hl with | [_, _, _], _ => rfl))
    have h_gone : G.FunAt KX mg "gone" G.s_gone G.P_gone := by
      refine' G.def_mk KX GN ?a ?l ?c ?k ?b; (case a => k_is); (case l => k_is); (case c => k_is); (case k => k_is); (case b => exact (fun _ _ _ _ _ _ us hl => match us, hl with | [_], _ => rfl))
    have h_need_few : G.FunAt KX mg "need_few" G.s_need_few G.P_need_few := by
      refine' G.def_mk KX GN ?a ?l ?c ?k ?b; (case a => k_is); (case l => k_is); (case c => k_is); (case k => k_is); (case b => exact (fun _ _ _ _ _ _ us hl => match us, hl with | [_], _ => rfl))
    have h_best : G.FunAt KX mg "best" G.s_best G.P_best := by
      refine' G.def_mk KX GN ?a ?l ?c ?k ?b; (case a => k_is); (case l => k_is); (case c => k_is); (case k => k_is); (case b => exact (fun _ _ _ _ _ _ us hl => match us, hl with | [_], _ => rfl))
    have h_begun : G.FunAt KX mg "_law_begun" G.s_begun G.P_begun := by
      refine' G.def_mk KX GN ?a ?l ?c ?k ?b; (case a => k_is); (case l => k_is); (case c => k_is); (case k => k_is); (case b => exact (fun _ _ _ _ _ _ us hl => match us, hl with | [_], _ => rfl))
    have h_take : G.FunAt KX mg "_law_take" G.s_take G.P_take := by
      refine' G.def_mk KX GN ?a ?l ?c ?k ?b; (case a => k_is); (case l => k_is); (case c => k_is); (case k => k_is); (case b => exact (fun _ _ _ _ _ _ us hl => match us, hl with | [_, _], _ => rfl))
    have h_word : G.FunAt KX mg "_law_word" G.s_word G.P_word := by
      refine' G.def_mk KX GN ?a ?l ?c ?k ?b; (case a => k_is); (case l => k_is); (case c => k_is); (case k => k_is); (case b => exact (fun _ _ _ _ _ _ us hl => match us, hl with | [_, _, _], _ => rfl))
    have h_words : G.FunAt KX mg "_law_words" G.s_words G.P_words := by
      refine' G.def_mk KX GN ?a ?l ?c ?k ?b; (case a => k_is); (case l => k_is); (case c => k_is); (case k => k_is); (case b => exact (fun _ _ _ _ _ _ us hl => match us, hl with | [_, _, _], _ => rfl))
    have h_l_free : G.FunAt KX mg "_law_free" G.s_l_free G.P_l_free := by
      refine' G.def_mk KX GN ?a ?l ?c ?k ?b; (case a => k_is); (case l => k_is); (case c => k_is); (case k => k_is); (case b => exact (fun _ _ _ _ _ _ us hl => match us, hl with | [_], _ => rfl))
    have h_few : G.FunAt KX mg "_law_few" G.s_few G.P_few := by
      refine' G.def_mk KX GN ?a ?l ?c ?k ?b; (case a => k_is); (case l => k_is); (case c => k_is); (case k => k_is); (case b => exact (fun _ _ _ _ _ _ us hl => match us, hl with | [_, _, _], _ => rfl))
    have h_first_unlike : G.FunAt KX mg "first_unlike" G.s_first_unlike G.P_first_unlike := by
      refine' G.def_mk KX GN ?a ?l ?c ?k ?b; (case a => k_is); (case l => k_is); (case c => k_is); (case k => k_is); (case b => exact (fun _ _ _ _ _ _ us hl => match us, hl with | [_, _, _], _ => rfl))
    have h_why_no_more : G.FunAt KX mg "why_no_more" G.s_why_no_more G.P_why_no_more := by
      refine' G.def_mk KX GN ?a ?l ?c ?k ?b; (case a => k_is); (case l => k_is); (case c => k_is); (case k => k_is); (case b => exact (fun _ _ _ _ _ _ us hl => match us, hl with | [_, _], _ => rfl))
    have h_risen : G.FunAt KX mg "risen" G.s_risen G.P_risen := by
      refine' G.def_mk KX GN ?a ?l ?c ?k ?b; (case a => k_is); (case l => k_is); (case c => k_is); (case k => k_is); (case b => exact (fun _ _ _ _ _ _ us hl => match us, hl with | [_], _ => rfl))
    have h_index : G.FunAt KX mg "index" G.s_index G.P_index := by
      refine' G.def_mk KX GN ?a ?l ?c ?k ?b; (case a => k_is); (case l => k_is); (case c => k_is); (case k => k_is); (case b => exact (fun _ _ _ _ _ _ us hl => match us, hl with | [_], _ => rfl))
    have h_sought : G.FunAt KX mg "sought" G.s_sought G.P_sought := by
      refine' G.def_mk KX GN ?a ?l ?c ?k ?b; (case a => k_is); (case l => k_is); (case c => k_is); (case k => k_is); (case b => exact (fun _ _ _ _ _ _ us hl => match us, hl with | [_, _], _ => rfl))
    have h_tails : G.FunAt KX mg "tails" G.s_tails G.P_tails := by
      refine' G.def_mk KX GN ?a ?l ?c ?k ?b; (case a => k_is); (case l => k_is); (case c => k_is); (case k => k_is); (case b => exact (fun _ _ _ _ _ _ us hl => match us, hl with | [_], _ => rfl))
    have h_least_room : G.FunAt KX mg "least_room" G.s_least_room G.P_least_room := by
      refine' G.def_mk KX GN ?a ?l ?c ?k ?b; (case a => k_is); (case l => k_is); (case c => k_is); (case k => k_is); (case b => exact (fun _ _ _ _ _ _ us hl => match us, hl with | [_], _ => rfl))
    have h_wasted : G.FunAt KX mg "wasted" G.s_wasted G.P_wasted := by
      refine' G.def_mk KX GN ?a ?l ?c ?k ?b; (case a => k_is); (case l => k_is); (case c => k_is); (case k => k_is); (case b => exact (fun _ _ _ _ _ _ us hl => match us, hl with | [_], _ => rfl))
    have h_laid : G.FunAt KX mg "laid" G.s_laid G.P_laid := by
      refine' G.def_mk KX GN ?a ?l ?c ?k ?b; (case a => k_is); (case l => k_is); (case c => k_is); (case k => k_is); (case b => exact (fun _ _ _ _ _ _ us hl => match us, hl with | [_], _ => rfl))
    have h_reason : G.FunAt KX mg "reason" G.s_reason G.P_reason := by
      refine' G.def_mk KX GN ?a ?l ?c ?k ?b; (case a => k_is); (case l => k_is); (case c => k_is); (case k => k_is); (case b => exact (fun _ _ _ _ _ _ us hl => match us, hl with | [_], _ => rfl))
    have h_other : G.FunAt KX mg "_law_other" G.s_other G.P_other := by
      refine' G.def_mk KX GN ?a ?l ?c ?k ?b; (case a => k_is); (case l => k_is); (case c => k_is); (case k => k_is); (case b => exact (fun _ _ _ _ _ _ us hl => match us, hl with | [_, _], _ => rfl))
    have h_l_fits : G.FunAt KX mg "_law_fits" G.s_l_fits G.P_l_fits := by
      refine' G.def_mk KX GN ?a ?l ?c ?k ?b; (case a => k_is); (case l => k_is); (case c => k_is); (case k => k_is); (case b => exact (fun _ _ _ _ _ _ us hl => match us, hl with | [_, _], _ => rfl))
    have h_law : G.FunAt KX mg "law" G.s_law G.P_law := by
      refine' G.def_mk KX GN ?a ?l ?c ?k ?b; (case a => k_is); (case l => k_is); (case c => k_is); (case k => k_is); (case b => exact (fun _ _ _ _ _ _ us hl => match us, hl with | [_], _ => rfl))
    have z_len : mg "len" = none := by refine' PySem.W.mg_none_of KX GN ?z; (case z => k_is)
    have z_range : mg "range" = none := by refine' PySem.W.mg_none_of KX GN ?z; (case z => k_is)
    have z_enumerate : mg "enumerate" = none := by refine' PySem.W.mg_none_of KX GN ?z; (case z => k_is)
    have z_zip : mg "zip" = none := by refine' PySem.W.mg_none_of KX GN ?z; (case z => k_is)
    have z_min : mg "min" = none := by refine' PySem.W.mg_none_of KX GN ?z; (case z => k_is)
    have z_max : mg "max" = none := by refine' PySem.W.mg_none_of KX GN ?z; (case z => k_is)
    have z_sum : mg "sum" = none := by refine' PySem.W.mg_none_of KX GN ?z; (case z => k_is)
    have z_list : mg "list" = none := by refine' PySem.W.mg_none_of KX GN ?z; (case z => k_is)
    have z_tuple : mg "tuple" = none := by refine' PySem.W.mg_none_of KX GN ?z; (case z => k_is)
    have z_sorted : mg "sorted" = none := by refine' PySem.W.mg_none_of KX GN ?z; (case z => k_is)
    have z_int : mg "int" = none := by refine' PySem.W.mg_none_of KX GN ?z; (case z => k_is)
    have y_SMALL : ∃ v, mg "SMALL" = some v ∧ ∃ t, v = .str "abcdefghijklmnopqrstuvwxyz" t := by refine' ⟨_, PySem.W.mg_of KX GN ?z, ?y⟩; (case z => k_is); (case y => exact ⟨_, rfl⟩)
    have y_MOST_SIGNS : ∃ v, mg "MOST_SIGNS" = some v ∧ ∃ t, v = .int 12 t := by refine' ⟨_, PySem.W.mg_of KX GN ?z, ?y⟩; (case z => k_is); (case y => exact ⟨_, rfl⟩)
    have y_MOST_WORDS : ∃ v, mg "MOST_WORDS" = some v ∧ ∃ t, v = .int 40 t := by refine' ⟨_, PySem.W.mg_of KX GN ?z, ?y⟩; (case z => k_is); (case y => exact ⟨_, rfl⟩)
    have y_END : ∃ v, mg "END" = some v ∧ ∃ t, v = .str "." t := by refine' ⟨_, PySem.W.mg_of KX GN ?z, ?y⟩; (case z => k_is); (case y => exact ⟨_, rfl⟩)
    have y_MOST_FREE : ∃ v, mg "MOST_FREE" = some v ∧ ∃ t, v = .int 8 t := by refine' ⟨_, PySem.W.mg_of KX GN ?z, ?y⟩; (case z => k_is); (case y => exact ⟨_, rfl⟩)
    have g_Keeper : G.ClsAt_Keeper KX mg := by
      refine' ⟨_, PySem.W.mg_of KX GN ?aC, ⟨?pg, ?hd, ?po, ?sa⟩, G.noAttr_mk ?n_kept, G.noAttr_mk ?n_places, G.noAttr_mk ?n_coming, G.init_mk ?mk0 ?kc0 ?a0 ?i0 ?l0 ?c0 ?k0 (fun _ _ _ _ _ _ us hl => match us, hl with | [_], _ => rfl), G.meth_mk ?a1 ?i1 ?l1 ?c1 ?k1 (fun _ _ _ _ _ _ us hl => match us, hl with | [_, _], _ => rfl), G.meth_mk ?a2 ?i2 ?l2 ?c2 ?k2 (fun _ _ _ _ _ _ us hl => match us, hl with | [_], _ => rfl), G.meth_mk ?a3 ?i3 ?l3 ?c3 ?k3 (fun _ _ _ _ _ _ us hl => match us, hl with | [_], _ => rfl)⟩
      (case aC => k_is)
      (case pg => k_is)
      (case hd => k_is)
      (case po => k_is)
      (case sa => k_is)
      (case n_kept => k_is)
      (case n_places => k_is)
      (case n_coming => k_is)
      (case mk0 => k_is)
      (case kc0 => k_is)
      (case a0 => k_is)
      (case i0 => k_is)
      (case l0 => k_is)
      (case c0 => k_is)
      (case k0 => k_is)
      (case a1 => k_is)
      (case i1 => k_is)
      (case l1 => k_is)
      (case c1 => k_is)
      (case k1 => k_is)
      (case a2 => k_is)
      (case i2 => k_is)
      (case l2 => k_is)
      (case c2 => k_is)
      (case k2 => k_is)
      (case a3 => k_is)
      (case i3 => k_is)
      (case l3 => k_is)
      (case c3 => k_is)
      (case k3 => k_is)
    have g_Plan : G.ClsAt_Plan KX mg := by
      refine' ⟨_, PySem.W.mg_of KX GN ?aC, ⟨?pg, ?hd, ?po, ?sa⟩, G.noAttr_mk ?n_every, G.noAttr_mk ?n_numbers, G.noAttr_mk ?n_known, G.init_mk ?mk0 ?kc0 ?a0 ?i0 ?l0 ?c0 ?k0 (fun _ _ _ _ _ _ us hl => match us, hl with | [_, _, _], _ => rfl), G.meth_mk ?a1 ?i1 ?l1 ?c1 ?k1 (fun _ _ _ _ _ _ us hl => match us, hl with | [_, _, _], _ => rfl), G.meth_mk ?a2 ?i2 ?l2 ?c2 ?k2 (fun _ _ _ _ _ _ us hl => match us, hl with | [_, _, _], _ => rfl)⟩
      (case aC => k_is)
      (case pg => k_is)
      (case hd => k_is)
      (case po => k_is)
      (case sa => k_is)
      (case n_every => k_is)
      (case n_numbers => k_is)
      (case n_known => k_is)
      (case mk0 => k_is)
      (case kc0 => k_is)
      (case a0 => k_is)
      (case i0 => k_is)
      (case l0 => k_is)
      (case c0 => k_is)
      (case k0 => k_is)
      (case a1 => k_is)
      (case i1 => k_is)
      (case l1 => k_is)
      (case c1 => k_is)
      (case k1 => k_is)
      (case a2 => k_is)
      (case i2 => k_is)
      (case l2 => k_is)
      (case c2 => k_is)
      (case k2 => k_is)
    refine G.law_F (st := G.s_law) hmg h_law (fun _ _ _ _ _ _ s u => .of_eq rfl) fun base f fd hm F => ?_
    have T : G.Tx ⟨PySem.Challenge.rw_tailshare_k14_whole_turned_about.prog, w, _, mg, base⟩ := ⟨⟨h_is_word⟩, ⟨h_need_word⟩, ⟨h_fits⟩, ⟨h_far⟩, ⟨h_overlap⟩, ⟨h_need_words⟩, ⟨h_free_of⟩, ⟨h_free⟩, ⟨h_unlike_at⟩, ⟨h_goes_behind⟩, ⟨h_gone⟩, ⟨h_need_few⟩, ⟨h_best⟩, ⟨h_begun⟩, ⟨h_take⟩, ⟨h_word⟩, ⟨h_words⟩, ⟨h_l_free⟩, ⟨h_few⟩, ⟨h_first_unlike⟩, ⟨h_why_no_more⟩, ⟨h_risen⟩, ⟨h_index⟩, ⟨h_sought⟩, ⟨h_tails⟩, ⟨h_least_room⟩, ⟨h_wasted⟩, ⟨h_laid⟩, ⟨h_reason⟩, ⟨h_other⟩, ⟨h_l_fits⟩, z_len, z_range, z_enumerate, z_zip, z_min, z_max, z_sum, z_list, z_tuple, z_sorted, z_int, G.cst y_SMALL, G.cst y_MOST_SIGNS, G.cst y_MOST_WORDS, G.cst y_END, G.cst y_MOST_FREE, (let ⟨A, h⟩ := g_Keeper; ⟨A, ⟨h.1, h.2.1, h.2.2.1, h.2.2.2.1, h.2.2.2.2.1, h.2.2.2.2.2.1, h.2.2.2.2.2.2.1, h.2.2.2.2.2.2.2.1, h.2.2.2.2.2.2.2.2⟩⟩), (let ⟨A, h⟩ := g_Plan; ⟨A, ⟨h.1, h.2.1, h.2.2.1, h.2.2.2.1, h.2.2.2.2.1, h.2.2.2.2.2.1, h.2.2.2.2.2.2.1, h.2.2.2.2.2.2.2⟩⟩)⟩
    exact G.ok_law_ T F
#print axioms PySem.Challenge.cw_tailshare_k14_whole_turned_about_holds
