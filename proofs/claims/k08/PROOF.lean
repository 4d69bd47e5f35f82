import PyProof.Rows.All
import Wide.All
import OpenK.AllK
import Wide.FinOn
import HandS.ForMost
import HandS.Evl
import HandS.TupAny
import HandS.Style
import PySem.PyData
import HandS.IsInst
import HandS.Wide
import HandS.WideMore
import HandS.Steps
import HandS.More
import PyProof.StrOps2
import PyProof.InstNe
import HandS.OwnEq
import HandS.Conv
import HandS.Iter
import HandS.Text
import HandS.Strs
import HandS.TupSets
import KE.IntTextLaws
import HandS.Codes
import KE.RegKIsAll
import PySem.Challenge.RW_realsaid_k08_whole_texts_that_begin_none
set_option Elab.async false
set_option linter.all false
set_option maxRecDepth 100000
namespace Dy
open PySem L2 Evl

/-- the heap without the addresses that may change -/
def Hx (X : List Addr) (H : Hp) : Hp := fun a => if a ∈ X then none else H a
theorem hx_of {X : List Addr} {H : Hp} {a : Addr} (n : a ∉ X) : Hx X H a = H a := if_neg n
theorem hx_some {X : List Addr} {H : Hp} {a : Addr} {o : HO} (h : Hx X H a = some o) : a ∉ X ∧ H a = some o := by
  unfold Hx at h
  split at h
  · cases h
  · exact ⟨by assumption, h⟩
mutual
/-- a value stands for a datum; its lists are tracked -/
inductive Dq (K : PySem.W.Frag) (H : Hp) : V → PyData → Prop
  | non : Dq K H .non .none
  | bl (b : Bool) : Dq K H (.bl b) (.bool b)
  | int (i : Int) : Dq K H (.int i) (.int i)
  | str (x : Str) : x.cps.all (· < 0x110000) = true → Dq K H (.str x) (.str x)
  | lst {a : Addr} {xs : List V} {ds : List PyData} : H a = some (.lst xs) → DqAll K H xs ds → Dq K H (.ref a) (.list ds)
  | tup {a : Addr} {xs : List V} {ds : List PyData} : SqT K H a xs → DqAll K H xs ds → Dq K H (.ref a) (.tuple ds)
inductive DqAll (K : PySem.W.Frag) (H : Hp) : List V → List PyData → Prop
  | nil : DqAll K H [] []
  | cons {v : V} {vs : List V} {d : PyData} {ds : List PyData} : Dq K H v d → DqAll K H vs ds → DqAll K H (v :: vs) (d :: ds)
end
mutual
theorem dq_dp {K : PySem.W.Frag} {H : Hp} : ∀ (d : PyData) (v : V), Dq K H v d → Dp K H v d
  | .none, _, h => by cases h; exact .non
  | .bool b, _, h => by cases h; exact .bl b
  | .int i, _, h => by cases h; exact .int i
  | .str x, _, h => by cases h with | str _ z => exact .str x
  | .list ds, _, h => by
    cases h with
    | lst a b => exact .lst (sq_of a) (dqs_dps ds _ b)
  | .tuple ds, _, h => by
    cases h with
    | tup a b => exact .tup a (dqs_dps ds _ b)
  | .dict _, _, h => by cases h
theorem dqs_dps {K : PySem.W.Frag} {H : Hp} : ∀ (ds : List PyData) (vs : List V), DqAll K H vs ds → DpAll K H vs ds
  | [], _, h => by cases h; exact .nil
  | d :: ds, _, h => by
    cases h with
    | cons a b => exact .cons (dq_dp d _ a) (dqs_dps ds _ b)
end
/-- a value stands for a datum; nothing of it may change -/
def At (K : PySem.W.Frag) (X : List Addr) (H : Hp) (v : V) (d : PyData) : Prop := Dq K (Hx X H) v d
def Ats (K : PySem.W.Frag) (X : List Addr) (H : Hp) (vs : List V) (ds : List PyData) : Prop := DqAll K (Hx X H) vs ds
/-- what may change is there -/
def Dom (X : List Addr) (H : Hp) : Prop := ∀ a ∈ X, H a ≠ none
/-- all but X is as it was -/
def Pr (X : List Addr) (H H' : Hp) : Prop := ∀ a o, a ∉ X → H a = some o → H' a = some o

section
variable {K : PySem.W.Frag} {X Y : List Addr} {H H' G : Hp}
mutual
theorem dp_ex (e : Ex G H) : ∀ (d : PyData) (v : V), Dq K G v d → Dq K H v d
  | .none, _, h => by cases h; exact .non
  | .bool b, _, h => by cases h; exact .bl b
  | .int i, _, h => by cases h; exact .int i
  | .str x, _, h => by cases h with | str _ z => exact .str x z
  | .list ds, _, h => by
    cases h with
    | lst a b => exact .lst (e _ _ a) (dps_ex e ds _ b)
  | .tuple ds, _, h => by
    cases h with
    | tup a b => exact .tup (ex_t e a) (dps_ex e ds _ b)
  | .dict _, _, h => by cases h
theorem dps_ex (e : Ex G H) : ∀ (ds : List PyData) (vs : List V), DqAll K G vs ds → DqAll K H vs ds
  | [], _, h => by cases h; exact .nil
  | d :: ds, _, h => by
    cases h with
    | cons a b => exact .cons (dp_ex e d _ a) (dps_ex e ds _ b)
end
theorem hx_ex : Ex (Hx X H) H := fun a o h => (hx_some h).2
theorem At.dp {v : V} {d : PyData} (h : At K X H v d) : Dp K H v d := dq_dp d v (dp_ex hx_ex d v h)
theorem Ats.dp {v : List V} {d : List PyData} (h : Ats K X H v d) : DpAll K H v d := dqs_dps d v (dps_ex hx_ex d v h)
theorem Ex.pr (e : Ex H H') : Pr X H H' := fun a o _ h => e a o h
theorem Pr.refl : Pr X H H := fun _ _ _ h => h
theorem Pr.trans {H1 : Hp} (a : Pr X H H1) (b : Pr X H1 H') : Pr X H H' := fun x o n h => b x o n (a x o n h)
theorem Pr.mono (h : Pr X H H') (s : ∀ a ∈ X, a ∈ Y) : Pr Y H H' := fun a o n e => h a o (fun q => n (s a q)) e
theorem pr_upd {p : Addr} {o : HO} (hp : p ∈ X) : Pr X H (upd H p o) := fun a u n h => by
  rw [upd_ne (fun z => n (by rw [z]; exact hp))]
  exact h
theorem hx_pr (h : Pr X H H') : Ex (Hx X H) (Hx X H') := fun a o q => by
  obtain ⟨n, q⟩ := hx_some q
  rw [hx_of n]
  exact h a o n q
theorem At.pr {v : V} {d : PyData} (h : At K X H v d) (p : Pr X H H') : At K X H' v d := dp_ex (hx_pr p) d v h
theorem Ats.pr {v : List V} {d : List PyData} (h : Ats K X H v d) (p : Pr X H H') : Ats K X H' v d := dps_ex (hx_pr p) d v h
theorem At.ex {v : V} {d : PyData} (h : At K X H v d) (p : Ex H H') : At K X H' v d := h.pr (Ex.pr p)
theorem Ats.ex {v : List V} {d : List PyData} (h : Ats K X H v d) (p : Ex H H') : Ats K X H' v d := h.pr (Ex.pr p)
theorem Dom.pr (h : Dom X H) (e : Ex H H') : Dom X H' := fun a ha q => h a ha (fresh_back e q)
/-- fewer may change -/
theorem At.less {v : V} {d : PyData} (h : At K Y H v d) (s : ∀ a ∈ X, a ∈ Y) : At K X H v d := dp_ex (fun a o q => by
  obtain ⟨n, q⟩ := hx_some q
  rw [hx_of fun z => n (s a z)]
  exact q) d v h
theorem Ats.less {v : List V} {d : List PyData} (h : Ats K Y H v d) (s : ∀ a ∈ X, a ∈ Y) : Ats K X H v d := dps_ex (fun a o q => by
  obtain ⟨n, q⟩ := hx_some q
  rw [hx_of fun z => n (s a z)]
  exact q) d v h
/-- one more may change, that was not there -/
theorem hx_new {p : Addr} (hp : H p = none) : Ex (Hx X H) (Hx (p :: X) H) := fun a o q => by
  obtain ⟨n, q⟩ := hx_some q
  rw [hx_of]
  · exact q
  · intro z
    rcases List.mem_cons.mp z with z | z
    · rw [z, hp] at q; cases q
    · exact n z
theorem At.more {v : V} {d : PyData} {p : Addr} (h : At K X H v d) (hp : H p = none) : At K (p :: X) H v d := dp_ex (hx_new hp) d v h
theorem Ats.more {v : List V} {d : List PyData} {p : Addr} (h : Ats K X H v d) (hp : H p = none) : Ats K (p :: X) H v d := dps_ex (hx_new hp) d v h
theorem Dom.more {p : Addr} (h : Dom X H) (e : Ex H H') (hp : H' p ≠ none) : Dom (p :: X) H' := fun a ha => by
  rcases List.mem_cons.mp ha with z | z
  · rw [z]; exact hp
  · exact h.pr e a z
theorem Dom.upd {p : Addr} {o : HO} (h : Dom X H) : Dom X (upd H p o) := fun a ha q => by
  by_cases e : a = p
  · rw [e, upd_same] at q; cases q
  · rw [upd_ne e] at q; exact h a ha q
theorem at_non : At K X H .non .none := .non
theorem at_bl {b : Bool} : At K X H (.bl b) (.bool b) := .bl b
theorem at_int {i : Int} : At K X H (.int i) (.int i) := .int i
theorem at_str {x : Str} (h : x.cps.all (· < 0x110000) = true) : At K X H (.str x) (.str x) := .str x h
theorem at_str_ok {v : V} {x : Str} (h : At K X H v (.str x)) : x.cps.all (· < 0x110000) = true := by cases h with | str _ z => exact z
theorem at_tup {p : Addr} {vs : List V} {ds : List PyData} (n : p ∉ X) (h : H p = some (.tup vs)) (a : Ats K X H vs ds) : At K X H (.ref p) (.tuple ds) :=
  .tup (st_of (by rw [hx_of n]; exact h)) a
theorem at_lst {p : Addr} {vs : List V} {ds : List PyData} (n : p ∉ X) (h : H p = some (.lst vs)) (a : Ats K X H vs ds) : At K X H (.ref p) (.list ds) :=
  .lst (by rw [hx_of n]; exact h) a
theorem at_int_inv {v : V} {i : Int} (h : At K X H v (.int i)) : v = .int i := by cases h; rfl
theorem at_bl_inv {v : V} {i : Bool} (h : At K X H v (.bool i)) : v = .bl i := by cases h; rfl
theorem at_str_inv {v : V} {i : Str} (h : At K X H v (.str i)) : v = .str i := by cases h; rfl
theorem at_non_inv {v : V} (h : At K X H v .none) : v = .non := by cases h; rfl
theorem at_tup_inv {v : V} {ds : List PyData} (h : At K X H v (.tuple ds)) : ∃ a vs, v = .ref a ∧ SqT K (Hx X H) a vs ∧ Ats K X H vs ds := by
  cases h with
  | tup a b => exact ⟨_, _, rfl, a, b⟩
theorem at_lst_inv {v : V} {ds : List PyData} (h : At K X H v (.list ds)) : ∃ a vs, v = .ref a ∧ a ∉ X ∧ H a = some (.lst vs) ∧ Ats K X H vs ds := by
  cases h with
  | lst a b => exact ⟨_, _, rfl, (hx_some a).1, (hx_some a).2, b⟩
theorem Ats.len : ∀ {vs : List V} {ds : List PyData}, Ats K X H vs ds → vs.length = ds.length
  | _, [], h => by cases h; rfl
  | _, d :: ds, h => by
    cases h with
    | cons a b => exact congrArg Nat.succ (Ats.len (ds := ds) b)
theorem Ats.get : ∀ {ds : List PyData} {vs : List V} {i : Nat} {d : PyData}, Ats K X H vs ds → ds[i]? = some d → ∃ v, vs[i]? = some v ∧ At K X H v d
  | [], _, _, _, h, e => by cases e
  | d :: ds, _, 0, _, h, e => by
    cases h with
    | cons a b => cases e; exact ⟨_, rfl, a⟩
  | d :: ds, _, i + 1, _, h, e => by
    cases h with
    | cons a b => exact Ats.get (ds := ds) (i := i) b (by simpa using e)
theorem Ats.app : ∀ {vs ws : List V} {ds es : List PyData}, Ats K X H vs ds → Ats K X H ws es → Ats K X H (vs ++ ws) (ds ++ es)
  | _, _, [], _, h, k => by cases h; exact k
  | _, _, d :: ds, _, h, k => by
    cases h with
    | cons a b => exact .cons a (Ats.app (ds := ds) b k)
theorem Ats.cons {v : V} {vs : List V} {d : PyData} {ds : List PyData} (a : At K X H v d) (b : Ats K X H vs ds) : Ats K X H (v :: vs) (d :: ds) := DqAll.cons a b
theorem Ats.nil : Ats K X H [] [] := DqAll.nil
theorem Ats.take : ∀ {vs : List V} {ds : List PyData} (n : Nat), Ats K X H vs ds → Ats K X H (vs.take n) (ds.take n)
  | _, [], 0, h => by cases h; exact .nil
  | _, [], _ + 1, h => by cases h; exact .nil
  | _, d :: ds, 0, h => .nil
  | _, d :: ds, n + 1, h => by
    cases h with
    | cons a b => exact .cons a (Ats.take (ds := ds) n b)
theorem Ats.drop : ∀ {vs : List V} {ds : List PyData} (n : Nat), Ats K X H vs ds → Ats K X H (vs.drop n) (ds.drop n)
  | _, [], 0, h => by cases h; exact .nil
  | _, [], _ + 1, h => by cases h; exact .nil
  | _, d :: ds, 0, h => h
  | _, d :: ds, n + 1, h => by
    cases h with
    | cons a b => exact Ats.drop (ds := ds) n b
theorem ats_strs : ∀ {vs : List V} {ss : List Str}, Ats K X H vs (ss.map PyData.str) → vs = ss.map V.str
  | _, [], h => by cases h; rfl
  | _, s :: ss, h => by
    cases h with
    | cons a b =>
      rw [at_str_inv a, ats_strs (ss := ss) b]
      all_goals rfl
theorem ats_of_strs : ∀ {ss : List Str}, (∀ s ∈ ss, s.cps.all (· < 0x110000) = true) → Ats K X H (ss.map V.str) (ss.map PyData.str)
  | [], _ => .nil
  | s :: ss, h => .cons (at_str (h s List.mem_cons_self)) (ats_of_strs (ss := ss) fun x hx => h x (List.mem_cons_of_mem _ hx))
mutual
theorem dq_lay (K : PySem.W.Frag) (H : Hp) : ∀ (d : PyData) (v : V), Dq K H v d → d.canLay0 = true
  | .none, _, h => rfl
  | .bool b, _, h => rfl
  | .int i, _, h => rfl
  | .str x, _, h => by cases h with | str _ z => exact z
  | .list ds, _, h => by
    cases h with
    | lst a b => exact dqs_lay K H ds _ b
  | .tuple ds, _, h => by
    cases h with
    | tup a b => exact dqs_lay K H ds _ b
  | .dict _, _, h => by cases h
theorem dqs_lay (K : PySem.W.Frag) (H : Hp) : ∀ (ds : List PyData) (vs : List V), DqAll K H vs ds → PyData.canLayAll0 ds = true
  | [], _, h => rfl
  | d :: ds, _, h => by
    cases h with
    | cons a b =>
      show (d.canLay0 && PyData.canLayAll0 ds) = true
      rw [dq_lay K H d _ a, dqs_lay K H ds _ b]
      rfl
end
theorem At.lay {v : V} {d : PyData} (h : At K X H v d) : d.canLay0 = true := dq_lay _ _ d v h
end

/-! ### what evaluates to a datum -/
def EvD (K : PySem.W.Frag) (X : List Addr) (te : TE) (σ : L2.St) (H : Hp) (d : PyData) : Prop := ∀ H1, Ex H H1 → ∀ Q : VK, (∀ v H2, Ex H1 H2 → At K X H2 v d → Q v H2) → te σ H1 Q
def EvDs (K : PySem.W.Frag) (X : List Addr) (ta : TA) (σ : L2.St) (H : Hp) (ds : List PyData) : Prop := ∀ H1, Ex H H1 → ∀ Q : List V → Hp → Prop, (∀ vs H2, Ex H1 H2 → Ats K X H2 vs ds → Q vs H2) → ta σ H1 Q
/-- an operation on data -/
def RD (K : PySem.W.Frag) (X : List Addr) (r : R2) (d e : PyData) (H : Hp) (z : PyData) : Prop := ∀ H1, Ex H H1 → ∀ x y, At K X H1 x d → At K X H1 y e → ∀ Q : VK, (∀ v H2, Ex H1 H2 → At K X H2 v z → Q v H2) → r x y H1 Q
def RCD (K : PySem.W.Frag) (X : List Addr) (r : List V → Hp → VK → Prop) (ds : List PyData) (H : Hp) (z : PyData) : Prop := ∀ H1, Ex H H1 → ∀ xs, Ats K X H1 xs ds → ∀ Q : VK, (∀ v H2, Ex H1 H2 → At K X H2 v z → Q v H2) → r xs H1 Q
/-- what a def promises of data, changing nothing -/
def SpD (K : PySem.W.Frag) (X : List Addr) (sp : Sp) (ds : List PyData) (H : Hp) (z : PyData) : Prop := ∀ H1, Ex H H1 → ∀ xs, Ats K X H1 xs ds → ∀ (Q : VK) (E : XK), (∀ v H2, Ex H1 H2 → At K X H2 v z → Q v H2) → sp xs H1 Q E
/-- a field of an instance -/
def Fld (K : PySem.W.Frag) (X : List Addr) (H : Hp) (r : Addr) (f : Str) (d : PyData) : Prop := ∃ C dx fs v, H r = some (.ins C dx fs) ∧ Cls K C ∧ NoAttr K C f ∧ fs.lookup f = some v ∧ At K X H v d

section
variable {K : PySem.W.Frag} {X : List Addr} {σ : L2.St} {H H' : Hp} {ta tb te tx : TE} {t u : TT} {d e z : PyData} {v : V} {r : R2}
theorem EvD.ex (h : EvD K X te σ H d) (a : Ex H H') : EvD K X te σ H' d := fun H1 b Q q => h H1 (a.trans b) Q q
theorem evD_is (h : EvD K X te σ H d) (q : d = z) : EvD K X te σ H z := q ▸ h
theorem ev_var {i : Nat} (h : σ[i]? = some (some v)) (a : At K X H v d) : EvD K X (tVar i) σ H d := fun H1 e Q q => ⟨v, h, q v H1 (Ex.refl _) (a.ex e)⟩
theorem ev_str {x : Str} (h : x.cps.all (· < 0x110000) = true := by decide) : EvD K X (tC (.str x)) σ H (.str x) := fun H1 _ Q q => q _ H1 (Ex.refl _) (at_str h)
theorem ev_int {x : Int} : EvD K X (tC (.int x)) σ H (.int x) := fun H1 _ Q q => q _ H1 (Ex.refl _) at_int
theorem ev_bl {x : Bool} : EvD K X (tC (.bl x)) σ H (.bool x) := fun H1 _ Q q => q _ H1 (Ex.refl _) at_bl
theorem ev_non : EvD K X (tC .non) σ H .none := fun H1 _ Q q => q _ H1 (Ex.refl _) at_non
/-- a constant of the written part -/
theorem ev_cD (a : At K X H v d) : EvD K X (tC v) σ H d := fun H1 e Q q => q _ H1 (Ex.refl _) (a.ex e)
theorem ev_op (ha : EvD K X ta σ H d) (hb : EvD K X tb σ H e) (hr : RD K X r d e H z) : EvD K X (tOp r ta tb) σ H z := fun H1 q1 Q k =>
  ha H1 q1 _ fun x H2 q2 ax => hb H2 (q1.trans q2) _ fun y H3 q3 ay => hr H3 ((q1.trans q2).trans q3) x y (ax.ex q3) ay Q fun v H4 q4 av => k v H4 ((q2.trans q3).trans q4) av
theorem ea_nil : EvDs K X tNil σ H [] := fun H1 _ Q q => q _ H1 (Ex.refl _) .nil
theorem ea_cons {tr : TA} {ds : List PyData} (h : EvD K X ta σ H d) (hr : EvDs K X tr σ H ds) : EvDs K X (tCons ta tr) σ H (d :: ds) := fun H1 e1 Q q =>
  h H1 e1 _ fun x H2 e2 ax => hr H2 (e1.trans e2) _ fun xs H3 e3 axs => q _ H3 (e2.trans e3) (.cons (ax.ex e3) axs)
theorem ev_tup {ta : TA} {ds : List PyData} (dm : Dom X H) (h : EvDs K X ta σ H ds) (hl : ds.length ≤ 100000) : EvD K X (tTup ta) σ H (.tuple ds) := fun H1 e1 Q q =>
  h H1 e1 _ fun xs H2 e2 axs => ⟨by rw [axs.len]; exact sz_of hl, fun p hp => q _ _ (e2.trans (Ex.new hp)) (at_tup (fun m => dm.pr (e1.trans e2) p m hp) upd_same (axs.ex (Ex.new hp)))⟩
theorem ev_lst {ta : TA} {ds : List PyData} (dm : Dom X H) (h : EvDs K X ta σ H ds) (hl : ds.length ≤ 100000) : EvD K X (tLst ta) σ H (.list ds) := fun H1 e1 Q q =>
  h H1 e1 _ fun xs H2 e2 axs => ⟨by rw [axs.len]; exact sz_of hl, fun p hp => q _ _ (e2.trans (Ex.new hp)) (at_lst (fun m => dm.pr (e1.trans e2) p m hp) upd_same (axs.ex (Ex.new hp)))⟩
theorem ev_fld {i : Nat} {a : Addr} {f : Str} (h : σ[i]? = some (some (.ref a))) (hf : Fld K X H a f d) : EvD K X (tFld K (tVar i) f) σ H d := fun H1 e1 Q q => by
  obtain ⟨C, dx, fs, v, h1, h2, h3, h4, h5⟩ := hf
  exact ⟨_, h, a, C, dx, fs, v, rfl, e1 _ _ h1, h2, h3, h4, q v H1 (Ex.refl _) (h5.ex e1)⟩
theorem ev_cb {rr : List V → Hp → VK → Prop} {ta : TA} {ds : List PyData} (h : EvDs K X ta σ H ds) (hr : RCD K X rr ds H z) : EvD K X (tCB rr ta) σ H z := fun H1 e1 Q q =>
  h H1 e1 _ fun xs H2 e2 axs => hr H2 (e1.trans e2) xs axs Q fun v H3 e3 av => q v H3 (e2.trans e3) av
theorem ev_call {sp : Sp} {E : XK} {ta : TA} {ds : List PyData} (h : EvDs K X ta σ H ds) (hr : SpD K X sp ds H z) : EvD K X (tCall sp [] E ta) σ H z := fun H1 e1 Q q =>
  h H1 e1 _ fun xs H2 e2 axs => by
    rw [List.append_nil]
    exact hr H2 (e1.trans e2) xs axs Q E fun v H3 e3 av => q v H3 (e2.trans e3) av
theorem ev_andV {a b : Bool} (h1 : EvD K X ta σ H (.bool a)) (h2 : a = true → EvD K X tb σ H (.bool b)) : EvD K X (tAndV ta tb) σ H (.bool (a && b)) := fun H1 e1 Q q =>
  h1 H1 e1 _ fun x H2 e2 ax => ⟨a, at_bl_inv ax, by
    cases a with
    | true => exact h2 rfl H2 (e1.trans e2) Q fun v H3 e3 av => q v H3 (e2.trans e3) av
    | false => exact q _ H2 e2 at_bl⟩
theorem ev_orV {a b : Bool} (h1 : EvD K X ta σ H (.bool a)) (h2 : a = false → EvD K X tb σ H (.bool b)) : EvD K X (tOrV ta tb) σ H (.bool (a || b)) := fun H1 e1 Q q =>
  h1 H1 e1 _ fun x H2 e2 ax => ⟨a, at_bl_inv ax, by
    cases a with
    | false => exact h2 rfl H2 (e1.trans e2) Q fun v H3 e3 av => q v H3 (e2.trans e3) av
    | true => exact q _ H2 e2 at_bl⟩
theorem ev_notV {a : Bool} (h1 : EvD K X ta σ H (.bool a)) : EvD K X (tNotV ta) σ H (.bool (!a)) := fun H1 e1 Q q =>
  h1 H1 e1 _ fun x H2 e2 ax => ⟨a, at_bl_inv ax, q _ H2 e2 at_bl⟩
theorem ev_if {b : Bool} (h : EvT t σ H b) (h1 : b = true → EvD K X ta σ H d) (h2 : b = false → EvD K X tb σ H d) : EvD K X (tIf t ta tb) σ H d := fun H1 e1 Q q => h H1 e1 _ fun H2 e2 => by
  cases b with
  | true => exact h1 rfl H2 (e1.trans e2) Q fun v H3 e3 av => q v H3 (e2.trans e3) av
  | false => exact h2 rfl H2 (e1.trans e2) Q fun v H3 e3 av => q v H3 (e2.trans e3) av
theorem et_test {b : Bool} (h : EvD K X te σ H (.bool b)) : EvT (tTest te) σ H b := fun H1 e1 Q q => h H1 e1 _ fun v H2 e2 av => ⟨b, at_bl_inv av, q H2 e2⟩
theorem et_B {b : Bool} (h : EvD K X te σ H (.bool b)) : EvT (tB te) σ H b := fun H1 e1 Q q => h H1 e1 _ fun v H2 e2 av => ⟨b, at_bl_inv av, q H2 e2⟩
end
end Dy
/-! the reading machine, one token a step -/
namespace Mi
open PySem
abbrev T := List Nat
def S (l : T) : Str := ⟨l.toArray⟩
def isL (c : Nat) : Bool := decide (97 ≤ c) && decide (c ≤ 122)
def isF (c : Nat) : Bool := decide (48 ≤ c) && decide (c ≤ 57)
def isB (c : Nat) : Bool := c == 32 || c == 10
inductive Kind | fin | word | number | sign | bad
  deriving DecidableEq
structure Lk where
  kind : Kind
  tok : T
  place : Nat
  deriving DecidableEq
abbrev kAll : T := [97, 108, 108]
abbrev kSome : T := [115, 111, 109, 101]
abbrev kNot : T := [110, 111, 116]
abbrev kAnd : T := [97, 110, 100]
abbrev kOr : T := [111, 114]
abbrev kImp : T := [105, 109, 112, 108, 105, 101, 115]
abbrev kIff : T := [105, 102, 102]
abbrev kNeg : T := [110, 101, 103, 97, 116, 105, 118, 101]
abbrev kPlus : T := [112, 108, 117, 115]
abbrev kMinus : T := [109, 105, 110, 117, 115]
abbrev kTimes : T := [116, 105, 109, 101, 115]
abbrev kPower : T := [112, 111, 119, 101, 114]
abbrev kNumber : T := [110, 117, 109, 98, 101, 114]
abbrev kLetter : T := [108, 101, 116, 116, 101, 114]
def WORDS : List T := [kAll, kSome, kNot, kAnd, kOr, kImp, kIff]
def RELS : List T := [[61], [33, 61], [60], [60, 61], [62], [62, 61]]
def SIGNS : List T := [[33, 61], [60, 61], [62, 61], [43], [45], [42], [94], [40], [41], [91], [93], [44], [58], [61], [60], [62]]
def runEnd (p : Nat → Bool) (t : T) (a : Nat) : Nat := a + ((t.drop a).takeWhile p).length
def head (r : T) (a : Nat) : Lk := match r with
  | [] => ⟨.fin, [], a⟩
  | c :: q => if isL c then ⟨.word, (c :: q).takeWhile (fun c => isL c || isF c), a⟩
    else if isF c then ⟨.number, (c :: q).takeWhile isF, a⟩
    else match SIGNS.find? (fun s => s.isPrefixOf (c :: q)) with
      | some s => ⟨.sign, s, a⟩
      | none => ⟨.bad, [c], a⟩
def tokenAt (t : T) (a : Nat) : Lk := head (t.drop (runEnd isB t a)) (runEnd isB t a)

inductive Op
  | one (h : T)
  | two (h : T) (v : PyData)
  | quant (h : T) (names : List T) (many : Nat)
def Op.head : Op → T
  | .one h => h
  | .two h _ => h
  | .quant h _ _ => h
inductive W | unit | term | base | more | joined | name (h : T) (ns : List T) | comma (h : T) (ns : List T) | expo
structure Co where
  bound : List T
  opened : List Op
  w : W
  value : PyData
  words : List T
  isBase : Bool
inductive Out
  | stop (off : Nat)
  | go (c : Co)
  | done (v : PyData)
def shared : T → T → Nat
  | a :: x, b :: y => if a = b then shared x y + 1 else 0
  | _, _ => 0
def longest (tok : T) (words : List T) : Nat := words.foldl (fun m w => max m (shared w tok)) 0
/-- where reading stops in a token -/
def stopAt (k : Kind) (tok : T) (words : List T) (ne : Bool) : Out := match k with
  | .word => .stop (longest tok words)
  | .bad => if tok = [33] ∧ ne = true then .stop 1 else .stop 0
  | _ => .stop 0
def top : List Op → T
  | [] => []
  | o :: _ => o.head
def str (t : T) : PyData := .str (S t)
def pair (h : T) (v : PyData) : PyData := .tuple [str h, v]
def trip (h : T) (u v : PyData) : PyData := .tuple [str h, u, v]
def opVal : Op → PyData → PyData
  | .one h, v => pair h v
  | .two h u, v => trip h u v
  | .quant h ns m, v => .tuple [str h, .list (ns.map str), .int (m : Nat), v]
def nest (h : T) (names : List T) (v : PyData) : PyData := names.foldr (fun n v => trip h (str n) v) v
/-- the frame on top is put together with the value, if its head is one of these -/
def join (c : Co) (heads : List T) : Co := match c.opened with
  | [] => c
  | o :: r => if o.head ∈ heads then { c with opened := r, value := opVal o c.value } else c
def joins (heads : List T) : List Op → PyData → List Op × PyData
  | [], v => ([], v)
  | o :: r, v => if o.head ∈ heads then joins heads r (opVal o v) else (o :: r, v)
def joinAll (c : Co) (heads : List T) : Co := let p := joins heads c.opened c.value; { c with opened := p.1, value := p.2 }
def numOf (t : T) : Nat := t.foldl (fun n c => n * 10 + (c - 48)) 0
def pushed (c : Co) (h : T) (w : W) : Co := { c with opened := .two h c.value :: c.opened, w := w, isBase := true }
def isTok (k : Kind) (t : T) (k' : Kind) (t' : T) : Bool := decide (k = k') && decide (t = t')

/-- joined: n bounds the frames of all and some that are taken off -/
def dEnd (k : Kind) (t : T) (again : Co → Out) (c : Co) : Out :=
  match c.opened with
  | .quant h ns many :: r => again { c with opened := r, bound := c.bound.take many, value := nest h ns c.value }
  | [] => if k = .fin then .done c.value else stopAt k t [kAnd, kOr, kImp, kIff] false
  | o :: r => if o.head = [91] ∧ k = .sign ∧ t = [93] then .go { c with opened := r, w := .joined } else stopAt k t [kAnd, kOr, kImp, kIff] false
def dOr (k : Kind) (t : T) (again : Co → Out) (c : Co) : Out :=
  if k = .word ∧ t = kOr then .go (pushed c kOr .unit) else
  if k = .word ∧ t = kImp then .go (pushed c kImp .unit) else
  if k = .word ∧ t = kIff then .go (pushed c kIff .unit) else
  dEnd k t again (joinAll c [kImp, kIff])
def dAnd (k : Kind) (t : T) (again : Co → Out) (c : Co) : Out :=
  if k = .word ∧ t = kAnd then .go (pushed c kAnd .unit) else dOr k t again (join c [kOr])
def dJoined (k : Kind) (t : T) : Nat → Co → Out
  | 0, _ => stopAt k t [kAnd, kOr, kImp, kIff] false
  | n + 1, c => dAnd k t (dJoined k t n) (join (joinAll c [kNot]) [kAnd])
def dSum (k : Kind) (t : T) (c : Co) : Out :=
  if k = .sign ∧ t = [43] then .go (pushed c kPlus .base) else
  if k = .sign ∧ t = [45] then .go (pushed c kMinus .base) else
  if top c.opened = [40] then
    if k = .sign ∧ t = [41] then .go { c with opened := c.opened.tail, isBase := true, w := .more } else stopAt k t [] false
  else if top c.opened ∈ RELS then dJoined k t (c.opened.length + 1) { join c RELS with w := .joined, isBase := true }
  else if k = .sign ∧ t ∈ RELS then .go (pushed c t .term)
  else stopAt k t [] true
def dMul (k : Kind) (t : T) (c : Co) : Out :=
  if k = .sign ∧ t = [42] then .go (pushed c kTimes .base) else dSum k t (join c [kPlus, kMinus, kNeg])
def dMore (k : Kind) (t : T) (c : Co) : Out :=
  if c.isBase = true ∧ k = .sign ∧ t = [94] then .go { c with w := .expo, isBase := true } else dMul k t (join c [kTimes])
def numOut (k : Kind) (t : T) (most : Nat) (ok : Nat → Out) : Out :=
  if k ≠ .number then stopAt k t [] false
  else if t.head? = some 48 ∧ 1 < t.length then .stop 1
  else if most < t.length then .stop most
  else ok (numOf t)
def dBase (k : Kind) (t : T) (c : Co) : Out :=
  if k = .sign ∧ t = [40] then .go { c with opened := .one [40] :: c.opened, w := .term, words := [] }
  else if k = .number then numOut k t 6 fun n => .go { c with value := pair kNumber (.int n), w := .more, words := [], isBase := true }
  else if k = .word ∧ t ∈ c.bound then .go { c with value := pair kLetter (str t), w := .more, words := [], isBase := true }
  else stopAt k t (c.bound ++ c.words) false
def dTerm (k : Kind) (t : T) (c : Co) : Out :=
  if k = .sign ∧ t = [45] then .go { c with opened := .one kNeg :: c.opened, w := .base, words := [] } else dBase k t c
def dUnit (k : Kind) (t : T) (c : Co) : Out :=
  if (k = .word ∧ t = kNot) ∨ (k = .sign ∧ t = [91]) then .go { c with opened := .one t :: c.opened, w := .unit }
  else if k = .word ∧ (t = kAll ∨ t = kSome) then .go { c with w := .name t [] }
  else dTerm k t { c with words := [kNot, kAll, kSome] }
def delta (k : Kind) (t : T) (c : Co) : Out := match c.w with
  | .unit => dUnit k t c
  | .term => dTerm k t c
  | .base => dBase k t c
  | .more => dMore k t c
  | .joined => dJoined k t (c.opened.length + 1) c
  | .name h ns =>
    if k ≠ .word then stopAt k t [] false
    else if 8 < t.length then .stop 8
    else if t ∈ WORDS then .stop t.length
    else .go { c with w := .comma h (ns ++ [t]) }
  | .comma h ns =>
    if k = .sign ∧ t = [44] then .go { c with w := .name h ns }
    else if k = .sign ∧ t = [58] then .go { c with opened := .quant h ns c.bound.length :: c.opened, bound := c.bound ++ ns, w := .unit }
    else stopAt k t [] false
  | .expo => numOut k t 1 fun n => .go { c with value := trip kPower c.value (.int n), isBase := false, w := .more }

inductive Res
  | read (v : PyData)
  | unread (p : Nat)
def parse (t : T) : Nat → Co → Lk → Res
  | 0, _, k => .unread k.place
  | n + 1, c, k => match delta k.kind k.tok c with
    | .stop off => .unread (k.place + off)
    | .done v => .read v
    | .go c' => parse t n c' (tokenAt t (k.place + k.tok.length))
def start (free : List T) : Co := ⟨free, [], .unit, .none, [], false⟩
def settle (t : T) (free : List T) : Res := parse t (t.length + 1) (start free) (tokenAt t 0)

/-! ### known texts -/
end Mi
namespace Dy
open PySem L2 Evl Mi
abbrev ok (x : Str) : Prop := x.cps.all (· < 0x110000) = true
theorem ok_iff {x : Str} : ok x ↔ ∀ c ∈ x.cps.toList, c < 0x110000 := by
  unfold ok
  rw [Array.all_eq_true_iff_forall_mem]
  simp
theorem ok_S {t : T} : ok (S t) ↔ ∀ c ∈ t, c < 0x110000 := by rw [ok_iff]; exact Iff.rfl
theorem S_list (t : T) : (S t).cps.toList = t := rfl
theorem S_len (t : T) : (S t).length = t.length := by show t.toArray.size = t.length; simp
theorem S_inj {t u : T} (h : S t = S u) : t = u := by
  have := congrArg (fun x : Str => x.cps.toList) h
  exact this
theorem S_of (x : Str) : S x.cps.toList = x := by cases x; rfl
theorem S_app (t u : T) : S t ++ S u = S (t ++ u) := by
  show (⟨t.toArray ++ u.toArray⟩ : Str) = ⟨(t ++ u).toArray⟩
  rw [List.append_toArray]

/-! ### operators -/
abbrev rAddI : R2 := rI0 fun i j => .int (i + j)
abbrev rSubI : R2 := rI0 fun i j => .int (i - j)
abbrev rLtI : R2 := rI0 fun i j => .bl (decide (i < j))
abbrev rLeI : R2 := rI0 fun i j => .bl (decide (i ≤ j))
abbrev rGtI : R2 := rI0 fun i j => .bl (decide (j < i))
abbrev rGeI : R2 := rI0 fun i j => .bl (decide (j ≤ i))
abbrev rMulI : R2 := rI CMulW fun i j => .int (i * j)
abbrev rDivI : R2 := rI CDivW fun i j => .int (i / j)
abbrev rModI : R2 := rI (fun _ j => 0 < j) fun i j => .int (i % j)
abbrev rPowI : R2 := rI CPow fun i j => .int (i ^ j.toNat)
def rCatS : R2 := fun x y H Q => ∃ i j, x = .str i ∧ y = .str j ∧ i.length + j.length ≤ sizeLine ∧ Q (.str (i ++ j)) H
theorem op_catS {X : Cx} : OpR X (binaryOp .Add) rCatS := op_add_str
def rLenA (K : PySem.W.Frag) : List V → Hp → VK → Prop := fun xs H Q => ∃ x n, xs = [x] ∧ LenV K x H n ∧ Q (.int n) H
theorem call_lenA {X : Cx} : CallR X (.builtin "len") (rLenA X.K) := call_len
def rListA (K : PySem.W.Frag) : List V → Hp → VK → Prop := fun xs H Q => ∃ p ys, xs = [.ref p] ∧ (SqL K H p ys ∨ SqT K H p ys) ∧ ∀ l, H l = none → Q (.ref l) (upd H l (.lst ys))
theorem call_listA {X : Cx} : CallR X (.type "list") (rListA X.K) := call_list_of
def rTupA (K : PySem.W.Frag) : List V → Hp → VK → Prop := fun xs H Q => ∃ p ys, xs = [.ref p] ∧ ((SqL K H p ys ∧ ∀ l, H l = none → Q (.ref l) (upd H l (.tup ys))) ∨ (SqT K H p ys ∧ Q (.ref p) H))
theorem call_tupA {X : Cx} : CallR X (.type "tuple") (rTupA X.K) := call_tuple_of
def rIntA : List V → Hp → VK → Prop := fun xs H Q => (∃ i, xs = [.int i] ∧ Q (.int i) H) ∨ ∃ k, xs = [.bl k] ∧ Q (.int (if k then 1 else 0)) H
theorem call_intA {X : Cx} : CallR X (.type "int") rIntA := call_int1
def rIntS : List V → Hp → VK → Prop := fun xs H Q => ∃ a n, xs = [.str a] ∧ PySem.intText? a = some n ∧ a.length ≤ 640 ∧ Q (.int n) H
theorem call_intS {X : Cx} : CallR X (.type "int") rIntS := call_int_str
def rStrI : List V → Hp → VK → Prop := fun xs H Q => ∃ i : Int, xs = [.int i] ∧ i.natAbs.log2 < 1920 ∧ Q (.str (toString i)) H
theorem call_strI {X : Cx} : CallR X (.type "str") rStrI := call_str_int
def rMaxA : List V → Hp → VK → Prop := fun xs H Q => ∃ i j, xs = [.int i, .int j] ∧ Q (.int (if j > i then j else i)) H
def rMinA : List V → Hp → VK → Prop := fun xs H Q => ∃ i j, xs = [.int i, .int j] ∧ Q (.int (if j < i then j else i)) H
theorem call_maxA {X : Cx} (h : X.calm = true) : CallR X (.builtin "max") rMaxA := call_max2 h
theorem call_minA {X : Cx} (h : X.calm = true) : CallR X (.builtin "min") rMinA := call_min2 h
/-- == and != of data of bounded depth -/
def rEqN (K : PySem.W.Frag) (N : Nat) : R2 := fun x y H Q => ∃ d e, Dp K H x d ∧ Dp K H y e ∧ d.canLay0 = true ∧ e.canLay0 = true ∧ min d.depth e.depth ≤ N ∧ Q (.bl (PyData.eqv d e)) H
def rNeN (K : PySem.W.Frag) (N : Nat) : R2 := fun x y H Q => ∃ d e, Dp K H x d ∧ Dp K H y e ∧ d.canLay0 = true ∧ e.canLay0 = true ∧ min d.depth e.depth ≤ N ∧ Q (.bl (!PyData.eqv d e)) H
theorem op_eqN {X : Cx} {N : Nat} (hu : X.A.units + N < cLine) : OpR X (compareOp .Eq) (rEqN X.K N) := by
  intro pins s σ H x y v u Q I rx ry ⟨d, e, hd, he, ld, le, hm, q⟩
  obtain ⟨as, r1⟩ := Dp.reads I d x v hd rx
  obtain ⟨bs, r2⟩ := Dp.reads I e y u he ry
  exact SeqAt.compareEq_reads r1 r2 ld le (by omega) ⟨.bl _, H, I, rfl, q⟩
theorem op_neN {X : Cx} {N : Nat} (hu : X.A.units + N < cLine) : OpR X (compareOp .NotEq) (rNeN X.K N) := by
  intro pins s σ H x y v u Q I rx ry ⟨d, e, hd, he, ld, le, hm, q⟩
  obtain ⟨as, r1⟩ := Dp.reads I d x v hd rx
  obtain ⟨bs, r2⟩ := Dp.reads I e y u he ry
  exact SeqAt.compareNe_reads r1 r2 ld le (by omega) ⟨.bl _, H, I, rfl, q⟩
theorem un_of {k : Nat} {A : Around} (hr : Room k A) : A.units + 200 < cLine := by have := hr.un; omega

section
variable {K : PySem.W.Frag} {X : List Addr} {σ : L2.St} {H H' : Hp} {ta tb te tx : TE} {t u : TT} {d e z : PyData} {v : V} {r : R2}
theorem RD.of (h : ∀ H1, Ex H H1 → ∀ x y, At K X H1 x d → At K X H1 y e → ∀ Q : VK, (∀ v, At K X H1 v z → Q v H1) → r x y H1 Q) : RD K X r d e H z :=
  fun H1 e1 x y ax ay Q q => h H1 e1 x y ax ay Q fun v av => q v H1 (Ex.refl _) av
theorem rd_I0 {g : Int → Int → V} {w : PyData} {i j : Int} (hz : ∀ H1, At K X H1 (g i j) w) : RD K X (rI0 g) (.int i) (.int j) H w :=
  RD.of fun H1 _ x y ax ay Q q => ⟨i, j, at_int_inv ax, at_int_inv ay, q _ (hz H1)⟩
theorem rd_add {i j : Int} : RD K X rAddI (.int i) (.int j) H (.int (i + j)) := rd_I0 fun _ => at_int
theorem rd_sub {i j : Int} : RD K X rSubI (.int i) (.int j) H (.int (i - j)) := rd_I0 fun _ => at_int
theorem rd_lt {i j : Int} : RD K X rLtI (.int i) (.int j) H (.bool (decide (i < j))) := rd_I0 fun _ => at_bl
theorem rd_le {i j : Int} : RD K X rLeI (.int i) (.int j) H (.bool (decide (i ≤ j))) := rd_I0 fun _ => at_bl
theorem rd_gt {i j : Int} : RD K X rGtI (.int i) (.int j) H (.bool (decide (j < i))) := rd_I0 fun _ => at_bl
theorem rd_ge {i j : Int} : RD K X rGeI (.int i) (.int j) H (.bool (decide (j ≤ i))) := rd_I0 fun _ => at_bl
theorem rd_I {C : Int → Int → Prop} {g : Int → Int → V} {w : PyData} {i j : Int} (hc : C i j) (hz : ∀ H1, At K X H1 (g i j) w) : RD K X (rI C g) (.int i) (.int j) H w :=
  RD.of fun H1 _ x y ax ay Q q => ⟨i, j, at_int_inv ax, at_int_inv ay, hc, q _ (hz H1)⟩
theorem rd_mod {i j : Int} (h : 0 < j) : RD K X rModI (.int i) (.int j) H (.int (i % j)) := rd_I h fun _ => at_int
theorem rd_mul {i j : Int} (h : CMulW i j) : RD K X rMulI (.int i) (.int j) H (.int (i * j)) := rd_I h fun _ => at_int
theorem rd_div {i j : Int} (h : CDivW i j) : RD K X rDivI (.int i) (.int j) H (.int (i / j)) := rd_I h fun _ => at_int
theorem rd_pow {i j : Int} (h : CPow i j) : RD K X rPowI (.int i) (.int j) H (.int (i ^ j.toNat)) := rd_I h fun _ => at_int
theorem rd_catS {a b : T} (h : a.length + b.length ≤ 16000000) : RD K X rCatS (.str (S a)) (.str (S b)) H (.str (S (a ++ b))) :=
  RD.of fun H1 _ x y ax ay Q q => by
    refine ⟨S a, S b, at_str_inv ax, at_str_inv ay, ?_, ?_⟩
    · rw [S_len, S_len]; exact Nat.le_trans h (by decide)
    · rw [S_app]
      refine q _ (at_str ?_)
      have h1 := ok_S.mp (at_str_ok ax)
      have h2 := ok_S.mp (at_str_ok ay)
      exact ok_S.mpr fun c hc => (List.mem_append.mp hc).elim (h1 c) (h2 c)
theorem rd_catL {ds es : List PyData} (dm : Dom X H) (h : ds.length + es.length ≤ 1000000) : RD K X rCat (.list ds) (.list es) H (.list (ds ++ es)) := fun H1 e1 x y ax ay Q q => by
  obtain ⟨a, vs, rfl, na, ha, a1⟩ := at_lst_inv ax
  obtain ⟨b, ws, rfl, nb, hb, b1⟩ := at_lst_inv ay
  refine ⟨a, b, vs, ws, rfl, rfl, ha, hb, ?_, fun p hp => q _ _ (Ex.new hp) (at_lst (fun m => dm.pr e1 p m hp) upd_same ((a1.app b1).ex (Ex.new hp)))⟩
  rw [a1.len, b1.len]; exact Nat.le_trans h (by decide)
theorem rd_catT {ds es : List PyData} (dm : Dom X H) (h : ds.length + es.length ≤ 1000000) : RD K X (rCatA K) (.tuple ds) (.tuple es) H (.tuple (ds ++ es)) := fun H1 e1 x y ax ay Q q => by
  obtain ⟨a, vs, rfl, ha, a1⟩ := at_tup_inv ax
  obtain ⟨b, ws, rfl, hb, b1⟩ := at_tup_inv ay
  refine ⟨a, b, vs, ws, rfl, rfl, ex_t hx_ex ha, ex_t hx_ex hb, ?_, fun h0 => ?_, fun h0 h1 => ?_, fun h0 h1 p hp => ?_⟩
  · rw [a1.len, b1.len]; exact Nat.le_trans h (by decide)
  · subst h0
    have e2 : ds = [] := List.length_eq_zero_iff.mp (by rw [← a1.len]; rfl)
    subst e2
    exact q _ H1 (Ex.refl _) ay
  · subst h1
    have e2 : es = [] := List.length_eq_zero_iff.mp (by rw [← b1.len]; rfl)
    subst e2
    exact q _ H1 (Ex.refl _) (by rw [List.append_nil]; exact ax)
  · exact q _ _ (Ex.new hp) (at_tup (fun m => dm.pr e1 p m hp) upd_same ((a1.app b1).ex (Ex.new hp)))
theorem rd_eqS {a b : Str} : RD K X rEq (.str a) (.str b) H (.bool (decide (a = b))) := RD.of fun H1 _ x y ax ay Q q => by
  cases at_str_inv ax
  cases at_str_inv ay
  refine ⟨rfl, ?_⟩
  have : (decide ((V.str a) = V.str b)) = decide (a = b) := by
    by_cases h : a = b
    · subst h; simp
    · rw [decide_eq_false h, decide_eq_false (fun q => h (V.str.inj q))]
  rw [this]; exact q _ at_bl
theorem rd_eqI {a b : Int} : RD K X rEq (.int a) (.int b) H (.bool (decide (a = b))) := RD.of fun H1 _ x y ax ay Q q => by
  cases at_int_inv ax
  cases at_int_inv ay
  refine ⟨rfl, ?_⟩
  have : (decide ((V.int a) = V.int b)) = decide (a = b) := by
    by_cases h : a = b
    · subst h; simp
    · rw [decide_eq_false h, decide_eq_false (fun q => h (V.int.inj q))]
  rw [this]; exact q _ at_bl
theorem rd_neS {a b : Str} : RD K X rNe (.str a) (.str b) H (.bool (!decide (a = b))) := RD.of fun H1 _ x y ax ay Q q => by
  cases at_str_inv ax
  cases at_str_inv ay
  refine ⟨rfl, ?_⟩
  have : (decide ((V.str a) = V.str b)) = decide (a = b) := by
    by_cases h : a = b
    · subst h; simp
    · rw [decide_eq_false h, decide_eq_false (fun q => h (V.str.inj q))]
  rw [this]; exact q _ at_bl
theorem rd_neI {a b : Int} : RD K X rNe (.int a) (.int b) H (.bool (!decide (a = b))) := RD.of fun H1 _ x y ax ay Q q => by
  cases at_int_inv ax
  cases at_int_inv ay
  refine ⟨rfl, ?_⟩
  have : (decide ((V.int a) = V.int b)) = decide (a = b) := by
    by_cases h : a = b
    · subst h; simp
    · rw [decide_eq_false h, decide_eq_false (fun q => h (V.int.inj q))]
  rw [this]; exact q _ at_bl
theorem rd_eqN {N : Nat} (h : min d.depth e.depth ≤ N) : RD K X (rEqN K N) d e H (.bool (PyData.eqv d e)) := RD.of fun H1 _ x y ax ay Q q => ⟨d, e, ax.dp, ay.dp, ax.lay, ay.lay, h, q _ at_bl⟩
theorem rd_neN {N : Nat} (h : min d.depth e.depth ≤ N) : RD K X (rNeN K N) d e H (.bool (!PyData.eqv d e)) := RD.of fun H1 _ x y ax ay Q q => ⟨d, e, ax.dp, ay.dp, ax.lay, ay.lay, h, q _ at_bl⟩
theorem inV_strs (x : Str) : ∀ ss : List Str, inV (.str x) (ss.map V.str) = decide (x ∈ ss)
  | [] => rfl
  | s :: ss => by
    show (eqV (.str s) (.str x) || inV (.str x) (ss.map V.str)) = _
    rw [inV_strs x ss]
    show ((s == x) || _) = _
    by_cases h : s = x
    · subst h; simp
    · have : (s == x) = false := by simpa using h
      rw [this]
      simp only [Bool.false_or, List.mem_cons, show (x = s) = False from eq_false fun q => h q.symm, false_or]
theorem flat_strs (ss : List Str) : (ss.map V.str).all flatV = true := by
  rw [List.all_eq_true]
  intro x hx
  obtain ⟨s, _, rfl⟩ := List.mem_map.mp hx
  rfl
theorem rd_inT {x : Str} {ss : List Str} : RD K X (rIn K false) (.str x) (.tuple (ss.map .str)) H (.bool (decide (x ∈ ss))) := RD.of fun H1 _ a b ax ay Q q => by
  obtain ⟨p, vs, rfl, hp, a1⟩ := at_tup_inv ay
  cases at_str_inv ax
  cases ats_strs a1
  refine ⟨p, _, rfl, .inr (ex_t hx_ex hp), rfl, flat_strs ss, ?_⟩
  rw [if_neg (by simp), inV_strs]
  exact q _ at_bl
theorem rd_inL {x : Str} {ss : List Str} : RD K X (rIn K false) (.str x) (.list (ss.map .str)) H (.bool (decide (x ∈ ss))) := RD.of fun H1 _ a b ax ay Q q => by
  obtain ⟨p, vs, rfl, _, hp, a1⟩ := at_lst_inv ay
  cases at_str_inv ax
  cases ats_strs a1
  refine ⟨p, _, rfl, .inl (sq_of hp), rfl, flat_strs ss, ?_⟩
  rw [if_neg (by simp), inV_strs]
  exact q _ at_bl
theorem rd_niT {x : Str} {ss : List Str} : RD K X (rIn K true) (.str x) (.tuple (ss.map .str)) H (.bool (!decide (x ∈ ss))) := RD.of fun H1 _ a b ax ay Q q => by
  obtain ⟨p, vs, rfl, hp, a1⟩ := at_tup_inv ay
  cases at_str_inv ax
  cases ats_strs a1
  refine ⟨p, _, rfl, .inr (ex_t hx_ex hp), rfl, flat_strs ss, ?_⟩
  rw [if_pos rfl, inV_strs]
  exact q _ at_bl
theorem rd_niL {x : Str} {ss : List Str} : RD K X (rIn K true) (.str x) (.list (ss.map .str)) H (.bool (!decide (x ∈ ss))) := RD.of fun H1 _ a b ax ay Q q => by
  obtain ⟨p, vs, rfl, _, hp, a1⟩ := at_lst_inv ay
  cases at_str_inv ax
  cases ats_strs a1
  refine ⟨p, _, rfl, .inl (sq_of hp), rfl, flat_strs ss, ?_⟩
  rw [if_pos rfl, inV_strs]
  exact q _ at_bl
theorem rd_inC {c : Nat} {z : T} : RD K X rInS (.str (S [c])) (.str (S z)) H (.bool (decide (c ∈ z))) := RD.of fun H1 _ a b ax ay Q q => ⟨c, S z, at_str_inv ax, at_str_inv ay, q _ at_bl⟩
theorem rd_ixS {z : T} {j c : Nat} (hl : z.length ≤ 16000000) (h : z[j]? = some c) : RD K X (rIx K) (.str (S z)) (.int (j : Int)) H (.str (S [c])) := RD.of fun H1 _ a b ax ay Q q =>
  .inr (.inr ⟨S z, j, c, at_str_inv ax, at_int_inv ay, by rw [S_len]; exact Nat.le_trans hl (by decide), atI_nat h, q _ (at_str (ok_S.mpr fun x hx => by
    have h1 := ok_S.mp (at_str_ok ax)
    rcases List.mem_cons.mp hx with e | e
    · rw [e]; exact h1 c (List.mem_of_getElem? h)
    · cases e))⟩)
theorem rd_ixT {ds : List PyData} {j : Nat} (h : ds[j]? = some z) : RD K X (rIx K) (.tuple ds) (.int (j : Int)) H z := RD.of fun H1 _ a b ax ay Q q => by
  obtain ⟨p, vs, rfl, hp, a1⟩ := at_tup_inv ax
  obtain ⟨v, hv, av⟩ := a1.get h
  exact .inr (.inl ⟨p, vs, j, v, rfl, at_int_inv ay, ex_t hx_ex hp, atI_nat hv, q _ av⟩)
theorem rd_ixL {ds : List PyData} {j : Nat} (h : ds[j]? = some z) : RD K X (rIx K) (.list ds) (.int (j : Int)) H z := RD.of fun H1 _ a b ax ay Q q => by
  obtain ⟨p, vs, rfl, _, hp, a1⟩ := at_lst_inv ax
  obtain ⟨v, hv, av⟩ := a1.get h
  exact .inl ⟨p, vs, j, v, rfl, at_int_inv ay, sq_of hp, atI_nat hv, q _ av⟩
theorem atI_m1 {α : Type} {xs : List α} {v : α} (h : xs.getLast? = some v) : atI xs (-1) = some v := by
  obtain ⟨ys, rfl⟩ := List.getLast?_eq_some_iff.mp h
  exact atI_last ys v
/-! calls of built-ins -/
theorem RCD.of {rr : List V → Hp → VK → Prop} {ds : List PyData} (h : ∀ H1, Ex H H1 → ∀ xs, Ats K X H1 xs ds → ∀ Q : VK, (∀ v, At K X H1 v z → Q v H1) → rr xs H1 Q) : RCD K X rr ds H z :=
  fun H1 e1 xs ax Q q => h H1 e1 xs ax Q fun v av => q v H1 (Ex.refl _) av
theorem ats1 {xs : List V} {d : PyData} (h : Ats K X H xs [d]) : ∃ v, xs = [v] ∧ At K X H v d := by
  cases h with
  | cons a b => cases b; exact ⟨_, rfl, a⟩
theorem ats2 {xs : List V} {d e : PyData} (h : Ats K X H xs [d, e]) : ∃ v w, xs = [v, w] ∧ At K X H v d ∧ At K X H w e := by
  cases h with
  | cons a b =>
    obtain ⟨w, rfl, c⟩ := ats1 b
    exact ⟨_, _, rfl, a, c⟩
theorem ats3 {xs : List V} {d e f : PyData} (h : Ats K X H xs [d, e, f]) : ∃ v w u, xs = [v, w, u] ∧ At K X H v d ∧ At K X H w e ∧ At K X H u f := by
  cases h with
  | cons a b =>
    obtain ⟨w, u, rfl, c, c'⟩ := ats2 b
    exact ⟨_, _, _, rfl, a, c, c'⟩
theorem rc_lenS {t : T} (h : t.length ≤ 16000000) : RCD K X (rLenA K) [.str (S t)] H (.int t.length) := RCD.of fun H1 _ xs ax Q q => by
  obtain ⟨v, rfl, a⟩ := ats1 ax
  cases at_str_inv a
  exact ⟨_, t.length, rfl, ⟨by rw [S_len]; exact Nat.le_trans h (by decide), (S_len t).symm⟩, q _ at_int⟩
theorem rc_lenT {ds : List PyData} : RCD K X (rLenA K) [.tuple ds] H (.int ds.length) := RCD.of fun H1 _ xs ax Q q => by
  obtain ⟨v, rfl, a⟩ := ats1 ax
  obtain ⟨p, vs, rfl, hp, a1⟩ := at_tup_inv a
  exact ⟨_, ds.length, rfl, .inr ⟨_, ex_t hx_ex hp, a1.len.symm⟩, q _ at_int⟩
theorem rc_lenL {ds : List PyData} : RCD K X (rLenA K) [.list ds] H (.int ds.length) := RCD.of fun H1 _ xs ax Q q => by
  obtain ⟨v, rfl, a⟩ := ats1 ax
  obtain ⟨p, vs, rfl, _, hp, a1⟩ := at_lst_inv a
  exact ⟨_, ds.length, rfl, .inl ⟨_, sq_of hp, a1.len.symm⟩, q _ at_int⟩
theorem rc_listT {ds : List PyData} (dm : Dom X H) : RCD K X (rListA K) [.tuple ds] H (.list ds) := fun H1 e1 xs ax Q q => by
  obtain ⟨v, rfl, a⟩ := ats1 ax
  obtain ⟨p, vs, rfl, hp, a1⟩ := at_tup_inv a
  exact ⟨p, vs, rfl, .inr (ex_t hx_ex hp), fun l hl => q _ _ (Ex.new hl) (at_lst (fun m => dm.pr e1 l m hl) upd_same (a1.ex (Ex.new hl)))⟩
theorem rc_listL {ds : List PyData} (dm : Dom X H) : RCD K X (rListA K) [.list ds] H (.list ds) := fun H1 e1 xs ax Q q => by
  obtain ⟨v, rfl, a⟩ := ats1 ax
  obtain ⟨p, vs, rfl, _, hp, a1⟩ := at_lst_inv a
  exact ⟨p, vs, rfl, .inl (sq_of hp), fun l hl => q _ _ (Ex.new hl) (at_lst (fun m => dm.pr e1 l m hl) upd_same (a1.ex (Ex.new hl)))⟩
theorem rc_tupL {ds : List PyData} (dm : Dom X H) : RCD K X (rTupA K) [.list ds] H (.tuple ds) := fun H1 e1 xs ax Q q => by
  obtain ⟨v, rfl, a⟩ := ats1 ax
  obtain ⟨p, vs, rfl, _, hp, a1⟩ := at_lst_inv a
  exact ⟨p, vs, rfl, .inl ⟨sq_of hp, fun l hl => q _ _ (Ex.new hl) (at_tup (fun m => dm.pr e1 l m hl) upd_same (a1.ex (Ex.new hl)))⟩⟩
theorem rc_int {i : Int} : RCD K X rIntA [.int i] H (.int i) := RCD.of fun H1 _ xs ax Q q => by
  obtain ⟨v, rfl, a⟩ := ats1 ax
  cases at_int_inv a
  exact .inl ⟨i, rfl, q _ at_int⟩
theorem rc_max {i j : Int} : RCD K X rMaxA [.int i, .int j] H (.int (max i j)) := RCD.of fun H1 _ xs ax Q q => by
  obtain ⟨v, w, rfl, a, b⟩ := ats2 ax
  cases at_int_inv a
  cases at_int_inv b
  refine ⟨i, j, rfl, ?_⟩
  rw [show (if j > i then j else i) = max i j by split <;> omega]
  exact q _ at_int
theorem rc_min {i j : Int} : RCD K X rMinA [.int i, .int j] H (.int (min i j)) := RCD.of fun H1 _ xs ax Q q => by
  obtain ⟨v, w, rfl, a, b⟩ := ats2 ax
  cases at_int_inv a
  cases at_int_inv b
  refine ⟨i, j, rfl, ?_⟩
  rw [show (if j < i then j else i) = min i j by split <;> omega]
  exact q _ at_int
/-- the class of a datum -/
def tyN : PyData → String
  | .none => "NoneType"
  | .bool _ => "bool"
  | .int _ => "int"
  | .str _ => "str"
  | .list _ => "list"
  | .tuple _ => "tuple"
  | .dict _ => "dict"
theorem at_ty {v : V} {d : PyData} (h : At K X H v d) : TyX K H v (.type (tyN d)) := by
  cases d with
  | none => cases at_non_inv h; exact .base .non
  | bool b => cases at_bl_inv h; exact .base (.bl b)
  | int i => cases at_int_inv h; exact .base (.int i)
  | str x => cases at_str_inv h; exact .base (.str x)
  | list ds =>
    obtain ⟨a, vs, rfl, _, hp, _⟩ := at_lst_inv h
    exact .base (.lst hp)
  | tuple ds =>
    obtain ⟨a, vs, rfl, hp, _⟩ := at_tup_inv h
    rcases ex_t hx_ex hp with hp | ⟨o, its, n, h1, h2, _⟩
    · rcases hp with hp | ⟨o, hp⟩
      · exact .base (.tup hp)
      · exact .fTuple hp
    · exact .kTuple h1 h2
  | dict _ => cases h
theorem ev_isi {T : String} {b : Bool} (ha : EvD K X ta σ H d) (hb : kitB (tyN d) T = some b) : EvD K X (tCB (rIsi K) (tCons ta (tCons (tC (.ty T)) tNil))) σ H (.bool b) := fun H1 e1 Q q =>
  ha H1 e1 _ fun x H2 e2 ax => ⟨x, .ty T, _, _, b, rfl, .ty T, at_ty ax, kit_ty hb, q _ H2 e2 at_bl⟩
theorem ev_isi2 {T U : String} {b c : Bool} (ha : EvD K X ta σ H d) (hb : kitB (tyN d) T = some b) (hc : kitB (tyN d) U = some c) :
    EvD K X (tCB (rIsiT K) (tCons ta (tCons (tTup (tCons (tC (.ty T)) (tCons (tC (.ty U)) tNil))) tNil))) σ H (.bool (b || c)) := fun H1 e1 Q q =>
  ha H1 e1 _ fun x H2 e2 ax => ⟨by show 2 ≤ sizeLine; decide, fun p hp => ⟨x, p, [.ty T, .ty U], _, [.type T, .type U], b || c, rfl, upd_same, .cons (.ty T) (.cons (.ty U) .nil), at_ty (ax.ex (Ex.new hp)), by
    refine kitAny_cons (kit_ty hb) (fun h => ?_) (fun h => by rw [h]; rfl)
    refine kitAny_cons (kit_ty hc) (fun h' => ?_) (fun h' => by rw [h'] <;> simp)
    rw [h, h']; exact kitAny_nil, q _ _ (e2.trans (Ex.new hp)) at_bl⟩⟩
/-! slices -/
def cutT (ds : List PyData) (lo hi : Option Int) : List PyData := (ds.drop (HT.sIx ds.length 0 lo)).take (HT.sIx ds.length ds.length hi - HT.sIx ds.length 0 lo)
def cutN (t : T) (lo hi : Option Int) : T := (t.drop (HT.sIx t.length 0 lo)).take (HT.sIx t.length t.length hi - HT.sIx t.length 0 lo)
theorem eo_none : EvO tNoPart σ H none := fun H1 _ _ q => q H1 (Ex.refl H1)
theorem eo_int {i : Int} (h : EvD K X te σ H (.int i)) : EvO (tPart te) σ H (some i) := fun H1 e _ q => h H1 e _ fun v H2 e2 av => ⟨i, at_int_inv av, q H2 e2⟩
theorem ev_slS {tl th : TO} {z : T} {lo hi : Option Int} (hl : z.length ≤ 16000000) (h : EvD K X te σ H (.str (S z))) (h1 : EvO tl σ H lo) (h2 : EvO th σ H hi) : EvD K X (tSl rSlS te tl th) σ H (.str (S (cutN z lo hi))) := fun H1 e Q q =>
  h H1 e _ fun v H2 e2 av => h1 H2 (e.trans e2) _ fun H3 e3 => h2 H3 ((e.trans e2).trans e3) _ fun H4 e4 => by
    cases at_str_inv av
    refine ⟨S z, rfl, by rw [S_len]; exact Nat.le_trans hl (by decide), ?_⟩
    have e : cutS (S z) lo hi = S (cutN z lo hi) := by
      unfold cutS cutN
      rw [S_len, S_list]
      rfl
    rw [e]
    refine q _ H4 ((e2.trans e3).trans e4) (at_str (ok_S.mpr fun c hc => ok_S.mp (at_str_ok av) c ?_))
    exact List.mem_of_mem_drop (List.mem_of_mem_take hc)
theorem ev_slL {tl th : TO} {ds : List PyData} {lo hi : Option Int} (dm : Dom X H) (h : EvD K X te σ H (.list ds)) (h1 : EvO tl σ H lo) (h2 : EvO th σ H hi) : EvD K X (tSl (rSlL K) te tl th) σ H (.list (cutT ds lo hi)) := fun H1 e Q q =>
  h H1 e _ fun v H2 e2 av => h1 H2 (e.trans e2) _ fun H3 e3 => h2 H3 ((e.trans e2).trans e3) _ fun H4 e4 => by
    obtain ⟨p, vs, rfl, n, hp, a1⟩ := at_lst_inv (av.ex (e3.trans e4))
    refine ⟨p, vs, rfl, sq_of hp, fun l hl => q _ _ (((e2.trans e3).trans e4).trans (Ex.new hl)) (at_lst (fun m => dm.pr (((e.trans e2).trans e3).trans e4) l m hl) upd_same ?_)⟩
    unfold cutV cutT
    rw [a1.len]
    exact ((a1.drop _).take _).ex (Ex.new hl)
theorem ev_slT {tl th : TO} {ds : List PyData} {lo hi : Option Int} (dm : Dom X H) (h : EvD K X te σ H (.tuple ds)) (h1 : EvO tl σ H lo) (h2 : EvO th σ H hi) (hn : ¬ (HT.sIx ds.length 0 lo = 0 ∧ HT.sIx ds.length ds.length hi = ds.length)) :
    EvD K X (tSl (rSlT K) te tl th) σ H (.tuple (cutT ds lo hi)) := fun H1 e Q q =>
  h H1 e _ fun v H2 e2 av => h1 H2 (e.trans e2) _ fun H3 e3 => h2 H3 ((e.trans e2).trans e3) _ fun H4 e4 => by
    obtain ⟨p, vs, rfl, hp, a1⟩ := at_tup_inv (av.ex (e3.trans e4))
    refine ⟨p, vs, rfl, ex_t hx_ex hp, by rw [a1.len]; exact hn, fun l hl => q _ _ (((e2.trans e3).trans e4).trans (Ex.new hl)) (at_tup (fun m => dm.pr (((e.trans e2).trans e3).trans e4) l m hl) upd_same ?_)⟩
    unfold cutV cutT
    rw [a1.len]
    exact ((a1.drop _).take _).ex (Ex.new hl)
/-! statements -/
variable {D : Ends} {tu tw tz : TS} {g : TG}
theorem s_asg {i : Nat} (h : EvD K X te σ H d) (k : ∀ v H1, Ex H H1 → At K X H1 v d → D.nx (σ.set i (some v)) H1) : tAsg te (gName i) D σ H := h H (Ex.refl H) _ fun v H1 e av => k v H1 e av
theorem q_asg {i : Nat} (h : EvD K X te σ H d) (k : ∀ v H1, Ex H H1 → At K X H1 v d → tz D (σ.set i (some v)) H1) : tSeq (tAsg te (gName i)) tz D σ H := s_asg (D := { D with nx := tz D }) h k
theorem s_ret (h : EvD K X te σ H d) (k : ∀ v H1, Ex H H1 → At K X H1 v d → D.rt v H1) : tRet te D σ H := h H (Ex.refl H) _ k
theorem s_asgG (h : EvD K X te σ H d) (k : ∀ v H1, Ex H H1 → At K X H1 v d → g v σ H1 D.nx) : tAsg te g D σ H := h H (Ex.refl H) _ fun v H1 e av => k v H1 e av
theorem q_asgG (h : EvD K X te σ H d) (k : ∀ v H1, Ex H H1 → At K X H1 v d → g v σ H1 (tz D)) : tSeq (tAsg te g) tz D σ H := s_asgG (D := { D with nx := tz D }) h k
/-- a tuple is unpacked -/
theorem g_tup {v : V} {ds : List PyData} {n : Nat} {gs : TGs} {Q : St → Hp → Prop} (a : At K X H v (.tuple ds)) (hn : ds.length = n) (k : ∀ vs, Ats K X H vs ds → gs vs σ H Q) : gTup K n gs v σ H Q := by
  obtain ⟨p, vs, rfl, hp, a1⟩ := at_tup_inv a
  exact ⟨p, vs, rfl, ex_t hx_ex hp, by rw [a1.len]; exact hn, k vs a1⟩
end
end Dy
namespace Dy
open PySem L2 Evl Mi
/-! ### targets: an attribute -/
def gFld (K : PySem.W.Frag) (ta : TE) (f : Str) : TG := fun v σ H Q => ta σ H fun x H1 => ∃ a C dx fs, x = .ref a ∧ H1 a = some (.ins C dx fs) ∧ Cls K C ∧ NoAttr K C f ∧ fs.length < 1000 ∧ Q σ (upd H1 a (.ins C dx (putF f v fs)))
theorem pg_attr {X : Cx} {o : Expr} {f : Str} {pos : Pos} {ta : TE} (ho : PE X o ta) : PG X (.Attribute o f pos) (gFld X.K ta f) := by
  constructor
  intro pins s σ H v u Q I r h
  rw [assign_Attribute]
  have step := thn (ho.run pins s σ H _ I h) (fun ov s2 q => (by
    obtain ⟨x, H2, I2, rx, a, C, dx, fs, ex, ea, c, n, l, q2⟩ := q
    subst ex
    have rx' : ov = Value.ref a := rx
    subst rx'
    exact wpAny_bind (wpAny_standAt (wpAny_bind (wpAny_holding (setattr_ok I2 ea c n l r fun s3 I3 => wpAny_release ⟨σ, _, I3, q2⟩)))) : wpAny (model X.prog X.w) X.A (standAt pos.atName >>= fun _ => holding [u, ov] (setAttr ov f u) >>= fun _ => release [u, ov] []) (fun _ s' => ∃ σ' H', Inv X pins σ' H' s' ∧ Q σ' H') X.xe s2))
  exact wpAny_bind (wpAny_holding step)
/-! ### a text, some times -/
def repT (n : Nat) (t : T) : T := (List.replicate n t).flatten
def rRepS : R2 := fun x y H Q => ∃ (z : Str) (k : Int), x = .str z ∧ y = .int k ∧ 1 < k ∧ k < 1000 ∧ 0 < z.length ∧ z.length < 1000 ∧ Q (.str (S (repT k.toNat z.cps.toList))) H
theorem fold_rep (z : Array Nat) : ∀ (n : Nat) (a : Array Nat), (List.replicate n z).foldl (· ++ ·) a = (a.toList ++ (List.replicate n z.toList).flatten).toArray
  | 0, a => by simp
  | n + 1, a => by
    rw [List.replicate_succ, List.foldl_cons, fold_rep z n, List.replicate_succ, List.flatten_cons]
    simp
theorem op_repS {X : Cx} : OpR X (binaryOp .Mult) rRepS := by
  intro pins s σ H x y v u Q I rx ry ⟨z, k, e1, e2, h1, h2, h3, h4, q⟩
  subst e1 e2
  obtain ⟨t, rfl⟩ := rx
  obtain ⟨t', rfl⟩ := ry
  have hk : (k == 1 || z.length == 0) = false := by
    have a : (k == 1) = false := by simp; omega
    have b : (z.length == 0) = false := by simp; omega
    rw [a, b]; rfl
  refine P.mul_str ?_ (fun _ _ => ?_) (fun _ _ => ?_) ?_
  · rw [decide_eq_false (by omega), decide_eq_false (by omega)]; rfl
  · have : (1000 : Int) ≤ (2 ^ 63 - 1) / k := by
      rw [Int.le_ediv_iff_mul_le (by omega)]
      omega
    omega
  · have hm : z.length * k.toNat ≤ 1000 * 1000 := Nat.mul_le_mul (by omega) (by omega)
    unfold Builtin.Str.tooLong
    rw [decide_eq_false]
    rw [sizeLine_eq]; omega
  · rw [if_neg (by omega), if_neg (by rw [hk]; simp)]
    have e : (⟨(List.replicate k.toNat z.cps).foldl (· ++ ·) #[]⟩ : Str) = S (repT k.toNat z.cps.toList) := by
      show (⟨(List.replicate k.toNat z.cps).foldl (· ++ ·) #[]⟩ : Str) = ⟨(repT k.toNat z.cps.toList).toArray⟩
      rw [fold_rep]
      simp [repT]
    rw [e]
    refine ⟨?_, ⟨.str (S (repT k.toNat z.cps.toList)), H, I.tok _, ⟨_, rfl⟩, q⟩⟩
    have hm : z.length * k.toNat ≤ 1000 * 1000 := Nat.mul_le_mul (by omega) (by omega)
    rw [S_len]
    unfold repT
    rw [List.length_flatten, List.map_replicate, List.sum_replicate_nat, sizeLine_eq]
    have : z.cps.toList.length = z.length := by rw [Array.length_toList]; rfl
    rw [this, Nat.mul_comm]
    omega
/-! ### a list or a tuple walked -/
def iSeq (K : PySem.W.Frag) (tl : TE) : TI := fun σ H R => iList K tl σ H R ∨ iTup K tl σ H R
theorem pi_seq {X : Cx} {tg l : Expr} {tl : TE} (hl : PE X l tl) : PI X tg l (iSeq X.K tl) :=
  ⟨fun pins s σ H R I h => h.elim (fun h => (pi_list hl).run pins s σ H R I h) fun h => (pi_tup hl).run pins s σ H R I h⟩
def rJoinA (K : PySem.W.Frag) : V → List V → Hp → VK → Prop := fun x xs H Q => ∃ a p, ∃ ys : List Str, x = .str a ∧ xs = [.ref p] ∧ (SqL K H p (ys.map V.str) ∨ SqT K H p (ys.map V.str)) ∧ (ys.map (·.length)).sum + ys.length * a.length ≤ 16777216 ∧ Q (.str (Txt.join a ys)) H
theorem mt_joinA {X : Cx} : MtR X "str.join" (rJoinA X.K) := mt_join
theorem call_listD {X : Cx} (hc : X.calm = true := by rfl) : CallR X (.type "list") rListD := call_list_dK hc
end Dy
section
set_option maxHeartbeats 4000019
namespace Dy
open PySem L2 Evl Mi
def top (i : Nat) : Stmt := PySem.Challenge.pw_realsaid_k08_whole_texts_that_begin_none.main.body.getD i (.Pass ⟨0, 0, 0, 0⟩)
abbrev s_is_integer : Stmt := top 5
abbrev N_is_integer : List Str := ["value"]
theorem sc_is_integer : FnScope N_is_integer ["value"] (defScope s_is_integer) := ⟨rfl, rfl, rfl, by decide +kernel, rfl, by decide +kernel, by decide +kernel⟩
abbrev s_is_row : Stmt := top 6
abbrev N_is_row : List Str := ["value"]
theorem sc_is_row : FnScope N_is_row ["value"] (defScope s_is_row) := ⟨rfl, rfl, rfl, by decide +kernel, rfl, by decide +kernel, by decide +kernel⟩
abbrev s_is_name : Stmt := top 15
abbrev N_is_name : List Str := ["value", "sign"]
theorem sc_is_name : FnScope N_is_name ["value"] (defScope s_is_name) := ⟨rfl, rfl, rfl, by decide +kernel, rfl, by decide +kernel, by decide +kernel⟩
abbrev s_is_head : Stmt := top 16
abbrev N_is_head : List Str := ["value", "heads", "length"]
theorem sc_is_head : FnScope N_is_head ["value", "heads", "length"] (defScope s_is_head) := ⟨rfl, rfl, rfl, by decide +kernel, rfl, by decide +kernel, by decide +kernel⟩
abbrev s_term_breach : Stmt := top 17
abbrev N_term_breach : List Str := ["value"]
theorem sc_term_breach : FnScope N_term_breach ["value"] (defScope s_term_breach) := ⟨rfl, rfl, rfl, by decide +kernel, rfl, by decide +kernel, by decide +kernel⟩
abbrev s_are_terms : Stmt := top 18
abbrev N_are_terms : List Str := ["values", "waiting", "parts"]
theorem sc_are_terms : FnScope N_are_terms ["values"] (defScope s_are_terms) := ⟨rfl, rfl, rfl, by decide +kernel, rfl, by decide +kernel, by decide +kernel⟩
abbrev s_saying_parts : Stmt := top 19
abbrev N_saying_parts : List Str := ["value"]
theorem sc_saying_parts : FnScope N_saying_parts ["value"] (defScope s_saying_parts) := ⟨rfl, rfl, rfl, by decide +kernel, rfl, by decide +kernel, by decide +kernel⟩
abbrev s_is_saying : Stmt := top 20
abbrev N_is_saying : List Str := ["value", "waiting", "here", "parts"]
theorem sc_is_saying : FnScope N_is_saying ["value"] (defScope s_is_saying) := ⟨rfl, rfl, rfl, by decide +kernel, rfl, by decide +kernel, by decide +kernel⟩
abbrev s_Read_init : Stmt := inClass (top 26) 0
abbrev N_Read_init : List Str := ["self", "tree"]
theorem sc_Read_init : FnScope N_Read_init ["self", "tree"] (defScope s_Read_init) := ⟨rfl, rfl, rfl, by decide +kernel, rfl, by decide +kernel, by decide +kernel⟩
abbrev s_Read_eq : Stmt := inClass (top 26) 1
abbrev N_Read_eq : List Str := ["self", "other"]
theorem sc_Read_eq : FnScope N_Read_eq ["self", "other"] (defScope s_Read_eq) := ⟨rfl, rfl, rfl, by decide +kernel, rfl, by decide +kernel, by decide +kernel⟩
abbrev s_Unread_init : Stmt := inClass (top 27) 0
abbrev N_Unread_init : List Str := ["self", "place", "is_end"]
theorem sc_Unread_init : FnScope N_Unread_init ["self", "place", "is_end"] (defScope s_Unread_init) := ⟨rfl, rfl, rfl, by decide +kernel, rfl, by decide +kernel, by decide +kernel⟩
abbrev s_Unread_eq : Stmt := inClass (top 27) 1
abbrev N_Unread_eq : List Str := ["self", "other"]
theorem sc_Unread_eq : FnScope N_Unread_eq ["self", "other"] (defScope s_Unread_eq) := ⟨rfl, rfl, rfl, by decide +kernel, rfl, by decide +kernel, by decide +kernel⟩
abbrev s_run_end : Stmt := top 28
abbrev N_run_end : List Str := ["text", "at", "signs"]
theorem sc_run_end : FnScope N_run_end ["text", "at", "signs"] (defScope s_run_end) := ⟨rfl, rfl, rfl, by decide +kernel, rfl, by decide +kernel, by decide +kernel⟩
abbrev s_token_at : Stmt := top 29
abbrev N_token_at : List Str := ["text", "at", "sign"]
theorem sc_token_at : FnScope N_token_at ["text", "at"] (defScope s_token_at) := ⟨rfl, rfl, rfl, by decide +kernel, rfl, by decide +kernel, by decide +kernel⟩
abbrev s_Reader_init : Stmt := inClass (top 30) 0
abbrev N_Reader_init : List Str := ["self", "text", "free"]
theorem sc_Reader_init : FnScope N_Reader_init ["self", "text", "free"] (defScope s_Reader_init) := ⟨rfl, rfl, rfl, by decide +kernel, rfl, by decide +kernel, by decide +kernel⟩
abbrev s_Reader_step : Stmt := inClass (top 30) 1
abbrev N_Reader_step : List Str := ["self", "token"]
theorem sc_Reader_step : FnScope N_Reader_step ["self"] (defScope s_Reader_step) := ⟨rfl, rfl, rfl, by decide +kernel, rfl, by decide +kernel, by decide +kernel⟩
abbrev s_Reader_at : Stmt := inClass (top 30) 2
abbrev N_Reader_at : List Str := ["self", "kind", "tokens"]
theorem sc_Reader_at : FnScope N_Reader_at ["self", "kind", "tokens"] (defScope s_Reader_at) := ⟨rfl, rfl, rfl, by decide +kernel, rfl, by decide +kernel, by decide +kernel⟩
abbrev s_Reader_top : Stmt := inClass (top 30) 3
abbrev N_Reader_top : List Str := ["self"]
theorem sc_Reader_top : FnScope N_Reader_top ["self"] (defScope s_Reader_top) := ⟨rfl, rfl, rfl, by decide +kernel, rfl, by decide +kernel, by decide +kernel⟩
abbrev s_Reader_stop : Stmt := inClass (top 30) 4
abbrev N_Reader_stop : List Str := ["self", "words", "signs"]
theorem sc_Reader_stop : FnScope N_Reader_stop ["self", "words", "signs"] (defScope s_Reader_stop) := ⟨rfl, rfl, rfl, by decide +kernel, rfl, by decide +kernel, by decide +kernel⟩
abbrev s_longest_shared : Stmt := top 31
abbrev N_longest_shared : List Str := ["token", "words", "found", "word", "many"]
theorem sc_longest_shared : FnScope N_longest_shared ["token", "words"] (defScope s_longest_shared) := ⟨rfl, rfl, rfl, by decide +kernel, rfl, by decide +kernel, by decide +kernel⟩
abbrev s_read_name : Stmt := top 32
abbrev N_read_name : List Str := ["reader"]
theorem sc_read_name : FnScope N_read_name ["reader"] (defScope s_read_name) := ⟨rfl, rfl, rfl, by decide +kernel, rfl, by decide +kernel, by decide +kernel⟩
abbrev s_read_number : Stmt := top 33
abbrev N_read_number : List Str := ["reader", "most", "token"]
theorem sc_read_number : FnScope N_read_number ["reader", "most"] (defScope s_read_number) := ⟨rfl, rfl, rfl, by decide +kernel, rfl, by decide +kernel, by decide +kernel⟩
abbrev s_read_bound : Stmt := top 34
abbrev N_read_bound : List Str := ["reader", "head", "names", "name"]
theorem sc_read_bound : FnScope N_read_bound ["reader"] (defScope s_read_bound) := ⟨rfl, rfl, rfl, by decide +kernel, rfl, by decide +kernel, by decide +kernel⟩
abbrev s_read_unit : Stmt := top 35
abbrev N_read_unit : List Str := ["reader"]
theorem sc_read_unit : FnScope N_read_unit ["reader"] (defScope s_read_unit) := ⟨rfl, rfl, rfl, by decide +kernel, rfl, by decide +kernel, by decide +kernel⟩
abbrev s_read_term : Stmt := top 36
abbrev N_read_term : List Str := ["reader"]
theorem sc_read_term : FnScope N_read_term ["reader"] (defScope s_read_term) := ⟨rfl, rfl, rfl, by decide +kernel, rfl, by decide +kernel, by decide +kernel⟩
abbrev s_read_base : Stmt := top 37
abbrev N_read_base : List Str := ["reader", "number"]
theorem sc_read_base : FnScope N_read_base ["reader"] (defScope s_read_base) := ⟨rfl, rfl, rfl, by decide +kernel, rfl, by decide +kernel, by decide +kernel⟩
abbrev s_join_open : Stmt := top 38
abbrev N_join_open : List Str := ["reader", "heads", "last"]
theorem sc_join_open : FnScope N_join_open ["reader", "heads"] (defScope s_join_open) := ⟨rfl, rfl, rfl, by decide +kernel, rfl, by decide +kernel, by decide +kernel⟩
abbrev s_go_on : Stmt := top 39
abbrev N_go_on : List Str := ["reader", "kind", "tokens", "head", "wanted"]
theorem sc_go_on : FnScope N_go_on ["reader", "kind", "tokens", "head", "wanted"] (defScope s_go_on) := ⟨rfl, rfl, rfl, by decide +kernel, rfl, by decide +kernel, by decide +kernel⟩
abbrev s_read_more : Stmt := top 40
abbrev N_read_more : List Str := ["reader"]
theorem sc_read_more : FnScope N_read_more ["reader"] (defScope s_read_more) := ⟨rfl, rfl, rfl, by decide +kernel, rfl, by decide +kernel, by decide +kernel⟩
abbrev s_close_bracket : Stmt := top 41
abbrev N_close_bracket : List Str := ["reader"]
theorem sc_close_bracket : FnScope N_close_bracket ["reader"] (defScope s_close_bracket) := ⟨rfl, rfl, rfl, by decide +kernel, rfl, by decide +kernel, by decide +kernel⟩
abbrev s_read_joined : Stmt := top 42
abbrev N_read_joined : List Str := ["reader", "head", "names", "many", "name"]
theorem sc_read_joined : FnScope N_read_joined ["reader"] (defScope s_read_joined) := ⟨rfl, rfl, rfl, by decide +kernel, rfl, by decide +kernel, by decide +kernel⟩
abbrev s_read_next : Stmt := top 43
abbrev N_read_next : List Str := ["reader"]
theorem sc_read_next : FnScope N_read_next ["reader"] (defScope s_read_next) := ⟨rfl, rfl, rfl, by decide +kernel, rfl, by decide +kernel, by decide +kernel⟩
abbrev s_need_text : Stmt := top 44
abbrev N_need_text : List Str := ["text", "free", "name"]
theorem sc_need_text : FnScope N_need_text ["text", "free"] (defScope s_need_text) := ⟨rfl, rfl, rfl, by decide +kernel, rfl, by decide +kernel, by decide +kernel⟩
abbrev s_settled_formula : Stmt := top 45
abbrev N_settled_formula : List Str := ["text", "free", "reader"]
theorem sc_settled_formula : FnScope N_settled_formula ["text", "free"] (defScope s_settled_formula) := ⟨rfl, rfl, rfl, by decide +kernel, rfl, by decide +kernel, by decide +kernel⟩
abbrev s_settle_formula : Stmt := top 46
abbrev N_settle_formula : List Str := ["text", "free"]
theorem sc_settle_formula : FnScope N_settle_formula ["text", "free"] (defScope s_settle_formula) := ⟨rfl, rfl, rfl, by decide +kernel, rfl, by decide +kernel, by decide +kernel⟩
abbrev s_settle_text : Stmt := top 47
abbrev N_settle_text : List Str := ["text"]
theorem sc_settle_text : FnScope N_settle_text ["text"] (defScope s_settle_text) := ⟨rfl, rfl, rfl, by decide +kernel, rfl, by decide +kernel, by decide +kernel⟩
abbrev s_reading_fault : Stmt := top 48
abbrev N_reading_fault : List Str := ["text", "free", "answer", "due"]
theorem sc_reading_fault : FnScope N_reading_fault ["text", "free", "answer"] (defScope s_reading_fault) := ⟨rfl, rfl, rfl, by decide +kernel, rfl, by decide +kernel, by decide +kernel⟩
abbrev s_law_pen : Stmt := top 50
abbrev N_law_pen : List Str := ["script", "fold", "cell"]
theorem sc_law_pen : FnScope N_law_pen ["script"] (defScope s_law_pen) := ⟨rfl, rfl, rfl, by decide +kernel, rfl, by decide +kernel, by decide +kernel⟩
abbrev s_law_draw : Stmt := top 51
abbrev N_law_draw : List Str := ["pen", "many", "cell", "digit", "mixed"]
theorem sc_law_draw : FnScope N_law_draw ["pen", "many"] (defScope s_law_draw) := ⟨rfl, rfl, rfl, by decide +kernel, rfl, by decide +kernel, by decide +kernel⟩
abbrev s_law_pick : Stmt := top 52
abbrev N_law_pick : List Str := ["pen", "some"]
theorem sc_law_pick : FnScope N_law_pick ["pen", "some"] (defScope s_law_pick) := ⟨rfl, rfl, rfl, by decide +kernel, rfl, by decide +kernel, by decide +kernel⟩
abbrev s_law_s_term : Stmt := top 53
abbrev N_law_s_term : List Str := ["pen", "names", "size", "some", "lap", "head", "other"]
theorem sc_law_s_term : FnScope N_law_s_term ["pen", "names", "size"] (defScope s_law_s_term) := ⟨rfl, rfl, rfl, by decide +kernel, rfl, by decide +kernel, by decide +kernel⟩
abbrev s_law_s_atom : Stmt := top 54
abbrev N_law_s_atom : List Str := ["pen", "names", "size", "rel"]
theorem sc_law_s_atom : FnScope N_law_s_atom ["pen", "names", "size"] (defScope s_law_s_atom) := ⟨rfl, rfl, rfl, by decide +kernel, rfl, by decide +kernel, by decide +kernel⟩
abbrev s_law_s_saying : Stmt := top 55
abbrev N_law_s_saying : List Str := ["pen", "names", "size", "term", "some", "lap", "head", "other"]
theorem sc_law_s_saying : FnScope N_law_s_saying ["pen", "names", "size", "term"] (defScope s_law_s_saying) := ⟨rfl, rfl, rfl, by decide +kernel, rfl, by decide +kernel, by decide +kernel⟩
abbrev s_law_s_parts : Stmt := top 56
abbrev N_law_s_parts : List Str := ["tree"]
theorem sc_law_s_parts : FnScope N_law_s_parts ["tree"] (defScope s_law_s_parts) := ⟨rfl, rfl, rfl, by decide +kernel, rfl, by decide +kernel, by decide +kernel⟩
abbrev s_law_s_in_terms : Stmt := top 57
abbrev N_law_s_in_terms : List Str := ["terms", "found", "waiting", "here", "part"]
theorem sc_law_s_in_terms : FnScope N_law_s_in_terms ["terms"] (defScope s_law_s_in_terms) := ⟨rfl, rfl, rfl, by decide +kernel, rfl, by decide +kernel, by decide +kernel⟩
abbrev s_law_s_free : Stmt := top 58
abbrev N_law_s_free : List Str := ["tree", "found", "waiting", "here", "bound", "name", "within", "part"]
theorem sc_law_s_free : FnScope N_law_s_free ["tree"] (defScope s_law_s_free) := ⟨rfl, rfl, rfl, by decide +kernel, rfl, by decide +kernel, by decide +kernel⟩
abbrev s_law_s_tokens : Stmt := top 59
abbrev N_law_s_tokens : List Str := ["tree", "pen", "found", "waiting", "kind", "here", "level", "more"]
theorem sc_law_s_tokens : FnScope N_law_s_tokens ["tree", "pen"] (defScope s_law_s_tokens) := ⟨rfl, rfl, rfl, by decide +kernel, rfl, by decide +kernel, by decide +kernel⟩
abbrev s_law_s_spread : Stmt := top 60
abbrev N_law_s_spread : List Str := ["tree", "level", "more", "head", "own", "sides"]
theorem sc_law_s_spread : FnScope N_law_s_spread ["tree", "level", "more"] (defScope s_law_s_spread) := ⟨rfl, rfl, rfl, by decide +kernel, rfl, by decide +kernel, by decide +kernel⟩
abbrev s_law_s_spread_term : Stmt := top 61
abbrev N_law_s_spread_term : List Str := ["term", "level", "more", "head", "own", "inner", "sign", "sides"]
theorem sc_law_s_spread_term : FnScope N_law_s_spread_term ["term", "level", "more"] (defScope s_law_s_spread_term) := ⟨rfl, rfl, rfl, by decide +kernel, rfl, by decide +kernel, by decide +kernel⟩
abbrev s_law_s_joined_text : Stmt := top 62
abbrev N_law_s_joined_text : List Str := ["tokens", "pen", "text", "k", "token", "ahead", "is_needed"]
theorem sc_law_s_joined_text : FnScope N_law_s_joined_text ["tokens", "pen"] (defScope s_law_s_joined_text) := ⟨rfl, rfl, rfl, by decide +kernel, rfl, by decide +kernel, by decide +kernel⟩
abbrev s_law_s_text : Stmt := top 63
abbrev N_law_s_text : List Str := ["tree", "pen"]
theorem sc_law_s_text : FnScope N_law_s_text ["tree", "pen"] (defScope s_law_s_text) := ⟨rfl, rfl, rfl, by decide +kernel, rfl, by decide +kernel, by decide +kernel⟩
abbrev s_law_known : Stmt := top 64
abbrev N_law_known : List Str := ["some"]
theorem sc_law_known : FnScope N_law_known [] (defScope s_law_known) := ⟨rfl, rfl, rfl, by decide +kernel, rfl, by decide +kernel, by decide +kernel⟩
abbrev s_law_one_right : Stmt := top 65
abbrev N_law_one_right : List Str := ["text", "free", "place", "told", "due"]
theorem sc_law_one_right : FnScope N_law_one_right ["text", "free", "place"] (defScope s_law_one_right) := ⟨rfl, rfl, rfl, by decide +kernel, rfl, by decide +kernel, by decide +kernel⟩
abbrev s_law : Stmt := top 66
abbrev N_law : List Str := ["script", "pen", "names", "lap", "some", "tree", "free", "text", "turn", "cut", "told", "sign", "other", "again", "place", "answer", "due"]
theorem sc_law : FnScope N_law ["script"] (defScope s_law) := ⟨rfl, rfl, rfl, by decide +kernel, rfl, by decide +kernel, by decide +kernel⟩
end Dy
end
namespace Mi
open PySem
/-! ### words -/
theorem shared_take : ∀ (x w : T) (m : Nat), shared x (w.take m) = min (shared x w) m
  | [], w, m => by simp [shared]
  | a :: x, [], m => by simp [shared]
  | a :: x, b :: w, 0 => by simp [shared]
  | a :: x, b :: w, m + 1 => by
    simp only [List.take_succ_cons, shared]
    split
    · rw [shared_take x w m]; omega
    · omega
theorem shared_le : ∀ (x w : T), shared x w ≤ w.length
  | [], w => by simp [shared]
  | a :: x, [] => by simp [shared]
  | a :: x, b :: w => by
    simp only [shared, List.length_cons]
    split
    · have := shared_le x w; omega
    · omega
theorem shared_self_take : ∀ (w : T) (m : Nat), m ≤ w.length → shared (w.take m) w = m ∧ shared w (w.take m) = m
  | [], m, h => by simp at h; subst h; simp [shared]
  | b :: w, 0, h => by simp [shared]
  | b :: w, m + 1, h => by
    have := shared_self_take w m (by simpa using h)
    simp only [List.take_succ_cons, shared, if_true]
    omega
theorem longest_foldl (tok : T) : ∀ (ws : List T) (a : Nat), ws.foldl (fun m w => max m (shared w tok)) a = max a (longest tok ws)
  | [], a => by simp [longest]
  | w :: ws, a => by
    unfold longest
    simp only [List.foldl_cons]
    rw [longest_foldl tok ws, longest_foldl tok ws (max 0 _)]
    omega
theorem longest_cons (tok w : T) (ws : List T) : longest tok (w :: ws) = max (shared w tok) (longest tok ws) := by
  show (w :: ws).foldl (fun m w => max m (shared w tok)) 0 = _
  rw [List.foldl_cons, longest_foldl]
  omega
theorem longest_take (tok : T) (m : Nat) : ∀ ws : List T, longest (tok.take m) ws = min (longest tok ws) m
  | [] => by simp [longest]
  | w :: ws => by rw [longest_cons, longest_cons, longest_take tok m ws, shared_take]; omega
theorem longest_le (tok : T) : ∀ ws : List T, longest tok ws ≤ tok.length
  | [] => by simp [longest]
  | w :: ws => by
    rw [longest_cons]
    have := longest_le tok ws
    have := shared_le w tok
    omega
theorem longest_mem {tok w : T} : ∀ {ws : List T}, w ∈ ws → shared w tok ≤ longest tok ws
  | w' :: ws, h => by
    rw [longest_cons]
    rcases List.mem_cons.mp h with rfl | h
    · omega
    · have := longest_mem (tok := tok) h; omega
theorem longest_nil (tok : T) : longest tok [] = 0 := rfl

/-! ### what one token does -/
/-- the second outcome is what is left of the first one, the token being cut behind m signs -/
def Cut (m : Nat) (o o' : Out) : Prop := match o with
  | .stop off => o' = .stop (min off m) ∨ (m ≤ off ∧ ∃ c, o' = .go c)
  | .go _ => o' = .stop m ∨ ∃ c, o' = .go c
  | .done _ => False
theorem cut_stop0 {m : Nat} : Cut m (.stop 0) (.stop 0) := Or.inl (by simp)
theorem cut_word {m : Nat} {w : T} (ws : List T) : Cut m (.stop (longest w ws)) (.stop (longest (w.take m) ws)) := Or.inl (by rw [longest_take])
theorem cut_word_in {m : Nat} {w : T} {ws : List T} {c : Co} (h : w ∈ ws) (hm : m ≤ w.length) : Cut m (.go c) (.stop (longest (w.take m) ws)) := by
  refine Or.inl ?_
  have h1 := longest_mem (tok := w.take m) h
  rw [(shared_self_take w m hm).2] at h1
  have h2 := longest_take w m ws
  rw [show longest (w.take m) ws = m by omega]
theorem cut_in_word {m : Nat} {w : T} {ws : List T} {c : Co} (h : w.take m ∈ ws) (hm : m ≤ w.length) : Cut m (.stop (longest w ws)) (.go c) := by
  refine Or.inr ⟨?_, c, rfl⟩
  have h1 := longest_mem (tok := w) h
  rw [(shared_self_take w m hm).1] at h1
  exact h1
theorem cut_go {m : Nat} {c c' : Co} : Cut m (.go c) (.go c') := Or.inr ⟨c', rfl⟩

theorem base_word {c : Co} {w : T} {m : Nat} (hm : m ≤ w.length) : Cut m (dBase .word w c) (dBase .word (w.take m) c) := by
  unfold dBase
  simp only [reduceCtorEq, false_and, if_false, true_and, stopAt]
  by_cases h : w ∈ c.bound
  · rw [if_pos h]
    by_cases h' : w.take m ∈ c.bound
    · rw [if_pos h']; exact cut_go
    · rw [if_neg h']; exact cut_word_in (List.mem_append_left _ h) hm
  · rw [if_neg h]
    by_cases h' : w.take m ∈ c.bound
    · rw [if_pos h']; exact cut_in_word (List.mem_append_left _ h') hm
    · rw [if_neg h']; exact cut_word _
theorem term_word {c : Co} {w : T} {m : Nat} (hm : m ≤ w.length) : Cut m (dTerm .word w c) (dTerm .word (w.take m) c) := by
  unfold dTerm
  simp only [reduceCtorEq, false_and, if_false]
  exact base_word hm
/-- one of the words that are let, or as the base -/
theorem dUnit_word (w : T) (c : Co) : dUnit .word w c = if w = kNot then .go { c with opened := .one w :: c.opened, w := .unit } else if w = kAll ∨ w = kSome then .go { c with w := .name w [] } else dBase .word w { c with words := [kNot, kAll, kSome] } := by
  unfold dUnit dTerm
  simp only [reduceCtorEq, false_and, if_false, true_and, or_false]
theorem unit_word {c : Co} {w : T} {m : Nat} (hm : m ≤ w.length) : Cut m (dUnit .word w c) (dUnit .word (w.take m) c) := by
  rw [dUnit_word, dUnit_word]
  have hb := base_word (c := { c with words := [kNot, kAll, kSome] }) hm
  by_cases a1 : w.take m = kNot
  · rw [if_pos a1]
    split
    · exact cut_go
    · split
      · exact cut_go
      · unfold dBase
        simp only [reduceCtorEq, false_and, if_false, true_and, stopAt]
        split
        · exact cut_go
        · exact cut_in_word (by rw [a1]; simp) hm
  · rw [if_neg a1]
    by_cases a2 : w.take m = kAll ∨ w.take m = kSome
    · rw [if_pos a2]
      split
      · exact cut_go
      · split
        · exact cut_go
        · unfold dBase
          simp only [reduceCtorEq, false_and, if_false, true_and, stopAt]
          split
          · exact cut_go
          · exact cut_in_word (by rcases a2 with a2 | a2 <;> rw [a2] <;> simp) hm
    · rw [if_neg a2]
      have key : ∀ c', w ∈ [kNot, kAll, kSome] → Cut m (.go c') (dBase .word (w.take m) { c with words := [kNot, kAll, kSome] }) := by
        intro c' hw
        unfold dBase
        simp only [reduceCtorEq, false_and, if_false, true_and, stopAt]
        split
        · exact cut_go
        · exact cut_word_in (List.mem_append_right _ hw) hm
      split
      · rename_i h; exact key _ (by rw [h]; simp)
      · split
        · rename_i h; exact key _ (by rcases h with h | h <;> rw [h] <;> simp)
        · exact hb
def four : List T := [kAnd, kOr, kImp, kIff]
theorem dJoined_word_go {t : T} (h : t ∈ four) : ∀ {n : Nat} {c : Co}, ∃ c', dJoined .word t (n + 1) c = .go c' := by
  intro n c
  simp only [four, List.mem_cons, List.not_mem_nil, or_false] at h
  unfold dJoined dAnd dOr dEnd
  simp only [true_and]
  by_cases h1 : t = kAnd
  · exact ⟨_, if_pos h1⟩
  · rw [if_neg h1]
    by_cases h2 : t = kOr
    · exact ⟨_, if_pos h2⟩
    · rw [if_neg h2]
      by_cases h3 : t = kImp
      · exact ⟨_, if_pos h3⟩
      · rw [if_neg h3]
        by_cases h4 : t = kIff
        · exact ⟨_, if_pos h4⟩
        · rcases h with h | h | h | h <;> contradiction
/-- no word that joins: the frames of all and some are taken off, then it stops -/
theorem dJoined_stop {k : Kind} {t : T} (hw : ¬ (k = .word ∧ t ∈ four)) (hf : k ≠ .fin) (hb : ¬ (k = .sign ∧ t = [93])) : ∀ (n : Nat) (c : Co), dJoined k t n c = stopAt k t four false
  | 0, c => rfl
  | n + 1, c => by
    have h1 : ¬ (k = .word ∧ t = kAnd) := fun h => hw ⟨h.1, by rw [h.2]; simp [four]⟩
    have h2 : ¬ (k = .word ∧ t = kOr) := fun h => hw ⟨h.1, by rw [h.2]; simp [four]⟩
    have h3 : ¬ (k = .word ∧ t = kImp) := fun h => hw ⟨h.1, by rw [h.2]; simp [four]⟩
    have h4 : ¬ (k = .word ∧ t = kIff) := fun h => hw ⟨h.1, by rw [h.2]; simp [four]⟩
    unfold dJoined dAnd dOr dEnd
    simp only [h1, h2, h3, h4, if_false]
    split
    · exact dJoined_stop hw hf hb n _
    · rw [if_neg hf]; rfl
    · rename_i o r _ _
      rw [if_neg (fun h => hb ⟨h.2.1, h.2.2⟩)]; rfl
theorem joined_word {w : T} {m : Nat} (hm : m ≤ w.length) (n : Nat) (c : Co) : Cut m (dJoined .word w (n + 1) c) (dJoined .word (w.take m) (n + 1) c) := by
  by_cases h' : w.take m ∈ four
  · obtain ⟨c', e'⟩ := dJoined_word_go h' (n := n) (c := c)
    rw [e']
    by_cases h : w ∈ four
    · obtain ⟨c2, e⟩ := dJoined_word_go h (n := n) (c := c)
      rw [e]; exact cut_go
    · rw [dJoined_stop (fun z => h z.2) (by simp) (by simp)]
      exact cut_in_word h' hm
  · rw [dJoined_stop (t := w.take m) (fun z => h' z.2) (by simp) (by simp)]
    by_cases h : w ∈ four
    · obtain ⟨c2, e⟩ := dJoined_word_go h (n := n) (c := c)
      rw [e]; exact cut_word_in h hm
    · rw [dJoined_stop (fun z => h z.2) (by simp) (by simp)]
      exact cut_word _
theorem dMore_word (t : T) (c : Co) : ∃ c1 : Co, dMore .word t c = if top c1.opened = [40] then .stop 0 else if top c1.opened ∈ RELS then dJoined .word t (c1.opened.length + 1) { join c1 RELS with w := .joined, isBase := true } else .stop 0 := by
  refine ⟨join (join c [kTimes]) [kPlus, kMinus, kNeg], ?_⟩
  unfold dMore dMul dSum
  simp only [reduceCtorEq, false_and, and_false, if_false, stopAt, longest_nil]
/-- the frames do not depend on the token -/
theorem more_word {c : Co} {w : T} {m : Nat} (hm : m ≤ w.length) : Cut m (dMore .word w c) (dMore .word (w.take m) c) := by
  unfold dMore dMul dSum
  simp only [reduceCtorEq, false_and, and_false, if_false, stopAt, longest_nil]
  split
  · exact cut_stop0
  · split
    · exact joined_word hm _ _
    · exact cut_stop0
theorem delta_word {c : Co} {w : T} {m : Nat} (hm : m ≤ w.length) (h0 : 0 < m) : Cut m (delta .word w c) (delta .word (w.take m) c) := by
  have hl : (w.take m).length = m := by rw [List.length_take]; omega
  unfold delta
  split
  · exact unit_word hm
  · exact term_word hm
  · exact base_word hm
  · exact more_word hm
  · exact joined_word hm _ _
  · rw [if_neg (show ¬ Kind.word ≠ Kind.word from fun h => h rfl), if_neg (show ¬ Kind.word ≠ Kind.word from fun h => h rfl), hl]
    by_cases h8 : 8 < w.length
    · rw [if_pos h8]
      by_cases h8' : 8 < m
      · rw [if_pos h8']; exact Or.inl (by rw [Nat.min_eq_left (by omega)])
      · rw [if_neg h8']
        split
        · exact Or.inl (by rw [Nat.min_eq_right (by omega)])
        · exact Or.inr ⟨by omega, _, rfl⟩
    · rw [if_neg h8, if_neg (show ¬ 8 < m by omega)]
      by_cases hw : w ∈ WORDS
      · rw [if_pos hw]
        split
        · exact Or.inl (by rw [Nat.min_eq_right (by omega)])
        · exact Or.inr ⟨by omega, _, rfl⟩
      · rw [if_neg hw]
        split
        · exact Or.inl rfl
        · exact cut_go
  · simp only [reduceCtorEq, false_and, if_false, stopAt, longest_nil]
    exact cut_stop0
  · simp only [numOut, ne_eq, reduceCtorEq, not_false_eq_true, if_true, stopAt, longest_nil]
    exact cut_stop0
theorem dJoined_stop0 {k : Kind} {t : T} (hk : k = .number ∨ k = .sign ∨ k = .bad) (hb : ¬ (k = .sign ∧ t = [93])) (n : Nat) (c : Co) : dJoined k t n c = .stop 0 := by
  rw [dJoined_stop (fun h => by rcases hk with e | e | e <;> rw [e] at h <;> cases h.1) (by rcases hk with e | e | e <;> rw [e] <;> simp) hb]
  rcases hk with e | e | e <;> subst e <;> simp [stopAt]
theorem numOut_cut {f : Nat → Out} {w : T} {m most : Nat} (hf : ∀ n, ∃ c, f n = .go c) (hm : m ≤ w.length) (h0 : 0 < m) (h1 : 0 < most) : Cut m (numOut .number w most f) (numOut .number (w.take m) most f) := by
  have hl : (w.take m).length = m := by rw [List.length_take]; omega
  have hh : (w.take m).head? = w.head? := by
    cases w with
    | nil => simp
    | cons a w => cases m with
      | zero => omega
      | succ m => rfl
  obtain ⟨c1, e1⟩ := hf (numOf w)
  obtain ⟨c2, e2⟩ := hf (numOf (w.take m))
  unfold numOut
  rw [hl, hh, e1, e2]
  simp only [ne_eq, not_true_eq_false, if_false]
  by_cases a : w.head? = some 48 ∧ 1 < w.length
  · rw [if_pos a]
    by_cases b : 1 < m
    · rw [if_pos ⟨a.1, b⟩]; exact Or.inl (by rw [Nat.min_eq_left (by omega)])
    · rw [if_neg (fun h => b h.2), if_neg (by omega)]; exact Or.inr ⟨by omega, _, rfl⟩
  · rw [if_neg a, if_neg (show ¬ (w.head? = some 48 ∧ 1 < m) from fun h => a ⟨h.1, by omega⟩)]
    by_cases b : most < w.length
    · rw [if_pos b]
      by_cases b' : most < m
      · rw [if_pos b']; exact Or.inl (by rw [Nat.min_eq_left (by omega)])
      · rw [if_neg b']; exact Or.inr ⟨by omega, _, rfl⟩
    · rw [if_neg b, if_neg (by omega)]; exact cut_go
theorem base_number {c : Co} {w : T} {m : Nat} (hm : m ≤ w.length) (h0 : 0 < m) : Cut m (dBase .number w c) (dBase .number (w.take m) c) := by
  unfold dBase
  simp only [reduceCtorEq, false_and, if_false, if_true]
  exact numOut_cut (fun n => ⟨_, rfl⟩) hm h0 (by omega)
theorem delta_number {c : Co} {w : T} {m : Nat} (hm : m ≤ w.length) (h0 : 0 < m) : Cut m (delta .number w c) (delta .number (w.take m) c) := by
  unfold delta
  split
  · unfold dUnit dTerm
    simp only [reduceCtorEq, false_and, or_self, if_false]
    exact base_number hm h0
  · unfold dTerm
    simp only [reduceCtorEq, false_and, if_false]
    exact base_number hm h0
  · exact base_number hm h0
  · unfold dMore dMul dSum
    simp only [reduceCtorEq, false_and, and_false, if_false, stopAt]
    split
    · exact cut_stop0
    · split
      · rw [dJoined_stop0 (.inl rfl) (by simp), dJoined_stop0 (.inl rfl) (by simp)]; exact cut_stop0
      · exact cut_stop0
  · rw [dJoined_stop0 (.inl rfl) (by simp), dJoined_stop0 (.inl rfl) (by simp)]; exact cut_stop0
  · simp only [ne_eq, reduceCtorEq, not_false_eq_true, if_true, stopAt]; exact cut_stop0
  · simp only [reduceCtorEq, false_and, if_false, stopAt]; exact cut_stop0
  · exact numOut_cut (fun n => ⟨_, rfl⟩) hm h0 (by omega)
theorem base_off {k : Kind} {t : T} (hk : k = .sign ∨ k = .bad) (h : ¬ (k = .sign ∧ t = [40])) (c : Co) : dBase k t c = .stop 0 := by
  unfold dBase
  rw [if_neg h]
  rcases hk with e | e <;> subst e <;> simp [stopAt]
theorem term_off {k : Kind} {t : T} (hk : k = .sign ∨ k = .bad) (h : ¬ (k = .sign ∧ t = [40])) (h2 : ¬ (k = .sign ∧ t = [45])) (c : Co) : dTerm k t c = .stop 0 := by
  unfold dTerm
  rw [if_neg h2]
  exact base_off hk h c
theorem unit_off {k : Kind} {t : T} (hk : k = .sign ∨ k = .bad) (h : ¬ (k = .sign ∧ t = [40])) (h2 : ¬ (k = .sign ∧ t = [45])) (h3 : ¬ (k = .sign ∧ t = [91])) (c : Co) : dUnit k t c = .stop 0 := by
  unfold dUnit
  have hw : k ≠ .word := by rcases hk with e | e <;> rw [e] <;> simp
  rw [if_neg (fun q => q.elim (fun q => hw q.1) h3), if_neg (fun q => hw q.1)]
  exact term_off hk h h2 _
/-- a sign of two signs and its first one -/
def SignCut (w : T) (k' : Kind) (w' : T) : Prop := (w = [60, 61] ∧ k' = .sign ∧ w' = [60]) ∨ (w = [62, 61] ∧ k' = .sign ∧ w' = [62]) ∨ (w = [33, 61] ∧ k' = .bad ∧ w' = [33])
theorem delta_sign {c : Co} {w w' : T} {k' : Kind} (h : SignCut w k' w') : Cut 1 (delta .sign w c) (delta k' w' c) := by
  have n1 : w ≠ [40] ∧ w ≠ [45] ∧ w ≠ [91] ∧ w ≠ [93] ∧ w ≠ [94] ∧ w ≠ [42] ∧ w ≠ [43] ∧ w ≠ [41] ∧ w ≠ [44] ∧ w ≠ [58] ∧ w ∈ RELS := by
    rcases h with ⟨a, _, _⟩ | ⟨a, _, _⟩ | ⟨a, _, _⟩ <;> rw [a] <;> decide
  have n2 : w' ≠ [40] ∧ w' ≠ [45] ∧ w' ≠ [91] ∧ w' ≠ [93] ∧ w' ≠ [94] ∧ w' ≠ [42] ∧ w' ≠ [43] ∧ w' ≠ [41] ∧ w' ≠ [44] ∧ w' ≠ [58] := by
    rcases h with ⟨_, _, a⟩ | ⟨_, _, a⟩ | ⟨_, _, a⟩ <;> rw [a] <;> decide
  have hk : k' = .sign ∨ k' = .bad := by
    rcases h with ⟨_, a, _⟩ | ⟨_, a, _⟩ | ⟨_, a, _⟩ <;> rw [a] <;> simp
  have hw : k' ≠ .word := by rcases hk with e | e <;> rw [e] <;> simp
  have hn : k' ≠ .number := by rcases hk with e | e <;> rw [e] <;> simp
  have hs0 : stopAt k' w' [] false = .stop 0 := by rcases hk with e | e <;> rw [e] <;> simp [stopAt]
  unfold delta
  split
  · rw [unit_off (.inl rfl) (fun q => n1.1 q.2) (fun q => n1.2.1 q.2) (fun q => n1.2.2.1 q.2), unit_off hk (fun q => n2.1 q.2) (fun q => n2.2.1 q.2) (fun q => n2.2.2.1 q.2)]
    exact cut_stop0
  · rw [term_off (.inl rfl) (fun q => n1.1 q.2) (fun q => n1.2.1 q.2), term_off hk (fun q => n2.1 q.2) (fun q => n2.2.1 q.2)]
    exact cut_stop0
  · rw [base_off (.inl rfl) (fun q => n1.1 q.2), base_off hk (fun q => n2.1 q.2)]
    exact cut_stop0
  · unfold dMore dMul dSum
    simp only [n1, n2, and_false, if_false]
    split
    · rw [hs0]; exact cut_stop0
    · split
      · rw [dJoined_stop0 (.inr (.inl rfl)) (fun q => n1.2.2.2.1 q.2), dJoined_stop0 (.inr hk) (fun q => n2.2.2.2.1 q.2)]; exact cut_stop0
      · rw [if_pos (show True ∧ True from ⟨trivial, trivial⟩)]
        rcases h with ⟨_, a, b⟩ | ⟨_, a, b⟩ | ⟨_, a, b⟩
        · subst a b; rw [if_pos ⟨rfl, by decide⟩]; exact cut_go
        · subst a b; rw [if_pos ⟨rfl, by decide⟩]; exact cut_go
        · subst a b; simp only [reduceCtorEq, false_and, if_false, stopAt, true_and, if_true]; exact Or.inl rfl
  · rw [dJoined_stop0 (.inr (.inl rfl)) (fun q => n1.2.2.2.1 q.2), dJoined_stop0 (.inr hk) (fun q => n2.2.2.2.1 q.2)]; exact cut_stop0
  · rw [if_pos (by simp), if_pos hw, hs0]; exact cut_stop0
  · simp only [n1, n2, and_false, if_false]; rw [hs0]; exact cut_stop0
  · unfold numOut
    rw [if_pos (by simp), if_pos hn, hs0]; exact cut_stop0
/-- nothing is left -/
theorem dJoined_fin (t : T) : ∀ (n : Nat) (c : Co), dJoined .fin t n c = .stop 0 ∨ ∃ v, dJoined .fin t n c = .done v
  | 0, c => Or.inl rfl
  | n + 1, c => by
    unfold dJoined dAnd dOr dEnd
    simp only [reduceCtorEq, false_and, if_false, and_false, if_true, stopAt]
    split
    · exact dJoined_fin t n _
    · exact Or.inr ⟨_, rfl⟩
    · exact Or.inl rfl
theorem delta_fin (t : T) (c : Co) : delta .fin t c = .stop 0 ∨ ∃ v, delta .fin t c = .done v := by
  unfold delta
  split
  · left; simp [dUnit, dTerm, dBase, stopAt]
  · left; simp [dTerm, dBase, stopAt]
  · left; simp [dBase, stopAt]
  · unfold dMore dMul dSum
    simp only [reduceCtorEq, false_and, if_false, and_false, stopAt]
    split
    · left; trivial
    · split
      · exact dJoined_fin _ _ _
      · left; trivial
  · exact dJoined_fin _ _ _
  · left; simp [stopAt]
  · left; simp [stopAt]
  · left; simp [numOut, stopAt]
theorem dJoined_done {k : Kind} {t : T} : ∀ (n : Nat) (c : Co) {v : PyData}, dJoined k t n c = .done v → k = .fin
  | 0, c, v, h => by
    cases k <;> simp [dJoined, stopAt] at h
  | n + 1, c, v, h => by
    unfold dJoined dAnd dOr dEnd at h
    skip
    split at h
    · cases h
    · split at h
      · cases h
      · split at h
        · cases h
        · split at h
          · cases h
          · split at h
            · exact dJoined_done n _ h
            · split at h
              · assumption
              · cases k <;> simp [stopAt] at h
            · split at h
              · cases h
              · cases k <;> simp [stopAt] at h
theorem stopAt_not_done {k : Kind} {t : T} {ws : List T} {b : Bool} {v : PyData} (h : stopAt k t ws b = .done v) : False := by
  unfold stopAt at h
  split at h
  · cases h
  · split at h <;> cases h
  · cases h
theorem dBase_done {k : Kind} {t : T} {c : Co} {v : PyData} (h : dBase k t c = .done v) : False := by
  unfold dBase at h
  split at h
  · cases h
  · split at h
    · unfold numOut at h
      split at h
      · exact stopAt_not_done h
      · split at h
        · cases h
        · split at h <;> cases h
    · split at h
      · cases h
      · exact stopAt_not_done h
theorem dTerm_done {k : Kind} {t : T} {c : Co} {v : PyData} (h : dTerm k t c = .done v) : False := by
  unfold dTerm at h
  split at h
  · cases h
  · exact dBase_done h
theorem delta_done {k : Kind} {t : T} {c : Co} {v : PyData} (h : delta k t c = .done v) : k = .fin := by
  unfold delta at h
  split at h
  · unfold dUnit at h
    split at h
    · cases h
    · split at h
      · cases h
      · exact (dTerm_done h).elim
  · exact (dTerm_done h).elim
  · exact (dBase_done h).elim
  · unfold dMore dMul dSum at h
    simp only at h
    split at h
    · cases h
    · split at h
      · cases h
      · split at h
        · cases h
        · split at h
          · cases h
          · split at h
            · split at h
              · cases h
              · exact (stopAt_not_done h).elim
            · split at h
              · exact dJoined_done _ _ h
              · split at h
                · cases h
                · exact (stopAt_not_done h).elim
  · exact dJoined_done _ _ h
  · split at h
    · exact (stopAt_not_done h).elim
    · split at h
      · cases h
      · split at h <;> cases h
  · split at h
    · cases h
    · split at h
      · cases h
      · exact (stopAt_not_done h).elim
  · unfold numOut at h
    split at h
    · exact (stopAt_not_done h).elim
    · split at h
      · cases h
      · split at h <;> cases h
end Mi
namespace Mi
open PySem
/-! ### tokens of a text that is cut -/
theorem takeWhile_take (p : Nat → Bool) : ∀ (r : T) (m : Nat), (r.take m).takeWhile p = (r.takeWhile p).take m
  | [], m => by simp
  | c :: r, 0 => by simp
  | c :: r, m + 1 => by
    simp only [List.take_succ_cons, List.takeWhile_cons]
    split
    · rw [List.take_succ_cons, takeWhile_take p r m]
    · simp
theorem takeWhile_le (p : Nat → Bool) (r : T) : (r.takeWhile p).length ≤ r.length := by
  induction r with
  | nil => simp
  | cons c r ih =>
    simp only [List.takeWhile_cons]
    split
    · simp; exact ih
    · simp
theorem runEnd_le {p : Nat → Bool} {t : T} {a : Nat} (h : a ≤ t.length) : runEnd p t a ≤ t.length := by
  unfold runEnd
  have := takeWhile_le p (t.drop a)
  rw [List.length_drop] at this
  omega
theorem runEnd_ge {p : Nat → Bool} {t : T} {a : Nat} : a ≤ runEnd p t a := by unfold runEnd; omega
theorem runEnd_take {p : Nat → Bool} {t : T} {a q : Nat} (h : a ≤ q) (hq : q ≤ t.length) : runEnd p (t.take q) a = min (runEnd p t a) q := by
  unfold runEnd
  rw [List.drop_take, takeWhile_take, List.length_take]
  have := takeWhile_le p (t.drop a)
  rw [List.length_drop] at this
  omega
theorem nb {a c : Nat} (h : ¬ c = a) : (a == c) = false := by simp; exact fun e => h e.symm
/-- what sign stands at the beginning -/
theorem signs_find (c : Nat) (q : T) : SIGNS.find? (fun s => s.isPrefixOf (c :: q)) =
    if (c = 33 ∨ c = 60 ∨ c = 62) ∧ q.head? = some 61 then some [c, 61] else if c ∈ [43, 45, 42, 94, 40, 41, 91, 93, 44, 58, 61, 60, 62] then some [c] else none := by
  cases q with
  | nil =>
    simp only [SIGNS, List.find?_cons, List.isPrefixOf, List.find?_nil, Bool.and_true, List.head?_nil, Bool.and_false]
    simp only [List.mem_cons, List.not_mem_nil, or_false, reduceCtorEq, and_false, if_false]
    by_cases h1 : c = 43; · subst h1; rfl
    by_cases h2 : c = 45; · subst h2; rfl
    by_cases h3 : c = 42; · subst h3; rfl
    by_cases h4 : c = 94; · subst h4; rfl
    by_cases h5 : c = 40; · subst h5; rfl
    by_cases h6 : c = 41; · subst h6; rfl
    by_cases h7 : c = 91; · subst h7; rfl
    by_cases h8 : c = 93; · subst h8; rfl
    by_cases h9 : c = 44; · subst h9; rfl
    by_cases h10 : c = 58; · subst h10; rfl
    by_cases h11 : c = 61; · subst h11; rfl
    by_cases h12 : c = 60; · subst h12; rfl
    by_cases h13 : c = 62; · subst h13; rfl
    simp only [nb h1, nb h2, nb h3, nb h4, nb h5, nb h6, nb h7, nb h8, nb h9, nb h10, nb h11, nb h12, nb h13, h1, h2, h3, h4, h5, h6, h7, h8, h9, h10, h11, h12, h13, or_self, if_false]
  | cons d q =>
    by_cases hd : d = 61
    · subst hd
      by_cases h0 : c = 33; · subst h0; rfl
      by_cases h12 : c = 60; · subst h12; rfl
      by_cases h13 : c = 62; · subst h13; rfl
      simp only [SIGNS, List.find?_cons, List.isPrefixOf, List.find?_nil, Bool.and_true]
      simp only [List.mem_cons, List.not_mem_nil, or_false, reduceCtorEq, and_false, if_false]
      by_cases h1 : c = 43; · subst h1; rfl
      by_cases h2 : c = 45; · subst h2; rfl
      by_cases h3 : c = 42; · subst h3; rfl
      by_cases h4 : c = 94; · subst h4; rfl
      by_cases h5 : c = 40; · subst h5; rfl
      by_cases h6 : c = 41; · subst h6; rfl
      by_cases h7 : c = 91; · subst h7; rfl
      by_cases h8 : c = 93; · subst h8; rfl
      by_cases h9 : c = 44; · subst h9; rfl
      by_cases h10 : c = 58; · subst h10; rfl
      by_cases h11 : c = 61; · subst h11; rfl
      simp only [nb h0, nb h1, nb h2, nb h3, nb h4, nb h5, nb h6, nb h7, nb h8, nb h9, nb h10, nb h11, nb h12, nb h13, h0, h1, h2, h3, h4, h5, h6, h7, h8, h9, h10, h11, h12, h13, or_self, false_and, if_false, Bool.false_and]
    · have hd' : ¬ (61 = d) := fun h => hd h.symm
      simp only [SIGNS, List.find?_cons, List.isPrefixOf, List.find?_nil, Bool.and_true, List.head?_cons, Option.some.injEq, hd, and_false, if_false]
      simp only [List.mem_cons, List.not_mem_nil, or_false]
      by_cases h1 : c = 43; · subst h1; simp [nb hd]
      by_cases h2 : c = 45; · subst h2; simp [nb hd]
      by_cases h3 : c = 42; · subst h3; simp [nb hd]
      by_cases h4 : c = 94; · subst h4; simp [nb hd]
      by_cases h5 : c = 40; · subst h5; simp [nb hd]
      by_cases h6 : c = 41; · subst h6; simp [nb hd]
      by_cases h7 : c = 91; · subst h7; simp [nb hd]
      by_cases h8 : c = 93; · subst h8; simp [nb hd]
      by_cases h9 : c = 44; · subst h9; simp [nb hd]
      by_cases h10 : c = 58; · subst h10; simp [nb hd]
      by_cases h11 : c = 61; · subst h11; simp [nb hd]
      by_cases h12 : c = 60; · subst h12; simp [nb hd]
      by_cases h13 : c = 62; · subst h13; simp [nb hd]
      simp only [nb hd, Bool.and_false, nb h1, nb h2, nb h3, nb h4, nb h5, nb h6, nb h7, nb h8, nb h9, nb h10, nb h11, nb h12, nb h13, h1, h2, h3, h4, h5, h6, h7, h8, h9, h10, h11, h12, h13, or_self, if_false]
/-- the token at a place, cut behind m signs of what is left -/
inductive HeadCut (a m : Nat) (k : Lk) : Lk → Prop
  | same : k.tok.length ≤ m → HeadCut a m k k
  | word : k.kind = .word → m < k.tok.length → HeadCut a m k ⟨.word, k.tok.take m, a⟩
  | number : k.kind = .number → m < k.tok.length → HeadCut a m k ⟨.number, k.tok.take m, a⟩
  | sign {k' w'} : k.kind = .sign → m = 1 → k.tok.length = 2 → SignCut k.tok k' w' → HeadCut a m k ⟨k', w', a⟩
theorem head_place (r : T) (a : Nat) : (head r a).place = a := by
  unfold head
  split
  · rfl
  · split
    · rfl
    · split
      · rfl
      · split <;> rfl
theorem head_cons (c : Nat) (q : T) (a : Nat) : head (c :: q) a = if isL c then ⟨.word, (c :: q).takeWhile (fun c => isL c || isF c), a⟩
    else if isF c then ⟨.number, (c :: q).takeWhile isF, a⟩
    else match SIGNS.find? (fun s => s.isPrefixOf (c :: q)) with
      | some s => ⟨.sign, s, a⟩
      | none => ⟨.bad, [c], a⟩ := rfl
theorem head_cut (c : Nat) (r : T) (a m : Nat) (hm : 0 < m) : HeadCut a m (head (c :: r) a) (head ((c :: r).take m) a) := by
  obtain ⟨n, rfl⟩ : ∃ n, m = n + 1 := ⟨m - 1, by omega⟩
  rw [List.take_succ_cons, head_cons, head_cons]
  by_cases h1 : isL c = true
  · simp only [h1, if_true]
    have e : (c :: r.take n).takeWhile (fun c => isL c || isF c) = ((c :: r).takeWhile (fun c => isL c || isF c)).take (n + 1) := by
      rw [← takeWhile_take, List.take_succ_cons]
    rw [e]
    by_cases hl : ((c :: r).takeWhile (fun c => isL c || isF c)).length ≤ n + 1
    · rw [List.take_of_length_le hl]; exact .same hl
    · exact .word rfl (by simpa using hl)
  · rw [if_neg h1, if_neg h1]
    by_cases h2 : isF c = true
    · simp only [h2, if_true]
      have e : (c :: r.take n).takeWhile isF = ((c :: r).takeWhile isF).take (n + 1) := by
        rw [← takeWhile_take, List.take_succ_cons]
      rw [e]
      by_cases hl : ((c :: r).takeWhile isF).length ≤ n + 1
      · rw [List.take_of_length_le hl]; exact .same hl
      · exact .number rfl (by simpa using hl)
    · rw [if_neg h2, if_neg h2, signs_find, signs_find]
      cases n with
      | succ n =>
        have e : (r.take (n + 1)).head? = r.head? := by cases r <;> rfl
        rw [e]
        apply HeadCut.same
        by_cases h3 : (c = 33 ∨ c = 60 ∨ c = 62) ∧ r.head? = some 61
        · simp only [if_pos h3]; simp
        · simp only [if_neg h3]
          by_cases h4 : c ∈ [43, 45, 42, 94, 40, 41, 91, 93, 44, 58, 61, 60, 62]
          · simp only [if_pos h4]; simp
          · simp only [if_neg h4]; simp
      | zero =>
        have e : ¬ ((c = 33 ∨ c = 60 ∨ c = 62) ∧ (r.take 0).head? = some 61) := by simp
        simp only [if_neg e]
        by_cases h3 : (c = 33 ∨ c = 60 ∨ c = 62) ∧ r.head? = some 61
        · simp only [if_pos h3]
          rcases h3.1 with rfl | rfl | rfl
          · exact .sign rfl rfl rfl (.inr (.inr ⟨rfl, rfl, rfl⟩))
          · exact .sign rfl rfl rfl (.inl ⟨rfl, rfl, rfl⟩)
          · exact .sign rfl rfl rfl (.inr (.inl ⟨rfl, rfl, rfl⟩))
        · simp only [if_neg h3]
          by_cases h4 : c ∈ [43, 45, 42, 94, 40, 41, 91, 93, 44, 58, 61, 60, 62]
          · simp only [if_pos h4]; exact .same (by simp)
          · simp only [if_neg h4]; exact .same (by simp)
theorem isPrefix_len {s r : T} (h : s.isPrefixOf r = true) : s.length ≤ r.length := (List.isPrefixOf_iff_prefix.mp h).length_le
theorem head_len (r : T) (a : Nat) : (head r a).tok.length ≤ r.length := by
  unfold head
  split
  · simp
  · split
    · exact takeWhile_le _ _
    · split
      · exact takeWhile_le _ _
      · split
        · rename_i s h
          exact isPrefix_len (by have := List.find?_some h; simpa using this)
        · simp
theorem head_pos {r : T} {a : Nat} (h : r ≠ []) : 0 < (head r a).tok.length := by
  cases r with
  | nil => exact absurd rfl h
  | cons c q =>
    rw [head_cons]
    split
    · rename_i h1; simp [List.takeWhile_cons, h1]
    · split
      · rename_i h1; simp [List.takeWhile_cons, h1]
      · split
        · rename_i s h
          have := List.mem_of_find?_eq_some h
          simp only [SIGNS, List.mem_cons, List.not_mem_nil, or_false] at this
          rcases this with e | e | e | e | e | e | e | e | e | e | e | e | e | e | e | e <;> (rw [e]; simp)
        · simp
theorem head_fin {r : T} {a : Nat} (h : (head r a).kind = .fin) : r = [] := by
  cases r with
  | nil => rfl
  | cons c q =>
    rw [head_cons] at h
    split at h
    · cases h
    · split at h
      · cases h
      · split at h <;> cases h
end Mi
namespace Mi
open PySem
/-- it stops within the token -/
def Le (o : Out) (n : Nat) : Prop := ∀ off, o = .stop off → off ≤ n
theorem le_go {c : Co} {n : Nat} : Le (.go c) n := fun _ h => by cases h
theorem le_done {v : PyData} {n : Nat} : Le (.done v) n := fun _ h => by cases h
theorem le_stop {m n : Nat} (h : m ≤ n) : Le (.stop m) n := fun _ e => by cases e; exact h
theorem le_stopAt (k : Kind) (t : T) (ws : List T) (b : Bool) : Le (stopAt k t ws b) t.length := by
  unfold stopAt
  split
  · exact le_stop (longest_le _ _)
  · split
    · rename_i h; rw [h.1]; exact le_stop (by simp)
    · exact le_stop (by omega)
  · exact le_stop (by omega)
theorem le_joined (k : Kind) (t : T) : ∀ (n : Nat) (c : Co), Le (dJoined k t n c) t.length
  | 0, c => le_stopAt _ _ _ _
  | n + 1, c => by
    unfold dJoined dAnd dOr dEnd
    skip
    split
    · exact le_go
    · split
      · exact le_go
      · split
        · exact le_go
        · split
          · exact le_go
          · split
            · exact le_joined k t n _
            · split
              · exact le_done
              · exact le_stopAt _ _ _ _
            · split
              · exact le_go
              · exact le_stopAt _ _ _ _
theorem le_num (k : Kind) (t : T) (most : Nat) (f : Nat → Out) (hf : ∀ n, ∃ c, f n = .go c) : Le (numOut k t most f) t.length := by
  unfold numOut
  split
  · exact le_stopAt _ _ _ _
  · split
    · exact le_stop (by omega)
    · split
      · exact le_stop (by omega)
      · obtain ⟨c, e⟩ := hf (numOf t)
        rw [e]; exact le_go
theorem le_base (k : Kind) (t : T) (c : Co) : Le (dBase k t c) t.length := by
  unfold dBase
  split
  · exact le_go
  · split
    · exact le_num _ _ _ _ fun n => ⟨_, rfl⟩
    · split
      · exact le_go
      · exact le_stopAt _ _ _ _
theorem le_term (k : Kind) (t : T) (c : Co) : Le (dTerm k t c) t.length := by
  unfold dTerm
  split
  · exact le_go
  · exact le_base _ _ _
theorem le_delta (k : Kind) (t : T) (c : Co) : Le (delta k t c) t.length := by
  unfold delta
  split
  · unfold dUnit
    split
    · exact le_go
    · split
      · exact le_go
      · exact le_term _ _ _
  · exact le_term _ _ _
  · exact le_base _ _ _
  · unfold dMore dMul dSum
    simp only
    split
    · exact le_go
    · split
      · exact le_go
      · split
        · exact le_go
        · split
          · exact le_go
          · split
            · split
              · exact le_go
              · exact le_stopAt _ _ _ _
            · split
              · exact le_joined _ _ _ _
              · split
                · exact le_go
                · exact le_stopAt _ _ _ _
  · exact le_joined _ _ _ _
  · split
    · exact le_stopAt _ _ _ _
    · split
      · exact le_stop (by omega)
      · split
        · exact le_stop (by omega)
        · exact le_go
  · split
    · exact le_go
    · split
      · exact le_go
      · exact le_stopAt _ _ _ _
  · exact le_num _ _ _ _ fun n => ⟨_, rfl⟩
/-- what goes on is a word, a number or a sign -/
theorem delta_go {k : Kind} {t : T} {c c' : Co} (h : delta k t c = .go c') : k ≠ .fin := by
  intro e
  subst e
  rcases delta_fin t c with h1 | ⟨v, h1⟩ <;> rw [h1] at h <;> cases h

/-! ### reading goes on from left to right -/
theorem tokenAt_place (t : T) (a : Nat) : (tokenAt t a).place = runEnd isB t a := head_place _ _
theorem tokenAt_end {t : T} {a : Nat} (h : a ≤ t.length) : (tokenAt t a).place + (tokenAt t a).tok.length ≤ t.length := by
  rw [tokenAt_place]
  have h1 := head_len (t.drop (runEnd isB t a)) (runEnd isB t a)
  have h2 := runEnd_le (p := isB) h
  rw [List.length_drop] at h1
  show runEnd isB t a + (head _ _).tok.length ≤ _
  omega
/-- where a result ends -/
def Ge (q : Nat) : Res → Prop
  | .read _ => True
  | .unread p => q ≤ p
theorem parse_ge (t : T) : ∀ (n : Nat) (c : Co) (k : Lk), Ge k.place (parse t n c k)
  | 0, c, k => Nat.le_refl _
  | n + 1, c, k => by
    unfold parse
    split
    · show k.place ≤ k.place + _; omega
    · trivial
    · have h := parse_ge t n ‹Co› (tokenAt t (k.place + k.tok.length))
      rw [tokenAt_place] at h
      have h2 := runEnd_ge (p := isB) (t := t) (a := k.place + k.tok.length)
      revert h
      cases parse t n ‹Co› (tokenAt t (k.place + k.tok.length)) with
      | read v => intro _; trivial
      | unread p => intro h; show k.place ≤ p; have h : runEnd isB t (k.place + k.tok.length) ≤ p := h; omega
theorem Ge.mono {p q : Nat} {r : Res} (h : Ge p r) (hq : q ≤ p) : Ge q r := by
  cases r with
  | read v => trivial
  | unread x => exact Nat.le_trans hq h
def Alive (q : Nat) (r : Res) : Prop := (∃ v, r = .read v) ∨ r = .unread q
theorem parse_fin (t : T) (n : Nat) (c : Co) (w : T) (q : Nat) : Alive q (parse t (n + 1) c ⟨.fin, w, q⟩) := by
  unfold parse
  rcases delta_fin w c with h | ⟨v, h⟩
  · rw [h]; exact .inr rfl
  · rw [h]; exact .inl ⟨_, rfl⟩
/-- enough turns -/
theorem tokenAt_take {t : T} {a q : Nat} (h : a ≤ q) (hq : q ≤ t.length) :
    (q ≤ (tokenAt t a).place ∧ tokenAt (t.take q) a = ⟨.fin, [], q⟩) ∨ ((tokenAt t a).place < q ∧ HeadCut (tokenAt t a).place (q - (tokenAt t a).place) (tokenAt t a) (tokenAt (t.take q) a)) := by
  have e := runEnd_take (p := isB) h hq
  have e1 := tokenAt_place t a
  by_cases hb : q ≤ runEnd isB t a
  · left
    refine ⟨by rw [e1]; exact hb, ?_⟩
    unfold tokenAt
    rw [e, Nat.min_eq_right hb, List.drop_eq_nil_of_le (by rw [List.length_take]; omega)]
    rfl
  · right
    refine ⟨by rw [e1]; omega, ?_⟩
    rw [e1]
    unfold tokenAt
    rw [e, Nat.min_eq_left (by omega), List.drop_take]
    have hl : runEnd isB t a < t.length := by omega
    rw [List.drop_eq_getElem_cons hl]
    exact head_cut _ _ _ _ (by omega)
theorem pre (t : T) (q : Nat) (hq : q ≤ t.length) : ∀ (n n' : Nat) (c : Co) (a : Nat), a ≤ q → t.length - a < n → q - a < n' →
    (Alive q (parse (t.take q) n' c (tokenAt (t.take q) a)) ∧ Ge q (parse t n c (tokenAt t a))) ∨
      ∃ p, p < q ∧ parse (t.take q) n' c (tokenAt (t.take q) a) = .unread p ∧ parse t n c (tokenAt t a) = .unread p
  | n, 0, c, a, ha, hn, hn' => by omega
  | 0, n', c, a, ha, hn, hn' => by omega
  | n + 1, n' + 1, c, a, ha, hn, hn' => by
    have hge := parse_ge t (n + 1) c (tokenAt t a)
    rcases tokenAt_take ha hq with ⟨h1, h2⟩ | ⟨h1, h2⟩
    · left
      refine ⟨?_, hge.mono h1⟩
      rw [h2]
      exact parse_fin _ _ _ _ _
    · have hend := tokenAt_end (t := t) (a := a) (by omega)
      have hra := runEnd_ge (p := isB) (t := t) (a := a)
      rw [← tokenAt_place] at hra
      generalize hk : tokenAt t a = k at *
      generalize hk' : tokenAt (t.take q) a = k' at *
      have hkp : 0 < k.tok.length ∨ k.kind = .fin := by
        rw [← hk]
        by_cases hr : t.drop (runEnd isB t a) = []
        · right; unfold tokenAt; rw [hr]; rfl
        · left; exact head_pos hr
      have hge2 : ∀ c2, delta k.kind k.tok c = .go c2 → Ge (k.place + k.tok.length) (parse t (n + 1) c k) := by
        intro c2 e
        unfold parse
        rw [e]
        refine (parse_ge t n c2 _).mono ?_
        rw [tokenAt_place]; exact runEnd_ge
      have hend' : ∀ m c2 x, 0 < m → tokenAt (t.take q) q = x → Alive q (parse (t.take q) m c2 x) := by
        intro m c2 x hm e
        obtain ⟨m, rfl⟩ : ∃ z, m = z + 1 := ⟨m - 1, by omega⟩
        have : x = ⟨.fin, [], q⟩ := by
          rw [← e]
          unfold tokenAt
          have e2 : runEnd isB (t.take q) q = q := by
            unfold runEnd
            rw [List.drop_eq_nil_of_le (by rw [List.length_take]; omega)]; rfl
          rw [e2, List.drop_eq_nil_of_le (by rw [List.length_take]; omega)]; rfl
        rw [this]
        exact parse_fin _ _ _ _ _
      -- a cut token
      have cutCase : ∀ kd w m, k' = ⟨kd, w, k.place⟩ → w.length = m → k.place + m = q → m < k.tok.length → 0 < m → Cut m (delta k.kind k.tok c) (delta kd w c) →
          (Alive q (parse (t.take q) (n' + 1) c k') ∧ Ge q (parse t (n + 1) c k)) ∨ ∃ p, p < q ∧ parse (t.take q) (n' + 1) c k' = .unread p ∧ parse t (n + 1) c k = .unread p := by
        intro kd w m e1 e2 e3 e4 e5 hc
        subst e1
        cases ho : delta k.kind k.tok c with
        | stop off =>
          rw [ho] at hc
          have hR : parse t (n + 1) c k = .unread (k.place + off) := by unfold parse; rw [ho]
          rcases hc with hc | ⟨hc1, c2, hc2⟩
          · have hR' : parse (t.take q) (n' + 1) c ⟨kd, w, k.place⟩ = .unread (k.place + min off m) := by unfold parse; simp only [hc]
            by_cases hlt : off < m
            · right
              refine ⟨k.place + off, by omega, ?_, hR⟩
              rw [hR', Nat.min_eq_left (by omega)]
            · left
              rw [hR, hR', Nat.min_eq_right (by omega), e3]
              exact ⟨.inr rfl, by show q ≤ k.place + off; omega⟩
          · left
            rw [hR]
            refine ⟨?_, by show q ≤ k.place + off; omega⟩
            unfold parse
            simp only [hc2]
            exact hend' _ _ _ (by omega) (by rw [e2, e3])
        | go c2 =>
          rw [ho] at hc
          left
          refine ⟨?_, (hge2 c2 ho).mono (by omega)⟩
          rcases hc with hc | ⟨c3, hc⟩
          · unfold parse; simp only [hc]; rw [e3]; exact .inr rfl
          · unfold parse; simp only [hc]; exact hend' _ _ _ (by omega) (by rw [e2, e3])
        | done v => rw [ho] at hc; exact hc.elim
      cases h2 with
      | same hl =>
        cases ho : delta k.kind k.tok c with
        | stop off =>
          have hle := le_delta k.kind k.tok c off ho
          have hR : parse t (n + 1) c k = .unread (k.place + off) := by unfold parse; rw [ho]
          have hR' : parse (t.take q) (n' + 1) c k = .unread (k.place + off) := by unfold parse; rw [ho]
          by_cases hlt : k.place + off < q
          · right; exact ⟨_, hlt, hR', hR⟩
          · left
            rw [hR, hR']
            have : k.place + off = q := by omega
            rw [this]
            exact ⟨.inr rfl, Nat.le_refl _⟩
        | done v =>
          left
          refine ⟨?_, ?_⟩
          · unfold parse; rw [ho]; exact .inl ⟨_, rfl⟩
          · unfold parse; rw [ho]; trivial
        | go c2 =>
          have hf := delta_go ho
          have hp : 0 < k.tok.length := hkp.elim id fun h => absurd h hf
          have ih := pre t q hq n n' c2 (k.place + k.tok.length) (by omega) (by omega) (by omega)
          have hR : parse t (n + 1) c k = parse t n c2 (tokenAt t (k.place + k.tok.length)) := by rw [parse]; rw [ho]
          have hR' : parse (t.take q) (n' + 1) c k = parse (t.take q) n' c2 (tokenAt (t.take q) (k.place + k.tok.length)) := by rw [parse]; rw [ho]
          rw [hR, hR']
          exact ih
      | word hkd hm => exact cutCase _ _ _ rfl (by rw [List.length_take]; omega) (by omega) hm (by omega) (by rw [hkd]; exact delta_word (by omega) (by omega))
      | number hkd hm => exact cutCase _ _ _ rfl (by rw [List.length_take]; omega) (by omega) hm (by omega) (by rw [hkd]; exact delta_number (by omega) (by omega))
      | sign hkd hm hl hs =>
        refine cutCase _ _ 1 rfl ?_ (by omega) (by omega) (by omega) (by rw [hkd]; exact delta_sign hs)
        rcases hs with ⟨_, _, e⟩ | ⟨_, _, e⟩ | ⟨_, _, e⟩ <;> rw [e] <;> rfl
/-- THE PREFIX LAW -/
theorem settle_pre (t : T) (free : List T) (q : Nat) (hq : q ≤ t.length) :
    (Alive q (settle (t.take q) free) ∧ Ge q (settle t free)) ∨ ∃ p, p < q ∧ settle (t.take q) free = .unread p ∧ settle t free = .unread p := by
  unfold settle
  rw [List.length_take, Nat.min_eq_left hq]
  exact pre t q hq _ _ _ 0 (by omega) (by omega) (by omega)
/-- a text that is read: each beginning of it is let -/
theorem settle_read_pre {t : T} {free : List T} {v : PyData} (h : settle t free = .read v) {q : Nat} (hq : q ≤ t.length) : Alive q (settle (t.take q) free) := by
  rcases settle_pre t free q hq with ⟨a, _⟩ | ⟨p, _, _, b⟩
  · exact a
  · rw [h] at b; cases b
theorem settle_alive_pre {t : T} {free : List T} {q : Nat} (hq : q ≤ t.length) (h : Ge q (settle t free)) : Alive q (settle (t.take q) free) := by
  rcases settle_pre t free q hq with ⟨a, _⟩ | ⟨p, hp, _, b⟩
  · exact a
  · rw [b] at h
    have h : q ≤ p := h
    omega
theorem settle_dead_pre {t : T} {free : List T} {p q : Nat} (hq : q ≤ t.length) (h : settle t free = .unread p) (hp : p < q) : settle (t.take q) free = .unread p := by
  rcases settle_pre t free q hq with ⟨_, b⟩ | ⟨p', _, a, b⟩
  · rw [h] at b
    have b : q ≤ p := b
    omega
  · rw [h] at b; cases b; exact a
/-- .. and of what begins so, what is told lies behind it -/
theorem settle_ge {t : T} {free : List T} {q : Nat} (hq : q ≤ t.length) (h : Alive q (settle (t.take q) free)) : Ge q (settle t free) := by
  rcases settle_pre t free q hq with ⟨_, b⟩ | ⟨p, hp, a, _⟩
  · exact b
  · rcases h with ⟨v, h⟩ | h
    · rw [a] at h; cases h
    · rw [a] at h; cases h; omega
end Mi
namespace Mi
open PySem
/-! ### a sign that begins no token -/
theorem takeWhile_stop {p : Nat → Bool} : ∀ {r : T} {j b : Nat}, r[j]? = some b → p b = false → (r.takeWhile p).length ≤ j
  | [], j, b, h, _ => by simp at h
  | c :: r, 0, b, h, hb => by
    simp at h; subst h
    simp [List.takeWhile_cons, hb]
  | c :: r, j + 1, b, h, hb => by
    simp only [List.takeWhile_cons]
    split
    · have := takeWhile_stop (r := r) (j := j) (by simpa using h) hb
      simp; omega
    · simp
def Bad (b : Nat) : Prop := b = 126 ∨ b = 88 ∨ b = 46
theorem Bad.l {b : Nat} (h : Bad b) : isL b = false := by rcases h with rfl | rfl | rfl <;> rfl
theorem Bad.f {b : Nat} (h : Bad b) : isF b = false := by rcases h with rfl | rfl | rfl <;> rfl
theorem Bad.b {b : Nat} (h : Bad b) : isB b = false := by rcases h with rfl | rfl | rfl <;> rfl
theorem sign_bad {b : Nat} (h : Bad b) : ∀ s ∈ SIGNS, b ∉ s := by
  rcases h with rfl | rfl | rfl <;> decide
theorem prefix_at {s r : T} (h : s.isPrefixOf r = true) {j : Nat} (hj : j < s.length) : s[j]? = r[j]? := by
  obtain ⟨u, e⟩ := List.isPrefixOf_iff_prefix.mp h
  rw [← e, List.getElem?_append_left hj]
theorem head_bad {r : T} {a j b : Nat} (h : Bad b) (hj : r[j]? = some b) : (j = 0 ∧ head r a = ⟨.bad, [b], a⟩) ∨ (0 < j ∧ (head r a).tok.length ≤ j ∧ (head r a).kind ≠ .fin) := by
  cases r with
  | nil => simp at hj
  | cons c q =>
    have hs : ∀ s ∈ SIGNS, s.isPrefixOf (c :: q) = true → s.length ≤ j := by
      intro s hs hp
      rcases Nat.lt_or_ge j s.length with hl | hl
      · exfalso
        have e := prefix_at hp hl
        rw [hj] at e
        exact sign_bad h s hs (List.mem_of_getElem? e)
      · exact hl
    cases j with
    | zero =>
      left
      refine ⟨rfl, ?_⟩
      simp at hj; subst hj
      rw [head_cons, if_neg (by rw [h.l]; simp), if_neg (by rw [h.f]; simp)]
      have e : SIGNS.find? (fun s => s.isPrefixOf (c :: q)) = none := by
        rw [List.find?_eq_none]
        intro s h1 h2
        have := hs s h1 h2
        have e : s = [] := List.length_eq_zero_iff.mp (by omega)
        rw [e] at h1
        revert h1; decide
      rw [e]
    | succ j =>
      right
      refine ⟨by omega, ?_, fun e => by have := head_fin e; cases this⟩
      rw [head_cons]
      split
      · exact takeWhile_stop hj (by rw [h.l, h.f]; rfl)
      · split
        · exact takeWhile_stop hj h.f
        · split
          · rename_i s e
            exact hs s (List.mem_of_find?_eq_some e) (by have := List.find?_some e; simpa using this)
          · simp
theorem parse_bad {t : T} {i b : Nat} (h : Bad b) (hi : t[i]? = some b) : ∀ (n : Nat) (c : Co) (a : Nat), a ≤ i → i - a < n → ∃ p, p ≤ i ∧ parse t n c (tokenAt t a) = .unread p
  | 0, c, a, ha, hn => by omega
  | n + 1, c, a, ha, hn => by
    have hr : runEnd isB t a ≤ i := by
      unfold runEnd
      have := takeWhile_stop (p := isB) (r := t.drop a) (j := i - a) (b := b) (by rw [List.getElem?_drop]; rw [show a + (i - a) = i by omega]; exact hi) h.b
      omega
    have hra := runEnd_ge (p := isB) (t := t) (a := a)
    have hd : (t.drop (runEnd isB t a))[i - runEnd isB t a]? = some b := by
      rw [List.getElem?_drop, show runEnd isB t a + (i - runEnd isB t a) = i by omega]; exact hi
    have hp := tokenAt_place t a
    have hpos : 0 < (tokenAt t a).tok.length := head_pos (fun e => by rw [e] at hd; simp at hd)
    rcases head_bad (a := runEnd isB t a) h hd with ⟨h0, e⟩ | ⟨h0, h1, h2⟩
    · have e2 : tokenAt t a = ⟨.bad, [b], runEnd isB t a⟩ := e
      rw [e2]
      have hb33 : ¬ ([b] = [33]) := by rcases h with rfl | rfl | rfl <;> decide
      have hst : ∀ k, delta .bad [b] c = k → k = .stop 0 := by
        have h91 : ¬ ((Kind.bad = Kind.sign) ∧ [b] = [40]) := by simp
        intro k hk
        rw [← hk]
        unfold delta
        split
        · exact unit_off (.inr rfl) (by simp) (by simp) (by simp) _
        · exact term_off (.inr rfl) (by simp) (by simp) _
        · exact base_off (.inr rfl) (by simp) _
        · unfold dMore dMul dSum
          simp only [reduceCtorEq, false_and, and_false, if_false, stopAt, hb33, false_and]
          split
          · rfl
          · split
            · exact dJoined_stop0 (.inr (.inr rfl)) (by simp) _ _
            · rfl
        · exact dJoined_stop0 (.inr (.inr rfl)) (by simp) _ _
        · simp [stopAt, hb33]
        · simp [stopAt, hb33]
        · simp [numOut, stopAt, hb33]
      refine ⟨runEnd isB t a, hr, ?_⟩
      unfold parse
      simp only [hst _ rfl]
      rfl
    · have hl : (tokenAt t a).place + (tokenAt t a).tok.length ≤ i := by
        rw [hp]
        show runEnd isB t a + (head _ _).tok.length ≤ i
        omega
      unfold parse
      cases ho : delta (tokenAt t a).kind (tokenAt t a).tok c with
      | stop off =>
        have := le_delta _ _ _ off ho
        exact ⟨_, by omega, rfl⟩
      | done v => exact absurd (delta_done ho) h2
      | go c2 => exact parse_bad h hi n c2 _ hl (by omega)
theorem settle_bad {t : T} {free : List T} {i b : Nat} (h : Bad b) (hi : t[i]? = some b) : ∃ p, p ≤ i ∧ settle t free = .unread p := by
  have hl : i < t.length := (List.getElem?_eq_some_iff.mp hi).1
  exact parse_bad h hi _ _ 0 (by omega) (by omega)
/-- THE LAW OF THE SIGN THAT BEGINS NO TOKEN -/
theorem settle_put_bad {t : T} {free : List T} {b cut : Nat} (hb : Bad b) (hc : cut ≤ t.length) (h : Alive cut (settle (t.take cut) free)) :
    settle (t.take cut ++ b :: t.drop cut) free = .unread cut := by
  have hlen : (t.take cut).length = cut := by rw [List.length_take]; omega
  have hi : (t.take cut ++ b :: t.drop cut)[cut]? = some b := by
    rw [List.getElem?_append_right (by omega), hlen]; simp
  obtain ⟨p, hp, e⟩ := settle_bad (free := free) hb hi
  have hq : cut ≤ (t.take cut ++ b :: t.drop cut).length := by rw [List.length_append]; omega
  have ht : (t.take cut ++ b :: t.drop cut).take cut = t.take cut := by
    rw [List.take_append_of_le_length (by omega), List.take_of_length_le (by omega)]
  have hg := settle_ge (t := t.take cut ++ b :: t.drop cut) (free := free) hq (by rw [ht]; exact h)
  rw [e] at hg
  have hg : cut ≤ p := hg
  rw [e, show p = cut by omega]
end Mi
namespace Mi
open PySem
/-! ### sayings, their tokens -/
inductive BO | plus | minus | times
  deriving DecidableEq
inductive WO | and | or | imp | iff
  deriving DecidableEq
inductive Tm
  | num (n : Nat)
  | var (x : T)
  | neg (a : Tm)
  | bin (o : BO) (a b : Tm)
  | pow (a : Tm) (n : Nat)
inductive Sy
  | rel (r : T) (a b : Tm)
  | not (f : Sy)
  | bin (o : WO) (f g : Sy)
  | quant (all : Bool) (x : T) (f : Sy)
def BO.name : BO → T | .plus => kPlus | .minus => kMinus | .times => kTimes
def BO.sign : BO → T | .plus => [43] | .minus => [45] | .times => [42]
def WO.name : WO → T | .and => kAnd | .or => kOr | .imp => kImp | .iff => kIff
def qName (all : Bool) : T := if all then kAll else kSome
def Tm.data : Tm → PyData
  | .num n => pair kNumber (.int n)
  | .var x => pair kLetter (str x)
  | .neg a => pair kNeg a.data
  | .bin o a b => trip o.name a.data b.data
  | .pow a n => trip kPower a.data (.int n)
def Sy.data : Sy → PyData
  | .rel r a b => trip r a.data b.data
  | .not f => pair kNot f.data
  | .bin o f g => trip o.name f.data g.data
  | .quant q x f => trip (qName q) (str x) f.data
def Tm.own : Tm → Nat
  | .neg _ => 0
  | .bin .times _ _ => 1
  | .bin _ _ _ => 0
  | .pow _ _ => 2
  | _ => 3
def Sy.own : Sy → Nat
  | .rel _ _ _ => 3
  | .not _ => 3
  | .bin .and _ _ => 2
  | .bin .or _ _ => 1
  | .bin _ _ _ => 0
  | .quant _ _ _ => 0
def dig (n : Nat) : T := [48 + n]
def BO.l : BO → Nat | .times => 1 | _ => 0
def BO.r : BO → Nat | .times => 2 | _ => 1
def WO.l : WO → Nat | .and => 2 | _ => 1
def WO.r : WO → Nat | .and => 3 | .or => 2 | _ => 0
inductive TTok : Nat → Tm → List T → Prop
  | paren {l a ws} : TTok 0 a ws → TTok l a ([40] :: ws ++ [[41]])
  | num {l n} : TTok l (.num n) [dig n]
  | var {l x} : TTok l (.var x) [x]
  | neg {a ws} : TTok 1 a ws → TTok 0 (.neg a) ([45] :: ws)
  | bin {l o a b ws us} : l ≤ (Tm.bin o a b).own → TTok o.l a ws → TTok o.r b us → TTok l (.bin o a b) (ws ++ o.sign :: us)
  | pow {l a n ws} : l ≤ 2 → TTok 3 a ws → TTok l (.pow a n) (ws ++ [[94], dig n])
inductive STok : Nat → Sy → List T → Prop
  | paren {l f ws} : STok 0 f ws → STok l f ([91] :: ws ++ [[93]])
  | rel {l r a b ws us} : TTok 0 a ws → TTok 0 b us → STok l (.rel r a b) (ws ++ r :: us)
  | not {l f ws} : STok 3 f ws → STok l (.not f) (kNot :: ws)
  | bin {l o f g ws us} : l ≤ (Sy.bin o f g).own → STok o.l f ws → STok o.r g us → STok l (.bin o f g) (ws ++ o.name :: us)
  | quant {q x f ws} : STok 0 f ws → STok 0 (.quant q x f) (qName q :: x :: [58] :: ws)
structure NameOk (x : T) : Prop where
  ne : ∃ c r, x = c :: r ∧ isL c = true
  all : ∀ c ∈ x, (isL c || isF c) = true
  len : x.length ≤ 8
  no : x ∉ WORDS
def Tm.In (B : List T) : Tm → Prop
  | .num n => n ≤ 9
  | .var x => x ∈ B
  | .neg a => a.In B
  | .bin _ a b => a.In B ∧ b.In B
  | .pow a n => a.In B ∧ n ≤ 9
def Sy.In : List T → Sy → Prop
  | B, .rel r a b => r ∈ RELS ∧ a.In B ∧ b.In B
  | B, .not f => f.In B
  | B, .bin _ f g => f.In B ∧ g.In B
  | B, .quant _ x f => NameOk x ∧ f.In (B ++ [x])
/-- a token's kind, by its first sign -/
def kd (w : T) : Kind := match w with
  | [] => .fin
  | c :: _ => if isL c then .word else if isF c then .number else .sign
def Runs : Co → List T → Co → Prop
  | c, [], c' => c = c'
  | c, w :: ws, c' => ∃ c1, delta (kd w) w c = .go c1 ∧ Runs c1 ws c'
theorem Runs.app : ∀ {ws us : List T} {c c1 c2 : Co}, Runs c ws c1 → Runs c1 us c2 → Runs c (ws ++ us) c2
  | [], us, c, c1, c2, h, k => by cases h; exact k
  | w :: ws, us, c, c1, c2, ⟨c0, h1, h2⟩, k => ⟨c0, h1, Runs.app h2 k⟩
def doneT (c : Co) (a : Tm) : Co := ⟨c.bound, c.opened, .more, a.data, [], true⟩
def doneS (c : Co) (f : Sy) : Co := ⟨c.bound, c.opened, .joined, f.data, [], true⟩

/-! ### terms -/
def OT (l : Nat) (O : List Op) : Prop := (l = 0 → top O ≠ kTimes ∧ top O ≠ kPlus ∧ top O ≠ kMinus ∧ top O ≠ kNeg) ∧ (l = 1 → top O ≠ kTimes)
theorem join_no {c : Co} {hs : List T} (h : top c.opened ∉ hs) : join c hs = c := by
  unfold join
  cases e : c.opened with
  | nil => rfl
  | cons o r =>
    rw [e] at h
    have h : o.head ∉ hs := h
    simp only
    rw [if_neg h]
theorem join_yes {c : Co} {hs : List T} {o : Op} {r : List Op} (e : c.opened = o :: r) (h : o.head ∈ hs) : join c hs = { c with opened := r, value := opVal o c.value } := by
  unfold join
  rw [e]
  simp only
  rw [if_pos h]
/-- whether it is a base does not matter but for ^ -/
theorem dSum_base {k : Kind} {t : T} (c : Co) (b b' : Bool) : dSum k t { c with isBase := b } = dSum k t { c with isBase := b' } := by
  have e : ∀ b, { join { c with isBase := b } RELS with w := .joined, isBase := true } = { join { c with isBase := true } RELS with w := .joined, isBase := true } := by
    intro b
    unfold join
    simp only
    cases c.opened with
    | nil => rfl
    | cons o r => simp only; split <;> rfl
  unfold dSum
  simp only [pushed]
  rw [e b, e b']
theorem join_base (c : Co) (hs : List T) (b : Bool) : join { c with isBase := b } hs = { join c hs with isBase := b } := by
  obtain ⟨x1, o, x2, x3, x4, x5⟩ := c
  unfold join
  cases o with
  | nil => rfl
  | cons o r => simp only; split <;> rfl
theorem dMul_base {k : Kind} {t : T} (c : Co) (b b' : Bool) : dMul k t { c with isBase := b } = dMul k t { c with isBase := b' } := by
  have e := join_base c [kPlus, kMinus, kNeg] b
  have e' := join_base c [kPlus, kMinus, kNeg] b'
  have f := dSum_base (k := k) (t := t) (join c [kPlus, kMinus, kNeg]) b b'
  unfold dMul
  rw [e, e', f]
  simp only [pushed]
theorem dMore_mul {k : Kind} {t : T} {c : Co} (h : ¬ (k = .sign ∧ t = [94])) : dMore k t c = dMul k t (join c [kTimes]) := by
  unfold dMore
  rw [if_neg (fun q => h q.2)]
theorem dMul_sum {k : Kind} {t : T} {c : Co} (h : ¬ (k = .sign ∧ t = [42])) : dMul k t c = dSum k t (join c [kPlus, kMinus, kNeg]) := by
  unfold dMul
  rw [if_neg h]
theorem mem1 {x y : T} (h : x ≠ y) : x ∉ [y] := by simpa using h
theorem mem3 {x a b c : T} (h1 : x ≠ a) (h2 : x ≠ b) (h3 : x ≠ c) : x ∉ [a, b, c] := by simp [h1, h2, h3]
/-- what may follow -/
def TF (l : Nat) (k : Kind) (t : T) : Prop := (l ≤ 2 → ¬ (k = .sign ∧ t = [94])) ∧ (l = 0 → ¬ (k = .sign ∧ t = [42]))
theorem kd_dig {n : Nat} (h : n ≤ 9) : kd (dig n) = .number := by
  show (if isL (48 + n) then Kind.word else if isF (48 + n) then .number else .sign) = .number
  have h1 : isL (48 + n) = false := by unfold isL; simp; omega
  have h2 : isF (48 + n) = true := by unfold isF; simp; omega
  rw [h1, h2]; rfl
theorem kd_name {x : T} (h : NameOk x) : kd x = .word := by
  obtain ⟨c, r, rfl, hc⟩ := h.ne
  show (if isL c then Kind.word else _) = .word
  rw [if_pos hc]
theorem numOut_dig {n most : Nat} (h : n ≤ 9) (hm : 0 < most) (f : Nat → Out) : numOut .number (dig n) most f = f n := by
  unfold numOut
  rw [if_neg (by simp), if_neg (by simp [dig]), if_neg (by simp [dig]; omega)]
  have : numOf (dig n) = n := by simp [numOf, dig]
  rw [this]
theorem term_runs {B : List T} (hB : ∀ x ∈ B, NameOk x) : ∀ {l : Nat} {a : Tm} {ws : List T}, TTok l a ws → a.In B → ∀ c : Co, c.bound = B → (c.w = .term ∨ (1 ≤ l ∧ c.w = .base)) → OT l c.opened →
    ∃ c', Runs c ws c' ∧ c'.w = .more ∧ ∀ k t, TF l k t → dMore k t c' = dMore k t (doneT c a) := by
  intro l a ws h
  induction h with
  | @paren l a ws h ih =>
    intro hin c hb hw ho
    have e1 : delta (kd [40]) [40] c = .go { c with opened := .one [40] :: c.opened, w := .term, words := [] } := by
      have e : dBase .sign [40] c = .go { c with opened := .one [40] :: c.opened, w := .term, words := [] } := by
        unfold dBase; rw [if_pos ⟨rfl, rfl⟩]
      show delta .sign [40] c = _
      unfold delta
      rcases hw with hw | ⟨_, hw⟩ <;> rw [hw]
      · show dTerm .sign [40] c = _
        unfold dTerm
        rw [if_neg (by simp)]; exact e
      · exact e
    obtain ⟨c1, r1, w1, q1⟩ := ih hin { c with opened := .one [40] :: c.opened, w := .term, words := [] } hb (.inl rfl) ⟨fun _ => ⟨by show [40] ≠ kTimes; decide, by show [40] ≠ kPlus; decide, by show [40] ≠ kMinus; decide, by show [40] ≠ kNeg; decide⟩, (fun h => absurd h (by decide))⟩
    have e2 : delta (kd [41]) [41] c1 = .go (doneT c a) := by
      show delta .sign [41] c1 = _
      unfold delta
      rw [w1]
      show dMore .sign [41] c1 = _
      rw [q1 _ _ ⟨fun _ => by simp, fun _ => by simp⟩, dMore_mul (by simp), join_no (mem1 (by show [40] ≠ kTimes; decide)), dMul_sum (by simp), join_no (mem3 (by show [40] ≠ kPlus; decide) (by show [40] ≠ kMinus; decide) (by show [40] ≠ kNeg; decide))]
      unfold dSum
      rw [if_neg (by simp), if_neg (by simp), if_pos (by rfl), if_pos ⟨rfl, rfl⟩]
      rfl
    exact ⟨doneT c a, Runs.app (ws := [40] :: ws) ⟨_, e1, r1⟩ ⟨_, e2, rfl⟩, rfl, fun k t _ => rfl⟩
  | @num l n =>
    intro hin c hb hw ho
    have hn : n ≤ 9 := hin
    have e : dBase .number (dig n) c = .go (doneT c (.num n)) := by
      unfold dBase
      rw [if_neg (by simp), if_pos rfl, numOut_dig hn (by omega)]
      rfl
    refine ⟨doneT c (.num n), ⟨_, ?_, rfl⟩, rfl, fun k t _ => rfl⟩
    rw [kd_dig hn]
    unfold delta
    rcases hw with hw | ⟨_, hw⟩ <;> rw [hw]
    · show dTerm .number _ c = _
      unfold dTerm
      rw [if_neg (by simp)]; exact e
    · exact e
  | @var l x =>
    intro hin c hb hw ho
    have hx : x ∈ B := hin
    have e : dBase .word x c = .go (doneT c (.var x)) := by
      unfold dBase
      rw [if_neg (by simp), if_neg (by simp), if_pos ⟨rfl, by rw [hb]; exact hx⟩]
      rfl
    refine ⟨doneT c (.var x), ⟨_, ?_, rfl⟩, rfl, fun k t _ => rfl⟩
    rw [kd_name (hB x hx)]
    unfold delta
    rcases hw with hw | ⟨_, hw⟩ <;> rw [hw]
    · show dTerm .word _ c = _
      unfold dTerm
      rw [if_neg (by simp)]; exact e
    · exact e
  | @neg a ws h ih =>
    intro hin c hb hw ho
    have hw : c.w = .term := by rcases hw with hw | ⟨h, _⟩; exact hw; omega
    obtain ⟨o1, o2, o3, o4⟩ := ho.1 rfl
    have e1 : delta (kd [45]) [45] c = .go { c with opened := .one kNeg :: c.opened, w := .base, words := [] } := by
      show delta .sign [45] c = _
      unfold delta
      rw [hw]
      show dTerm .sign [45] c = _
      unfold dTerm
      rw [if_pos ⟨rfl, rfl⟩]
    obtain ⟨c1, r1, w1, q1⟩ := ih hin { c with opened := .one kNeg :: c.opened, w := .base, words := [] } hb (.inr ⟨Nat.le_refl _, rfl⟩) ⟨(fun h => absurd h (by decide)), fun _ => by show kNeg ≠ kTimes; decide⟩
    refine ⟨c1, ⟨_, e1, r1⟩, w1, fun k t hf => ?_⟩
    have f1 := hf.1 (by omega)
    have f2 := hf.2 rfl
    rw [q1 k t ⟨fun _ => f1, (fun h => absurd h (by decide))⟩, dMore_mul f1, dMore_mul f1, join_no (mem1 (by show kNeg ≠ kTimes; decide)), join_no (c := doneT c a.neg) (mem1 o1), dMul_sum f2, dMul_sum f2,
      join_yes (o := .one kNeg) (r := c.opened) rfl (by show kNeg ∈ _; decide), join_no (c := doneT c a.neg) (mem3 o2 o3 o4)]
    rfl
  | @bin l o a b ws us hl h1 h2 ih1 ih2 =>
    intro hin c hb hw ho
    cases o with
    | times =>
      have hl : l ≤ 1 := hl
      have o1 : top c.opened ≠ kTimes := by
        rcases Nat.lt_or_ge l 1 with h | h
        · exact (ho.1 (by omega)).1
        · exact ho.2 (by omega)
      obtain ⟨c1, r1, w1, q1⟩ := ih1 hin.1 c hb (by rcases hw with hw | hw; exact .inl hw; exact .inr ⟨Nat.le_refl _, hw.2⟩) ⟨(fun h => absurd h (by decide)), fun _ => o1⟩
      have e2 : delta (kd [42]) [42] c1 = .go (pushed (doneT c a) kTimes .base) := by
        show delta .sign [42] c1 = _
        unfold delta
        rw [w1]
        show dMore .sign [42] c1 = _
        rw [q1 _ _ ⟨fun _ => by simp, (fun h => absurd h (by decide))⟩, dMore_mul (by simp), join_no (c := doneT c a) (mem1 o1)]
        unfold dMul
        rw [if_pos ⟨rfl, rfl⟩]
      obtain ⟨c3, r3, w3, q3⟩ := ih2 hin.2 (pushed (doneT c a) kTimes .base) hb (.inr ⟨by show 1 ≤ 2; omega, rfl⟩) ⟨(fun h => absurd h (by decide)), (fun h => absurd h (by decide))⟩
      refine ⟨c3, Runs.app r1 ⟨_, e2, r3⟩, w3, fun k t hf => ?_⟩
      have f1 := hf.1 (by omega)
      rw [q3 k t ⟨fun _ => f1, (fun h => absurd h (by decide))⟩, dMore_mul f1, dMore_mul f1, join_yes (o := .two kTimes a.data) (r := c.opened) rfl (by show kTimes ∈ _; decide), join_no (c := doneT c (.bin .times a b)) (mem1 o1)]
      rfl
    | plus =>
      have hl : l = 0 := by have : l ≤ 0 := hl; omega
      subst hl
      obtain ⟨o1, o2, o3, o4⟩ := ho.1 rfl
      have hw : c.w = .term := by rcases hw with hw | ⟨h, _⟩; exact hw; omega
      obtain ⟨c1, r1, w1, q1⟩ := ih1 hin.1 c hb (.inl hw) ⟨fun _ => ⟨o1, o2, o3, o4⟩, (fun h => absurd h (by decide))⟩
      have e2 : delta (kd [43]) [43] c1 = .go (pushed (doneT c a) kPlus .base) := by
        show delta .sign [43] c1 = _
        unfold delta
        rw [w1]
        show dMore .sign [43] c1 = _
        rw [q1 _ _ ⟨fun _ => by simp, fun _ => by simp⟩, dMore_mul (by simp), join_no (c := doneT c a) (mem1 o1), dMul_sum (by simp), join_no (c := doneT c a) (mem3 o2 o3 o4)]
        unfold dSum
        rw [if_pos ⟨rfl, rfl⟩]
      obtain ⟨c3, r3, w3, q3⟩ := ih2 hin.2 (pushed (doneT c a) kPlus .base) hb (.inr ⟨Nat.le_refl _, rfl⟩) ⟨(fun h => absurd h (by decide)), fun _ => by show kPlus ≠ kTimes; decide⟩
      refine ⟨c3, Runs.app r1 ⟨_, e2, r3⟩, w3, fun k t hf => ?_⟩
      have f1 := hf.1 (by omega)
      have f2 := hf.2 rfl
      rw [q3 k t ⟨fun _ => f1, (fun h => absurd h (by decide))⟩, dMore_mul f1, dMore_mul f1, join_no (c := doneT (pushed (doneT c a) kPlus .base) b) (mem1 (by show kPlus ≠ kTimes; decide)), join_no (c := doneT c (.bin .plus a b)) (mem1 o1), dMul_sum f2, dMul_sum f2,
        join_yes (o := .two kPlus a.data) (r := c.opened) rfl (by show kPlus ∈ _; decide), join_no (c := doneT c (.bin .plus a b)) (mem3 o2 o3 o4)]
      rfl
    | minus =>
      have hl : l = 0 := by have : l ≤ 0 := hl; omega
      subst hl
      obtain ⟨o1, o2, o3, o4⟩ := ho.1 rfl
      have hw : c.w = .term := by rcases hw with hw | ⟨h, _⟩; exact hw; omega
      obtain ⟨c1, r1, w1, q1⟩ := ih1 hin.1 c hb (.inl hw) ⟨fun _ => ⟨o1, o2, o3, o4⟩, (fun h => absurd h (by decide))⟩
      have e2 : delta (kd [45]) [45] c1 = .go (pushed (doneT c a) kMinus .base) := by
        show delta .sign [45] c1 = _
        unfold delta
        rw [w1]
        show dMore .sign [45] c1 = _
        rw [q1 _ _ ⟨fun _ => by simp, fun _ => by simp⟩, dMore_mul (by simp), join_no (c := doneT c a) (mem1 o1), dMul_sum (by simp), join_no (c := doneT c a) (mem3 o2 o3 o4)]
        unfold dSum
        rw [if_neg (by simp), if_pos ⟨rfl, rfl⟩]
      obtain ⟨c3, r3, w3, q3⟩ := ih2 hin.2 (pushed (doneT c a) kMinus .base) hb (.inr ⟨Nat.le_refl _, rfl⟩) ⟨(fun h => absurd h (by decide)), fun _ => by show kMinus ≠ kTimes; decide⟩
      refine ⟨c3, Runs.app r1 ⟨_, e2, r3⟩, w3, fun k t hf => ?_⟩
      have f1 := hf.1 (by omega)
      have f2 := hf.2 rfl
      rw [q3 k t ⟨fun _ => f1, (fun h => absurd h (by decide))⟩, dMore_mul f1, dMore_mul f1, join_no (c := doneT (pushed (doneT c a) kMinus .base) b) (mem1 (by show kMinus ≠ kTimes; decide)), join_no (c := doneT c (.bin .minus a b)) (mem1 o1), dMul_sum f2, dMul_sum f2,
        join_yes (o := .two kMinus a.data) (r := c.opened) rfl (by show kMinus ∈ _; decide), join_no (c := doneT c (.bin .minus a b)) (mem3 o2 o3 o4)]
      rfl
  | @pow l a n ws hl h ih =>
    intro hin c hb hw ho
    obtain ⟨c1, r1, w1, q1⟩ := ih hin.1 c hb (by rcases hw with hw | hw; exact .inl hw; exact .inr ⟨by omega, hw.2⟩) ⟨(fun h => absurd h (by decide)), (fun h => absurd h (by decide))⟩
    have e2 : delta (kd [94]) [94] c1 = .go { doneT c a with w := .expo } := by
      show delta .sign [94] c1 = _
      unfold delta
      rw [w1]
      show dMore .sign [94] c1 = _
      rw [q1 _ _ ⟨(fun h => absurd h (by decide)), (fun h => absurd h (by decide))⟩]
      unfold dMore
      rw [if_pos ⟨rfl, rfl, rfl⟩]
      rfl
    have e3 : delta (kd (dig n)) (dig n) { doneT c a with w := .expo } = .go { doneT c (.pow a n) with isBase := false } := by
      rw [kd_dig hin.2]
      unfold delta
      simp only
      rw [numOut_dig hin.2 (by omega)]
      rfl
    refine ⟨_, Runs.app r1 ⟨_, e2, _, e3, rfl⟩, rfl, fun k t hf => ?_⟩
    have f1 := hf.1 hl
    rw [dMore_mul f1, dMore_mul f1, join_base, dMul_base _ false true]
    have e : { join (doneT c (.pow a n)) [kTimes] with isBase := true } = join (doneT c (.pow a n)) [kTimes] := (join_base (doneT c (.pow a n)) [kTimes] true).symm
    rw [e]
end Mi
namespace Mi
open PySem
/-! ### sayings -/
theorem joins_len (hs : List T) : ∀ (O : List Op) (v : PyData), (joins hs O v).1.length ≤ O.length
  | [], v => Nat.le_refl _
  | o :: r, v => by
    unfold joins
    split
    · have := joins_len hs r (opVal o v); simp; omega
    · exact Nat.le_refl _
theorem joins_no {hs : List T} {O : List Op} {v : PyData} (h : top O ∉ hs) : joins hs O v = (O, v) := by
  cases O with
  | nil => rfl
  | cons o r =>
    have h : o.head ∉ hs := h
    unfold joins
    rw [if_neg h]
theorem joinAll_no {c : Co} {hs : List T} (h : top c.opened ∉ hs) : joinAll c hs = c := by
  unfold joinAll
  rw [joins_no h]
theorem join_len (c : Co) (hs : List T) : (join c hs).opened.length ≤ c.opened.length := by
  unfold join
  split
  · omega
  · rename_i o r e
    split
    · rw [e]; simp
    · omega
theorem joinAll_len (c : Co) (hs : List T) : (joinAll c hs).opened.length ≤ c.opened.length := joins_len hs c.opened c.value
theorem dEnd_congr {k : Kind} {t : T} {f g : Co → Out} {c : Co} (h : ∀ c', c'.opened.length < c.opened.length → f c' = g c') : dEnd k t f c = dEnd k t g c := by
  unfold dEnd
  split
  · rename_i e
    exact h _ (by rw [e]; simp)
  · rfl
  · rfl
theorem dAnd_congr {k : Kind} {t : T} {f g : Co → Out} {c : Co} (h : ∀ c', c'.opened.length < c.opened.length → f c' = g c') : dAnd k t f c = dAnd k t g c := by
  unfold dAnd dOr
  split
  · rfl
  · split
    · rfl
    · split
      · rfl
      · split
        · rfl
        · refine dEnd_congr fun c' hc => h c' (Nat.lt_of_lt_of_le hc ?_)
          exact Nat.le_trans (joinAll_len _ _) (join_len _ _)
theorem dJoined_fuel (k : Kind) (t : T) : ∀ (n m : Nat) (c : Co), c.opened.length < n → c.opened.length < m → dJoined k t n c = dJoined k t m c
  | 0, m, c, h, _ => by omega
  | n + 1, 0, c, _, h => by omega
  | n + 1, m + 1, c, h1, h2 => by
    unfold dJoined
    refine dAnd_congr fun c' hc => ?_
    have a := join_len (joinAll c [kNot]) [kAnd]
    have b := joinAll_len c [kNot]
    exact dJoined_fuel k t n m c' (by omega) (by omega)
def dJ (k : Kind) (t : T) (c : Co) : Out := dJoined k t (c.opened.length + 1) c
theorem dJ_of {k : Kind} {t : T} {n : Nat} {c : Co} (h : c.opened.length < n) : dJoined k t n c = dJ k t c := dJoined_fuel k t _ _ c h (by omega)
theorem dJ_step (k : Kind) (t : T) (c : Co) : dJ k t c = dAnd k t (dJ k t) (join (joinAll c [kNot]) [kAnd]) := by
  unfold dJ
  rw [dJoined]
  refine dAnd_congr fun c' hc => ?_
  have a := join_len (joinAll c [kNot]) [kAnd]
  have b := joinAll_len c [kNot]
  exact dJ_of (by omega)
theorem delta_joined (k : Kind) (t : T) (c : Co) (h : c.w = .joined) : delta k t c = dJ k t c := by
  unfold delta
  rw [h]
  rfl
/-- what may follow a saying -/
def SF (l : Nat) (k : Kind) (t : T) : Prop := (k = .fin ∨ (k = .word ∧ t ∈ four) ∨ (k = .sign ∧ t = [93])) ∧ (l ≤ 1 → ¬ (k = .word ∧ t = kAnd)) ∧ (l = 0 → ¬ (k = .word ∧ t ∈ four))
def UT (O : List Op) : Prop := (top O ≠ kTimes ∧ top O ≠ kPlus ∧ top O ≠ kMinus ∧ top O ≠ kNeg) ∧ top O ≠ [40] ∧ top O ∉ RELS
def OS (l : Nat) (O : List Op) : Prop := UT O ∧ (l ≤ 2 → top O ≠ kNot ∧ top O ≠ kAnd) ∧ (l ≤ 1 → top O ≠ kOr)
theorem dTerm_w {k : Kind} {t : T} (c : Co) (w : W) : dTerm k t { c with w := w } = dTerm k t c := by
  unfold dTerm dBase
  rfl
theorem unit_term {B : List T} (hB : ∀ x ∈ B, NameOk x) {k : Kind} {t : T} {c c' : Co} (hb : c.bound = B) (h : dTerm k t { c with words := [kNot, kAll, kSome] } = .go c') : dUnit k t c = .go c' := by
  have no : ∀ x ∈ WORDS, k = .word → t = x → False := by
    intro x hx hk ht
    subst hk ht
    unfold dTerm dBase at h
    simp only [reduceCtorEq, false_and, if_false, true_and, stopAt] at h
    split at h
    · rename_i hm
      exact (hB t (hb ▸ hm)).no hx
    · cases h
  unfold dUnit
  rw [if_neg, if_neg]
  · exact h
  · rintro ⟨h1, h2 | h2⟩
    · exact no kAll (by decide) h1 h2
    · exact no kSome (by decide) h1 h2
  · rintro (⟨h1, h2⟩ | ⟨h1, h2⟩)
    · exact no kNot (by decide) h1 h2
    · subst h1 h2
      rw [term_off (.inl rfl) (by simp) (by simp)] at h
      cases h
theorem first_runs {B : List T} (hB : ∀ x ∈ B, NameOk x) {a : Tm} {ws : List T} (h : TTok 0 a ws) (hin : a.In B) (c : Co) (hb : c.bound = B) (hw : c.w = .unit) (ho : OT 0 c.opened) :
    ∃ c', Runs c ws c' ∧ c'.w = .more ∧ ∀ k t, TF 0 k t → dMore k t c' = dMore k t (doneT c a) := by
  obtain ⟨c', r, w, q⟩ := term_runs hB h hin { c with w := .term, words := [kNot, kAll, kSome] } hb (.inl rfl) ho
  refine ⟨c', ?_, w, q⟩
  cases ws with
  | nil =>
    have r : { c with w := .term, words := [kNot, kAll, kSome] } = c' := r
    rw [← r] at w; cases w
  | cons t ws =>
    obtain ⟨c1, e, r⟩ := r
    refine ⟨c1, ?_, r⟩
    have e : dTerm (kd t) t { { c with words := [kNot, kAll, kSome] } with w := .term } = .go c1 := e
    rw [dTerm_w] at e
    unfold delta
    rw [hw]
    exact unit_term hB hb e
theorem kd_rel {r : T} (h : r ∈ RELS) : kd r = .sign := by
  simp only [RELS, List.mem_cons, List.not_mem_nil, or_false] at h
  rcases h with h | h | h | h | h | h <;> rw [h] <;> rfl
theorem rel_top {r : T} (h : r ∈ RELS) : (r ≠ kTimes ∧ r ≠ kPlus ∧ r ≠ kMinus ∧ r ≠ kNeg) ∧ r ≠ [40] := by
  simp only [RELS, List.mem_cons, List.not_mem_nil, or_false] at h
  rcases h with h | h | h | h | h | h <;> rw [h] <;> decide
theorem SF.noMul {l : Nat} {k : Kind} {t : T} (h : SF l k t) : ¬ (k = .sign ∧ (t = [94] ∨ t = [42] ∨ t = [43] ∨ t = [45])) := by
  rintro ⟨rfl, h2⟩
  rcases h.1 with h | ⟨h, _⟩ | ⟨_, h⟩
  · cases h
  · cases h
  · subst h; revert h2; decide
theorem dSum_rel {k : Kind} {t : T} {l : Nat} (h : SF l k t) {r : T} (hr : r ∈ RELS) (B : List T) (O : List Op) (u v : PyData) : dSum k t ⟨B, .two r u :: O, .more, v, [], true⟩ = dJ k t ⟨B, O, .joined, trip r u v, [], true⟩ := by
  have n := h.noMul
  unfold dSum
  rw [if_neg (fun q => n ⟨q.1, by simp [q.2]⟩), if_neg (fun q => n ⟨q.1, by simp [q.2]⟩), if_neg (show ¬ top (Op.two r u :: O) = [40] from (rel_top hr).2), if_pos (show top (Op.two r u :: O) ∈ RELS from hr), join_yes (o := .two r u) (r := O) rfl hr]
  exact dJ_of (by simp; omega)
theorem pushed_join {c : Co} {h : T} {w : W} : (pushed c h w).opened = .two h c.value :: c.opened := rfl
theorem mem2 {x a b : T} (h1 : x ≠ a) (h2 : x ≠ b) : x ∉ [a, b] := by simp [h1, h2]
theorem saying_runs : ∀ {l : Nat} {f : Sy} {ws : List T}, STok l f ws → ∀ {B : List T}, (∀ x ∈ B, NameOk x) → f.In B → ∀ c : Co, c.bound = B → c.w = .unit → OS l c.opened →
    ∃ c', Runs c ws c' ∧ ∀ k t, SF l k t → delta k t c' = dJ k t (doneS c f) := by
  intro l f ws h
  induction h with
  | @paren l f ws h ih =>
    intro B hB hin c hb hw ho
    have e1 : delta (kd [91]) [91] c = .go { c with opened := .one [91] :: c.opened, w := .unit } := by
      show delta .sign [91] c = _
      unfold delta
      rw [hw]
      show dUnit .sign [91] c = _
      unfold dUnit
      rw [if_pos (.inr ⟨rfl, rfl⟩)]
    obtain ⟨c1, r1, q1⟩ := ih hB hin { c with opened := .one [91] :: c.opened, w := .unit } hb rfl ⟨⟨⟨by show [91] ≠ kTimes; decide, by show [91] ≠ kPlus; decide, by show [91] ≠ kMinus; decide, by show [91] ≠ kNeg; decide⟩, by show [91] ≠ [40]; decide, by show [91] ∉ RELS; decide⟩, fun _ => ⟨by show [91] ≠ kNot; decide, by show [91] ≠ kAnd; decide⟩, fun _ => by show [91] ≠ kOr; decide⟩
    have e2 : delta (kd [93]) [93] c1 = .go (doneS c f) := by
      show delta .sign [93] c1 = _
      rw [q1 _ _ ⟨.inr (.inr ⟨rfl, rfl⟩), fun _ => by simp, fun _ => by simp⟩, dJ_step, joinAll_no (mem1 (by show [91] ≠ kNot; decide)), join_no (mem1 (by show [91] ≠ kAnd; decide))]
      unfold dAnd
      rw [if_neg (by simp), join_no (mem1 (by show [91] ≠ kOr; decide))]
      unfold dOr
      rw [if_neg (by simp), if_neg (by simp), if_neg (by simp), joinAll_no (mem2 (by show [91] ≠ kImp; decide) (by show [91] ≠ kIff; decide))]
      unfold dEnd
      show (if (Op.one [91]).head = [91] ∧ Kind.sign = Kind.sign ∧ [93] = [93] then _ else _) = _
      rw [if_pos ⟨rfl, rfl, rfl⟩]
      rfl
    exact ⟨doneS c f, Runs.app (ws := [91] :: ws) ⟨_, e1, r1⟩ ⟨_, e2, rfl⟩, fun k t _ => delta_joined _ _ _ rfl⟩
  | @rel l r a b ws us h1 h2 =>
    intro B hB hin c hb hw ho
    obtain ⟨hr, ha, hb'⟩ := hin
    obtain ⟨⟨o1, o2, o3, o4⟩, o5, o6⟩ := ho.1
    obtain ⟨⟨p1, p2, p3, p4⟩, p5⟩ := rel_top hr
    obtain ⟨c1, r1, w1, q1⟩ := first_runs hB h1 ha c hb hw ⟨fun _ => ⟨o1, o2, o3, o4⟩, fun h => by cases h⟩
    have f1 : ¬ (Kind.sign = .sign ∧ r = [94]) := by rintro ⟨_, e⟩; subst e; revert hr; decide
    have f2 : ¬ (Kind.sign = .sign ∧ r = [42]) := by rintro ⟨_, e⟩; subst e; revert hr; decide
    have f3 : ¬ (Kind.sign = .sign ∧ r = [43]) := by rintro ⟨_, e⟩; subst e; revert hr; decide
    have f4 : ¬ (Kind.sign = .sign ∧ r = [45]) := by rintro ⟨_, e⟩; subst e; revert hr; decide
    have e2 : delta (kd r) r c1 = .go (pushed (doneT c a) r .term) := by
      rw [kd_rel hr]
      unfold delta
      rw [w1]
      show dMore .sign r c1 = _
      rw [q1 _ _ ⟨fun _ => f1, fun _ => f2⟩, dMore_mul f1, join_no (c := doneT c a) (mem1 o1), dMul_sum f2, join_no (c := doneT c a) (mem3 o2 o3 o4)]
      unfold dSum
      rw [if_neg f3, if_neg f4, if_neg (show ¬ top (doneT c a).opened = [40] from o5), if_neg (show ¬ top (doneT c a).opened ∈ RELS from o6), if_pos ⟨rfl, hr⟩]
    obtain ⟨c3, r3, w3, q3⟩ := term_runs hB h2 hb' (pushed (doneT c a) r .term) hb (.inl rfl) ⟨fun _ => ⟨p1, p2, p3, p4⟩, fun h => by cases h⟩
    refine ⟨c3, Runs.app r1 ⟨_, e2, r3⟩, fun k t hf => ?_⟩
    have n := hf.noMul
    unfold delta
    rw [w3]
    show dMore k t c3 = _
    rw [q3 k t ⟨fun _ q => n ⟨q.1, .inl q.2⟩, fun _ q => n ⟨q.1, .inr (.inl q.2)⟩⟩, dMore_mul (fun q => n ⟨q.1, .inl q.2⟩), join_no (c := doneT (pushed (doneT c a) r .term) b) (mem1 p1), dMul_sum (fun q => n ⟨q.1, .inr (.inl q.2)⟩), join_no (c := doneT (pushed (doneT c a) r .term) b) (mem3 p2 p3 p4)]
    exact dSum_rel hf hr _ _ _ _
  | @not l f ws h ih =>
    intro B hB hin c hb hw ho
    have e1 : delta (kd kNot) kNot c = .go { c with opened := .one kNot :: c.opened, w := .unit } := by
      show delta .word kNot c = _
      unfold delta
      rw [hw]
      show dUnit .word kNot c = _
      unfold dUnit
      rw [if_pos (.inl ⟨rfl, rfl⟩)]
    obtain ⟨c1, r1, q1⟩ := ih hB hin { c with opened := .one kNot :: c.opened, w := .unit } hb rfl ⟨⟨⟨by show kNot ≠ kTimes; decide, by show kNot ≠ kPlus; decide, by show kNot ≠ kMinus; decide, by show kNot ≠ kNeg; decide⟩, by show kNot ≠ [40]; decide, by show kNot ∉ RELS; decide⟩, (fun h => absurd h (by decide)), (fun h => absurd h (by decide))⟩
    refine ⟨c1, ⟨_, e1, r1⟩, fun k t hf => ?_⟩
    rw [q1 k t ⟨hf.1, (fun h => absurd h (by decide)), (fun h => absurd h (by decide))⟩, dJ_step, dJ_step]
    rfl
  | @bin l o f g ws us hl h1 h2 ih1 ih2 =>
    intro B hB hin c hb hw ho
    cases o with
    | and =>
      have hl : l ≤ 2 := hl
      obtain ⟨o1, o2⟩ := ho.2.1 hl
      obtain ⟨c1, r1, q1⟩ := ih1 hB hin.1 c hb hw ⟨ho.1, fun _ => ⟨o1, o2⟩, (fun h => absurd h (by decide))⟩
      have e2 : delta (kd kAnd) kAnd c1 = .go (pushed (doneS c f) kAnd .unit) := by
        show delta .word kAnd c1 = _
        rw [q1 _ _ ⟨.inr (.inl ⟨rfl, by decide⟩), (fun h => absurd h (by decide)), (fun h => absurd h (by decide))⟩, dJ_step, joinAll_no (c := doneS c f) (mem1 o1), join_no (c := doneS c f) (mem1 o2)]
        unfold dAnd
        rw [if_pos ⟨rfl, rfl⟩]
      obtain ⟨c3, r3, q3⟩ := ih2 hB hin.2 (pushed (doneS c f) kAnd .unit) hb rfl ⟨⟨⟨by show kAnd ≠ kTimes; decide, by show kAnd ≠ kPlus; decide, by show kAnd ≠ kMinus; decide, by show kAnd ≠ kNeg; decide⟩, by show kAnd ≠ [40]; decide, by show kAnd ∉ RELS; decide⟩, (fun h => absurd h (by decide)), (fun h => absurd h (by decide))⟩
      refine ⟨c3, Runs.app r1 ⟨_, e2, r3⟩, fun k t hf => ?_⟩
      rw [q3 k t ⟨hf.1, (fun h => absurd h (by decide)), (fun h => absurd h (by decide))⟩, dJ_step, dJ_step, joinAll_no (c := doneS (pushed (doneS c f) kAnd .unit) g) (mem1 (by show kAnd ≠ kNot; decide)), join_yes (o := .two kAnd f.data) (r := c.opened) rfl (by show kAnd ∈ _; decide),
        joinAll_no (c := doneS c (.bin .and f g)) (mem1 o1), join_no (c := doneS c (.bin .and f g)) (mem1 o2)]
      rfl
    | or =>
      have hl : l ≤ 1 := hl
      obtain ⟨o1, o2⟩ := ho.2.1 (by omega)
      have o3 := ho.2.2 hl
      obtain ⟨c1, r1, q1⟩ := ih1 hB hin.1 c hb hw ⟨ho.1, fun _ => ⟨o1, o2⟩, fun _ => o3⟩
      have e2 : delta (kd kOr) kOr c1 = .go (pushed (doneS c f) kOr .unit) := by
        show delta .word kOr c1 = _
        rw [q1 _ _ ⟨.inr (.inl ⟨rfl, by decide⟩), fun _ => by decide, (fun h => absurd h (by decide))⟩, dJ_step, joinAll_no (c := doneS c f) (mem1 o1), join_no (c := doneS c f) (mem1 o2)]
        unfold dAnd
        rw [if_neg (by decide), join_no (c := doneS c f) (mem1 o3)]
        unfold dOr
        rw [if_pos ⟨rfl, rfl⟩]
      obtain ⟨c3, r3, q3⟩ := ih2 hB hin.2 (pushed (doneS c f) kOr .unit) hb rfl ⟨⟨⟨by show kOr ≠ kTimes; decide, by show kOr ≠ kPlus; decide, by show kOr ≠ kMinus; decide, by show kOr ≠ kNeg; decide⟩, by show kOr ≠ [40]; decide, by show kOr ∉ RELS; decide⟩, fun _ => ⟨by show kOr ≠ kNot; decide, by show kOr ≠ kAnd; decide⟩, (fun h => absurd h (by decide))⟩
      refine ⟨c3, Runs.app r1 ⟨_, e2, r3⟩, fun k t hf => ?_⟩
      have f1 := hf.2.1 hl
      rw [q3 k t ⟨hf.1, (fun h => absurd h (by decide)), (fun h => absurd h (by decide))⟩, dJ_step, dJ_step, joinAll_no (c := doneS (pushed (doneS c f) kOr .unit) g) (mem1 (by show kOr ≠ kNot; decide)), join_no (c := doneS (pushed (doneS c f) kOr .unit) g) (mem1 (by show kOr ≠ kAnd; decide)),
        joinAll_no (c := doneS c (.bin .or f g)) (mem1 o1), join_no (c := doneS c (.bin .or f g)) (mem1 o2)]
      unfold dAnd
      rw [if_neg f1, if_neg f1, join_yes (o := .two kOr f.data) (r := c.opened) rfl (by show kOr ∈ _; decide), join_no (c := doneS c (.bin .or f g)) (mem1 o3)]
      rfl
    | imp =>
      have hl : l = 0 := by have : l ≤ 0 := hl; omega
      subst hl
      obtain ⟨o1, o2⟩ := ho.2.1 (by omega)
      have o3 := ho.2.2 (by omega)
      obtain ⟨c1, r1, q1⟩ := ih1 hB hin.1 c hb hw ⟨ho.1, fun _ => ⟨o1, o2⟩, fun _ => o3⟩
      have e2 : delta (kd kImp) kImp c1 = .go (pushed (doneS c f) kImp .unit) := by
        show delta .word kImp c1 = _
        rw [q1 _ _ ⟨.inr (.inl ⟨rfl, by decide⟩), fun _ => by decide, (fun h => absurd h (by decide))⟩, dJ_step, joinAll_no (c := doneS c f) (mem1 o1), join_no (c := doneS c f) (mem1 o2)]
        unfold dAnd
        rw [if_neg (by decide), join_no (c := doneS c f) (mem1 o3)]
        unfold dOr
        rw [if_neg (by decide), if_pos ⟨rfl, rfl⟩]
      obtain ⟨c3, r3, q3⟩ := ih2 hB hin.2 (pushed (doneS c f) kImp .unit) hb rfl ⟨⟨⟨by show kImp ≠ kTimes; decide, by show kImp ≠ kPlus; decide, by show kImp ≠ kMinus; decide, by show kImp ≠ kNeg; decide⟩, by show kImp ≠ [40]; decide, by show kImp ∉ RELS; decide⟩, fun _ => ⟨by show kImp ≠ kNot; decide, by show kImp ≠ kAnd; decide⟩, fun _ => by show kImp ≠ kOr; decide⟩
      refine ⟨c3, Runs.app r1 ⟨_, e2, r3⟩, fun k t hf => ?_⟩
      have f1 := hf.2.1 (by omega)
      have f0 := hf.2.2 rfl
      have g2 : ¬ (k = .word ∧ t = kOr) := fun q => f0 ⟨q.1, by rw [q.2]; decide⟩
      have g3 : ¬ (k = .word ∧ t = kImp) := fun q => f0 ⟨q.1, by rw [q.2]; decide⟩
      have g4 : ¬ (k = .word ∧ t = kIff) := fun q => f0 ⟨q.1, by rw [q.2]; decide⟩
      rw [q3 k t hf, dJ_step, dJ_step, joinAll_no (c := doneS (pushed (doneS c f) kImp .unit) g) (mem1 (by show kImp ≠ kNot; decide)), join_no (c := doneS (pushed (doneS c f) kImp .unit) g) (mem1 (by show kImp ≠ kAnd; decide)),
        joinAll_no (c := doneS c (.bin .imp f g)) (mem1 o1), join_no (c := doneS c (.bin .imp f g)) (mem1 o2)]
      unfold dAnd
      rw [if_neg f1, if_neg f1, join_no (c := doneS (pushed (doneS c f) kImp .unit) g) (mem1 (by show kImp ≠ kOr; decide)), join_no (c := doneS c (.bin .imp f g)) (mem1 o3)]
      unfold dOr
      rw [if_neg g2, if_neg g3, if_neg g4, if_neg g2, if_neg g3, if_neg g4]
      rfl
    | iff =>
      have hl : l = 0 := by have : l ≤ 0 := hl; omega
      subst hl
      obtain ⟨o1, o2⟩ := ho.2.1 (by omega)
      have o3 := ho.2.2 (by omega)
      obtain ⟨c1, r1, q1⟩ := ih1 hB hin.1 c hb hw ⟨ho.1, fun _ => ⟨o1, o2⟩, fun _ => o3⟩
      have e2 : delta (kd kIff) kIff c1 = .go (pushed (doneS c f) kIff .unit) := by
        show delta .word kIff c1 = _
        rw [q1 _ _ ⟨.inr (.inl ⟨rfl, by decide⟩), fun _ => by decide, (fun h => absurd h (by decide))⟩, dJ_step, joinAll_no (c := doneS c f) (mem1 o1), join_no (c := doneS c f) (mem1 o2)]
        unfold dAnd
        rw [if_neg (by decide), join_no (c := doneS c f) (mem1 o3)]
        unfold dOr
        rw [if_neg (by decide), if_neg (by decide), if_pos ⟨rfl, rfl⟩]
      obtain ⟨c3, r3, q3⟩ := ih2 hB hin.2 (pushed (doneS c f) kIff .unit) hb rfl ⟨⟨⟨by show kIff ≠ kTimes; decide, by show kIff ≠ kPlus; decide, by show kIff ≠ kMinus; decide, by show kIff ≠ kNeg; decide⟩, by show kIff ≠ [40]; decide, by show kIff ∉ RELS; decide⟩, fun _ => ⟨by show kIff ≠ kNot; decide, by show kIff ≠ kAnd; decide⟩, fun _ => by show kIff ≠ kOr; decide⟩
      refine ⟨c3, Runs.app r1 ⟨_, e2, r3⟩, fun k t hf => ?_⟩
      have f1 := hf.2.1 (by omega)
      have f0 := hf.2.2 rfl
      have g2 : ¬ (k = .word ∧ t = kOr) := fun q => f0 ⟨q.1, by rw [q.2]; decide⟩
      have g3 : ¬ (k = .word ∧ t = kImp) := fun q => f0 ⟨q.1, by rw [q.2]; decide⟩
      have g4 : ¬ (k = .word ∧ t = kIff) := fun q => f0 ⟨q.1, by rw [q.2]; decide⟩
      rw [q3 k t hf, dJ_step, dJ_step, joinAll_no (c := doneS (pushed (doneS c f) kIff .unit) g) (mem1 (by show kIff ≠ kNot; decide)), join_no (c := doneS (pushed (doneS c f) kIff .unit) g) (mem1 (by show kIff ≠ kAnd; decide)),
        joinAll_no (c := doneS c (.bin .iff f g)) (mem1 o1), join_no (c := doneS c (.bin .iff f g)) (mem1 o2)]
      unfold dAnd
      rw [if_neg f1, if_neg f1, join_no (c := doneS (pushed (doneS c f) kIff .unit) g) (mem1 (by show kIff ≠ kOr; decide)), join_no (c := doneS c (.bin .iff f g)) (mem1 o3)]
      unfold dOr
      rw [if_neg g2, if_neg g3, if_neg g4, if_neg g2, if_neg g3, if_neg g4]
      rfl
  | @quant q x f ws h ih =>
    intro B hB hin c hb hw ho
    obtain ⟨hx, hf⟩ := hin
    have hkq : kd (qName q) = .word := by cases q <;> rfl
    have e1 : delta (kd (qName q)) (qName q) c = .go { c with w := .name (qName q) [] } := by
      rw [hkq]
      unfold delta
      rw [hw]
      show dUnit .word (qName q) c = _
      unfold dUnit
      rw [if_neg (by cases q <;> decide), if_pos ⟨rfl, by cases q <;> decide⟩]
    have e2 : delta (kd x) x { c with w := .name (qName q) [] } = .go { c with w := .comma (qName q) [x] } := by
      rw [kd_name hx]
      unfold delta
      simp only
      rw [if_neg (by simp), if_neg (by have := hx.len; omega), if_neg hx.no]
      rfl
    have e3 : delta (kd [58]) [58] { c with w := .comma (qName q) [x] } = .go { c with opened := .quant (qName q) [x] c.bound.length :: c.opened, bound := c.bound ++ [x], w := .unit } := by
      show delta .sign [58] _ = _
      unfold delta
      simp only
      rw [if_neg (show ¬ (True ∧ ([58] : T) = [44]) by decide), if_pos (show True ∧ True from ⟨trivial, trivial⟩)]
    have hB' : ∀ y ∈ B ++ [x], NameOk y := by
      intro y hy
      rcases List.mem_append.mp hy with hy | hy
      · exact hB y hy
      · simp at hy; subst hy; exact hx
    have ht : top (.quant (qName q) [x] c.bound.length :: c.opened) = qName q := rfl
    obtain ⟨c1, r1, q1⟩ := ih hB' hf { c with opened := .quant (qName q) [x] c.bound.length :: c.opened, bound := c.bound ++ [x], w := .unit } (by show c.bound ++ [x] = B ++ [x]; rw [hb]) rfl
      ⟨⟨⟨by show qName q ≠ kTimes; cases q <;> decide, by show qName q ≠ kPlus; cases q <;> decide, by show qName q ≠ kMinus; cases q <;> decide, by show qName q ≠ kNeg; cases q <;> decide⟩, by show qName q ≠ [40]; cases q <;> decide, by show qName q ∉ RELS; cases q <;> decide⟩, fun _ => ⟨by show qName q ≠ kNot; cases q <;> decide, by show qName q ≠ kAnd; cases q <;> decide⟩, fun _ => by show qName q ≠ kOr; cases q <;> decide⟩
    refine ⟨c1, ⟨_, e1, _, e2, _, e3, r1⟩, fun k t hfo => ?_⟩
    have f1 := hfo.2.1 (by omega)
    have f0 := hfo.2.2 rfl
    have g2 : ¬ (k = .word ∧ t = kOr) := fun q => f0 ⟨q.1, by rw [q.2]; decide⟩
    have g3 : ¬ (k = .word ∧ t = kImp) := fun q => f0 ⟨q.1, by rw [q.2]; decide⟩
    have g4 : ¬ (k = .word ∧ t = kIff) := fun q => f0 ⟨q.1, by rw [q.2]; decide⟩
    rw [q1 k t hfo, dJ_step, joinAll_no (mem1 (by show qName q ≠ kNot; cases q <;> decide)), join_no (mem1 (by show qName q ≠ kAnd; cases q <;> decide))]
    unfold dAnd
    rw [if_neg f1, join_no (mem1 (by show qName q ≠ kOr; cases q <;> decide))]
    unfold dOr
    rw [if_neg g2, if_neg g3, if_neg g4, joinAll_no (mem2 (by show qName q ≠ kImp; cases q <;> decide) (by show qName q ≠ kIff; cases q <;> decide))]
    have e : (c.bound ++ [x]).take c.bound.length = c.bound := by simp
    show dJ k t ⟨(c.bound ++ [x]).take c.bound.length, c.opened, .joined, nest (qName q) [x] f.data, [], true⟩ = _
    rw [e]
    rfl
/-- the tokens of a text -/
inductive Lexes (t : T) : Nat → List T → Prop
  | nil {a} : tokenAt t a = ⟨.fin, [], t.length⟩ → Lexes t a []
  | cons {a w p ws} : tokenAt t a = ⟨kd w, w, p⟩ → 0 < w.length → Lexes t (p + w.length) ws → Lexes t a (w :: ws)
theorem parse_runs {t : T} : ∀ {ws : List T} {a : Nat} {c c' : Co} {n : Nat} {v : PyData}, Lexes t a ws → Runs c ws c' → delta .fin [] c' = .done v → a ≤ t.length → t.length - a < n → parse t n c (tokenAt t a) = .read v
  | _, a, c, c', 0, v, _, _, _, _, hn => by omega
  | [], a, c, c', n + 1, v, .nil h, r, hd, ha, hn => by
    cases r
    rw [h]
    unfold parse
    rw [hd]
  | w :: ws, a, c, c', n + 1, v, .cons h hw hl, ⟨c1, e, r⟩, hd, ha, hn => by
    have h1 := tokenAt_place t a
    have h2 := runEnd_ge (p := isB) (t := t) (a := a)
    have h3 := tokenAt_end (t := t) (a := a) ha
    rw [h] at h1 h3 ⊢
    simp only at h1 h3
    unfold parse
    simp only [e]
    exact parse_runs hl r hd (by omega) (by omega)
/-- A TEXT OF A SAYING IS READ -/
theorem settle_saying {t : T} {free : List T} {f : Sy} {ws : List T} (hs : STok 0 f ws) (hB : ∀ x ∈ free, NameOk x) (hin : f.In free) (hl : Lexes t 0 ws) : settle t free = .read f.data := by
  obtain ⟨c', r, q⟩ := saying_runs hs hB hin (start free) rfl rfl ⟨⟨⟨by show ([] : T) ≠ kTimes; decide, by show ([] : T) ≠ kPlus; decide, by show ([] : T) ≠ kMinus; decide, by show ([] : T) ≠ kNeg; decide⟩, by show ([] : T) ≠ [40]; decide, by show ([] : T) ∉ RELS; decide⟩, fun _ => ⟨by show ([] : T) ≠ kNot; decide, by show ([] : T) ≠ kAnd; decide⟩, fun _ => by show ([] : T) ≠ kOr; decide⟩
  refine parse_runs hl r ?_ (by omega) (by omega)
  rw [q _ _ ⟨.inl rfl, fun _ => by simp, fun _ => by simp⟩]
  rfl
end Mi
namespace Mi
open PySem
/-! ### the result from a place on, with enough turns -/
theorem parse_fuel (t : T) : ∀ (n m : Nat) (c : Co) (a : Nat), a ≤ t.length → t.length - a < n → t.length - a < m → parse t n c (tokenAt t a) = parse t m c (tokenAt t a)
  | 0, m, c, a, ha, h1, h2 => by omega
  | n + 1, 0, c, a, ha, h1, h2 => by omega
  | n + 1, m + 1, c, a, ha, h1, h2 => by
    have hend := tokenAt_end (t := t) ha
    have hra := runEnd_ge (p := isB) (t := t) (a := a)
    rw [← tokenAt_place] at hra
    unfold parse
    cases ho : delta (tokenAt t a).kind (tokenAt t a).tok c with
    | stop off => rfl
    | done v => rfl
    | go c2 =>
      have hpos : 0 < (tokenAt t a).tok.length := by
        by_cases hr : t.drop (runEnd isB t a) = []
        · exact absurd (show (tokenAt t a).kind = .fin by unfold tokenAt; rw [hr]; rfl) (delta_go ho)
        · exact head_pos hr
      exact parse_fuel t n m c2 _ hend (by omega) (by omega)
/-- a token of the text -/
def IsAt (t : T) (k : Lk) : Prop := ∃ a, a ≤ t.length ∧ k = tokenAt t a
theorem IsAt.end_ {t : T} {k : Lk} (h : IsAt t k) : k.place + k.tok.length ≤ t.length := by
  obtain ⟨a, ha, rfl⟩ := h
  exact tokenAt_end ha
theorem IsAt.pos {t : T} {k : Lk} (h : IsAt t k) (hk : k.kind ≠ .fin) : 0 < k.tok.length := by
  obtain ⟨a, ha, rfl⟩ := h
  by_cases hr : t.drop (runEnd isB t a) = []
  · exact absurd (show (tokenAt t a).kind = .fin by unfold tokenAt; rw [hr]; rfl) hk
  · exact head_pos hr
def next (t : T) (k : Lk) : Lk := tokenAt t (k.place + k.tok.length)
theorem IsAt.next {t : T} {k : Lk} (h : IsAt t k) : IsAt t (next t k) := ⟨_, h.end_, rfl⟩
theorem next_place {t : T} {k : Lk} : k.place + k.tok.length ≤ (next t k).place := by
  unfold next
  rw [tokenAt_place]; exact runEnd_ge
def pz (t : T) (c : Co) (k : Lk) : Res := parse t (t.length + 1) c k
theorem pz_of {t : T} {c : Co} {a n : Nat} (ha : a ≤ t.length) (h : t.length - a < n) : parse t n c (tokenAt t a) = pz t c (tokenAt t a) := parse_fuel t _ _ c a ha h (by omega)
theorem pz_stop {t : T} {c : Co} {k : Lk} {off : Nat} (h : delta k.kind k.tok c = .stop off) : pz t c k = .unread (k.place + off) := by
  unfold pz parse
  rw [h]
theorem pz_done {t : T} {c : Co} {k : Lk} {v : PyData} (h : delta k.kind k.tok c = .done v) : pz t c k = .read v := by
  unfold pz parse
  rw [h]
theorem pz_go {t : T} {c c' : Co} {k : Lk} (hk : IsAt t k) (h : delta k.kind k.tok c = .go c') : pz t c k = pz t c' (next t k) := by
  have hp := hk.pos (delta_go h)
  have he := hk.end_
  unfold pz
  rw [parse]
  rw [h]
  exact parse_fuel t _ _ c' _ he (by omega) (by omega)
theorem pz_same {t : T} {c c' : Co} {k : Lk} (h : delta k.kind k.tok c = delta k.kind k.tok c') : pz t c k = pz t c' k := by
  unfold pz
  rw [parse, parse, h]
theorem settle_pz (t : T) (free : List T) : settle t free = pz t (start free) (tokenAt t 0) := rfl

/-! ### what is read is a saying -/
inductive TermD : PyData → Prop
  | num {n : Nat} : n ≤ 999999 → TermD (pair kNumber (.int n))
  | var {x : T} : NameOk x → TermD (pair kLetter (str x))
  | neg {a} : TermD a → TermD (pair kNeg a)
  | bin {h a b} : h ∈ [kPlus, kMinus, kTimes] → TermD a → TermD b → TermD (trip h a b)
  | pow {a} {n : Nat} : TermD a → n ≤ 9 → TermD (trip kPower a (.int n))
inductive SayD : PyData → Prop
  | rel {r a b} : r ∈ RELS → TermD a → TermD b → SayD (trip r a b)
  | not {f} : SayD f → SayD (pair kNot f)
  | bin {h f g} : h ∈ four → SayD f → SayD g → SayD (trip h f g)
  | quant {h x f} : h ∈ [kAll, kSome] → NameOk x → SayD f → SayD (trip h (str x) f)
def OpOk : Op → Prop
  | .one h => h ∈ [kNot, [91], kNeg, [40]]
  | .two h u => (h ∈ [kPlus, kMinus, kTimes] ∧ TermD u) ∨ (h ∈ RELS ∧ TermD u) ∨ (h ∈ four ∧ SayD u)
  | .quant h ns _ => h ∈ [kAll, kSome] ∧ ∀ x ∈ ns, NameOk x
structure CoOk (c : Co) : Prop where
  bound : ∀ x ∈ c.bound, NameOk x
  ops : ∀ o ∈ c.opened, OpOk o
  term : c.w = .more ∨ c.w = .expo → TermD c.value
  say : c.w = .joined → SayD c.value
  nm : ∀ h ns, c.w = .name h ns ∨ c.w = .comma h ns → h ∈ [kAll, kSome] ∧ ∀ x ∈ ns, NameOk x
/-- a token as it comes -/
def LkOk (k : Kind) (t : T) : Prop := (k = .word → (∃ c r, t = c :: r ∧ isL c = true) ∧ ∀ c ∈ t, (isL c || isF c) = true) ∧ (k = .number → t ≠ [] ∧ ∀ c ∈ t, isF c = true)
theorem mem_takeWhile {p : Nat → Bool} : ∀ {r : T} {c : Nat}, c ∈ r.takeWhile p → p c = true
  | d :: r, c, h => by
    rw [List.takeWhile_cons] at h
    split at h
    · rcases List.mem_cons.mp h with e | h
      · subst e; assumption
      · exact mem_takeWhile h
    · cases h
theorem head_ok (r : T) (a : Nat) : LkOk (head r a).kind (head r a).tok := by
  cases r with
  | nil => exact ⟨(fun h => by cases h), (fun h => by cases h)⟩
  | cons c q =>
    rw [head_cons]
    by_cases h1 : isL c = true
    · rw [if_pos h1]
      refine ⟨fun _ => ⟨⟨c, q.takeWhile (fun c => isL c || isF c), ?_, h1⟩, fun x hx => mem_takeWhile hx⟩, (fun h => by cases h)⟩
      simp only [List.takeWhile_cons, h1, Bool.true_or, if_true]
    · rw [if_neg h1]
      by_cases h2 : isF c = true
      · rw [if_pos h2]
        refine ⟨(fun h => by cases h), fun _ => ⟨?_, fun x hx => mem_takeWhile hx⟩⟩
        simp only [List.takeWhile_cons, h2, if_true]
        simp
      · rw [if_neg h2]
        split
        · exact ⟨(fun h => by cases h), (fun h => by cases h)⟩
        · exact ⟨(fun h => by cases h), (fun h => by cases h)⟩
theorem IsAt.ok {t : T} {k : Lk} (h : IsAt t k) : LkOk k.kind k.tok := by
  obtain ⟨a, ha, rfl⟩ := h
  exact head_ok _ _
theorem numOf_lt : ∀ (t : T) (n : Nat), (∀ c ∈ t, isF c = true) → t.foldl (fun n c => n * 10 + (c - 48)) n < (n + 1) * 10 ^ t.length
  | [], n, _ => by simp
  | c :: t, n, h => by
    have hc : isF c = true := h c List.mem_cons_self
    have h2 := numOf_lt t (n * 10 + (c - 48)) fun x hx => h x (List.mem_cons_of_mem _ hx)
    rw [List.foldl_cons, List.length_cons, Nat.pow_succ]
    unfold isF at hc
    simp at hc
    have : (n * 10 + (c - 48) + 1) * 10 ^ t.length ≤ (n + 1) * 10 * 10 ^ t.length := Nat.mul_le_mul_right _ (by omega)
    have e : (n + 1) * (10 ^ t.length * 10) = (n + 1) * 10 * 10 ^ t.length := by rw [Nat.mul_comm (10 ^ t.length), Nat.mul_assoc]
    omega
theorem numOf_le {t : T} {m : Nat} (h : ∀ c ∈ t, isF c = true) (hl : t.length ≤ m) : numOf t < 10 ^ m := by
  have := numOf_lt t 0 h
  unfold numOf
  rw [Nat.zero_add, Nat.one_mul] at this
  exact Nat.lt_of_lt_of_le this (Nat.pow_le_pow_right (by omega) hl)
/-- all that a step makes is in order -/
def OutOk : Out → Prop
  | .stop _ => True
  | .go c => CoOk c
  | .done v => SayD v
theorem stopAt_ok {k : Kind} {t : T} {ws : List T} {b : Bool} : OutOk (stopAt k t ws b) := by
  unfold stopAt
  split
  · trivial
  · split <;> trivial
  · trivial
def SayC (c : Co) : Prop := (∀ x ∈ c.bound, NameOk x) ∧ (∀ o ∈ c.opened, OpOk o) ∧ SayD c.value
theorem join_say {c : Co} {hs : List T} (h : SayC c) (hh : ∀ x ∈ hs, x ∈ four ∨ x = kNot) : SayC (join c hs) := by
  obtain ⟨h1, h2, h3⟩ := h
  unfold join
  split
  · exact ⟨h1, h2, h3⟩
  · rename_i o r e
    rw [e] at h2
    split
    · rename_i hm
      refine ⟨h1, fun x hx => h2 x (List.mem_cons_of_mem _ hx), ?_⟩
      have ho := h2 o List.mem_cons_self
      cases o with
      | one h =>
        have hm : h ∈ hs := hm
        rcases hh h hm with z | z
        · have ho : h ∈ [kNot, [91], kNeg, [40]] := ho
          exfalso; revert ho
          simp only [four, List.mem_cons, List.not_mem_nil, or_false] at z
          rcases z with z | z | z | z <;> subst z <;> decide
        · subst z; exact .not h3
      | two h u =>
        have hm : h ∈ hs := hm
        rcases hh h hm with z | z
        · rcases ho with ⟨ho, hu⟩ | ⟨ho, hu⟩ | ⟨ho, hu⟩
          · exfalso; revert ho; simp only [four, List.mem_cons, List.not_mem_nil, or_false] at z; rcases z with z | z | z | z <;> subst z <;> decide
          · exfalso; revert ho; simp only [four, List.mem_cons, List.not_mem_nil, or_false] at z; rcases z with z | z | z | z <;> subst z <;> decide
          · exact .bin z hu h3
        · subst z
          rcases ho with ⟨ho, hu⟩ | ⟨ho, hu⟩ | ⟨ho, hu⟩ <;> (exfalso; revert ho; decide)
      | quant h ns many =>
        have hm : h ∈ hs := hm
        obtain ⟨ho, _⟩ := ho
        exfalso
        rcases hh h hm with z | z
        · revert ho; simp only [four, List.mem_cons, List.not_mem_nil, or_false] at z; rcases z with z | z | z | z <;> subst z <;> decide
        · subst z; revert ho; decide
    · rw [← e] at h2; exact ⟨h1, h2, h3⟩
theorem joins_say {B : List T} {hs : List T} (hh : ∀ x ∈ hs, x ∈ four ∨ x = kNot) : ∀ (O : List Op) (v : PyData), SayC ⟨B, O, .joined, v, [], true⟩ → SayC ⟨B, (joins hs O v).1, .joined, (joins hs O v).2, [], true⟩
  | [], v, h => h
  | o :: r, v, h => by
    unfold joins
    split
    · rename_i hm
      have := join_say (hs := hs) h hh
      rw [join_yes (o := o) (r := r) rfl hm] at this
      exact joins_say hh r _ this
    · exact h
theorem joinAll_say {c : Co} {hs : List T} (h : SayC c) (hh : ∀ x ∈ hs, x ∈ four ∨ x = kNot) : SayC (joinAll c hs) := by
  have := joins_say (B := c.bound) hh c.opened c.value h
  exact this
theorem nest_say {h : T} (hh : h ∈ [kAll, kSome]) : ∀ (ns : List T) (v : PyData), (∀ x ∈ ns, NameOk x) → SayD v → SayD (nest h ns v)
  | [], v, _, hv => hv
  | x :: ns, v, hn, hv => .quant hh (hn x List.mem_cons_self) (nest_say hh ns v (fun y hy => hn y (List.mem_cons_of_mem _ hy)) hv)
theorem pushed_ok {c : Co} {h : T} {w : W} (hc : SayC c) (hh : h ∈ four) (hw : w = .unit) : CoOk (pushed c h w) := by
  subst hw
  refine ⟨hc.1, fun o ho => ?_, fun h => ?_, (fun h => by cases h), fun a b h => ?_⟩
  · rcases List.mem_cons.mp ho with e | ho
    · subst e; exact .inr (.inr ⟨hh, hc.2.2⟩)
    · exact hc.2.1 o ho
  · rcases h with h | h <;> cases h
  · rcases h with h | h <;> cases h
theorem dJoined_ok {k : Kind} {t : T} : ∀ (n : Nat) (c : Co), SayC c → OutOk (dJoined k t n c)
  | 0, c, h => stopAt_ok
  | n + 1, c, h => by
    have h1 : SayC (join (joinAll c [kNot]) [kAnd]) := join_say (joinAll_say h (by simp)) (by simp [four])
    unfold dJoined dAnd
    split
    · exact pushed_ok h1 (by decide) rfl
    · have h2 := join_say (hs := [kOr]) h1 (by simp [four])
      unfold dOr
      split
      · exact pushed_ok h2 (by decide) rfl
      · split
        · exact pushed_ok h2 (by decide) rfl
        · split
          · exact pushed_ok h2 (by decide) rfl
          · have h3 := joinAll_say (hs := [kImp, kIff]) h2 (by simp [four])
            revert h3
            generalize joinAll (join (join (joinAll c [kNot]) [kAnd]) [kOr]) [kImp, kIff] = c3
            intro h3
            unfold dEnd
            split
            · rename_i hh ns many r e
              have ho := h3.2.1 _ (by rw [e]; exact List.mem_cons_self)
              refine dJoined_ok n _ ⟨fun x hx => h3.1 x (List.mem_of_mem_take hx), fun o ho => h3.2.1 o (by rw [e]; exact List.mem_cons_of_mem _ ho), nest_say ho.1 _ _ ho.2 h3.2.2⟩
            · split
              · exact h3.2.2
              · exact stopAt_ok
            · rename_i o r _ e
              split
              · refine ⟨h3.1, fun o ho => h3.2.1 o (by rw [e]; exact List.mem_cons_of_mem _ ho), fun h => ?_, fun _ => h3.2.2, fun a b h => ?_⟩
                · rcases h with h | h <;> cases h
                · rcases h with h | h <;> cases h
              · exact stopAt_ok
def TermC (c : Co) : Prop := (∀ x ∈ c.bound, NameOk x) ∧ (∀ o ∈ c.opened, OpOk o) ∧ TermD c.value
theorem join_term {c : Co} {hs : List T} (h : TermC c) (hh : ∀ x ∈ hs, x ∈ [kTimes, kPlus, kMinus, kNeg]) : TermC (join c hs) := by
  obtain ⟨h1, h2, h3⟩ := h
  unfold join
  split
  · exact ⟨h1, h2, h3⟩
  · rename_i o r e
    rw [e] at h2
    split
    · rename_i hm
      refine ⟨h1, fun x hx => h2 x (List.mem_cons_of_mem _ hx), ?_⟩
      have ho := h2 o List.mem_cons_self
      cases o with
      | one h =>
        have z := hh h hm
        have ho : h ∈ [kNot, [91], kNeg, [40]] := ho
        simp only [List.mem_cons, List.not_mem_nil, or_false] at z
        rcases z with z | z | z | z
        · exfalso; subst z; revert ho; decide
        · exfalso; subst z; revert ho; decide
        · exfalso; subst z; revert ho; decide
        · subst z; exact .neg h3
      | two h u =>
        have z := hh h hm
        rcases ho with ⟨ho, hu⟩ | ⟨ho, hu⟩ | ⟨ho, hu⟩
        · exact .bin ho hu h3
        · exfalso; revert ho; simp only [List.mem_cons, List.not_mem_nil, or_false] at z; rcases z with z | z | z | z <;> subst z <;> decide
        · exfalso; revert ho; simp only [List.mem_cons, List.not_mem_nil, or_false] at z; rcases z with z | z | z | z <;> subst z <;> decide
      | quant h ns many =>
        have z := hh h hm
        obtain ⟨ho, _⟩ := ho
        exfalso; revert ho; simp only [List.mem_cons, List.not_mem_nil, or_false] at z; rcases z with z | z | z | z <;> subst z <;> decide
    · rw [← e] at h2; exact ⟨h1, h2, h3⟩
theorem pushedT_ok {c : Co} {h : T} {w : W} (hc : TermC c) (hh : h ∈ [kPlus, kMinus, kTimes] ∨ h ∈ RELS) (hw : w = .base ∨ w = .term) : CoOk (pushed c h w) := by
  refine ⟨hc.1, fun o ho => ?_, fun h => ?_, fun h => ?_, fun a b h => ?_⟩
  · rcases List.mem_cons.mp ho with e | ho
    · subst e
      rcases hh with hh | hh
      · exact .inl ⟨hh, hc.2.2⟩
      · exact .inr (.inl ⟨hh, hc.2.2⟩)
    · exact hc.2.1 o ho
  · have h : w = .more ∨ w = .expo := h
    rcases hw with e | e <;> subst e <;> rcases h with h | h <;> cases h
  · have h : w = .joined := h
    rcases hw with e | e <;> subst e <;> cases h
  · have h : w = .name a b ∨ w = .comma a b := h
    rcases hw with e | e <;> subst e <;> rcases h with h | h <;> cases h
theorem dSum_ok {k : Kind} {t : T} {c : Co} (h : TermC c) : OutOk (dSum k t c) := by
  unfold dSum
  split
  · exact pushedT_ok h (.inl (by decide)) (.inl rfl)
  · split
    · exact pushedT_ok h (.inl (by decide)) (.inl rfl)
    · split
      · split
        · refine ⟨h.1, fun o ho => h.2.1 o (List.mem_of_mem_tail ho), fun _ => h.2.2, (fun h => by cases h), fun a b h => ?_⟩
          rcases h with h | h <;> cases h
        · exact stopAt_ok
      · split
        · rename_i hr
          refine dJoined_ok _ _ ?_
          cases e : c.opened with
          | nil => exfalso; rw [e] at hr; revert hr; decide
          | cons o r =>
            rw [e] at hr
            have hr : o.head ∈ RELS := hr
            rw [join_yes e hr]
            have ho := h.2.1 o (by rw [e]; exact List.mem_cons_self)
            refine ⟨h.1, fun x hx => h.2.1 x (by rw [e]; exact List.mem_cons_of_mem _ hx), ?_⟩
            cases o with
            | one h' =>
              have ho : h' ∈ [kNot, [91], kNeg, [40]] := ho
              have hr : h' ∈ RELS := hr
              exfalso; revert hr; simp only [List.mem_cons, List.not_mem_nil, or_false] at ho; rcases ho with z | z | z | z <;> subst z <;> decide
            | two h' u =>
              have hr : h' ∈ RELS := hr
              rcases ho with ⟨ho, hu⟩ | ⟨ho, hu⟩ | ⟨ho, hu⟩
              · exfalso; revert hr; simp only [List.mem_cons, List.not_mem_nil, or_false] at ho; rcases ho with z | z | z <;> subst z <;> decide
              · exact .rel hr hu h.2.2
              · exfalso; revert hr; simp only [four, List.mem_cons, List.not_mem_nil, or_false] at ho; rcases ho with z | z | z | z <;> subst z <;> decide
            | quant h' ns many =>
              have hr : h' ∈ RELS := hr
              have ho := ho.1
              exfalso; revert hr; simp only [List.mem_cons, List.not_mem_nil, or_false] at ho; rcases ho with z | z <;> subst z <;> decide
        · split
          · rename_i hr
            exact pushedT_ok h (.inr hr.2) (.inr rfl)
          · exact stopAt_ok
theorem dBase_ok {k : Kind} {t : T} {c : Co} (hb : ∀ x ∈ c.bound, NameOk x) (ho : ∀ o ∈ c.opened, OpOk o) (hl : LkOk k t) : OutOk (dBase k t c) := by
  unfold dBase
  split
  · refine ⟨hb, fun o h => ?_, fun h => ?_, (fun h => by cases h), fun a b h => ?_⟩
    · rcases List.mem_cons.mp h with e | h
      · subst e; show ([40] : T) ∈ _; decide
      · exact ho o h
    · rcases h with h | h <;> cases h
    · rcases h with h | h <;> cases h
  · split
    · unfold numOut
      split
      · exact stopAt_ok
      · split
        · trivial
        · split
          · trivial
          · rename_i hk _ _ h6
            have := numOf_le (m := 6) (hl.2 hk).2 (by omega)
            refine ⟨hb, ho, fun _ => .num (by omega), (fun h => by cases h), fun a b h => ?_⟩
            rcases h with h | h <;> cases h
    · split
      · rename_i hk
        refine ⟨hb, ho, fun _ => .var (hb t hk.2), (fun h => by cases h), fun a b h => ?_⟩
        rcases h with h | h <;> cases h
      · exact stopAt_ok
theorem dTerm_ok {k : Kind} {t : T} {c : Co} (hb : ∀ x ∈ c.bound, NameOk x) (ho : ∀ o ∈ c.opened, OpOk o) (hl : LkOk k t) : OutOk (dTerm k t c) := by
  unfold dTerm
  split
  · refine ⟨hb, fun o h => ?_, fun h => ?_, (fun h => by cases h), fun a b h => ?_⟩
    · rcases List.mem_cons.mp h with e | h
      · subst e; show kNeg ∈ _; decide
      · exact ho o h
    · rcases h with h | h <;> cases h
    · rcases h with h | h <;> cases h
  · exact dBase_ok hb ho hl
theorem delta_ok {k : Kind} {t : T} {c : Co} (h : CoOk c) (hl : LkOk k t) : OutOk (delta k t c) := by
  unfold delta
  split
  · unfold dUnit
    split
    · rename_i e
      refine ⟨h.bound, fun o ho => ?_, fun h => ?_, (fun h => by cases h), fun a b h => ?_⟩
      · rcases List.mem_cons.mp ho with e' | ho
        · subst e'
          show t ∈ _
          rcases e with e | e
          · rw [e.2]; decide
          · rw [e.2]; decide
        · exact h.ops o ho
      · rcases h with h | h <;> cases h
      · rcases h with h | h <;> cases h
    · split
      · rename_i e
        refine ⟨h.bound, h.ops, fun h => ?_, (fun h => by cases h), fun a b h => ?_⟩
        · rcases h with h | h <;> cases h
        · rcases h with h | h
          · cases h
            refine ⟨?_, fun x hx => by cases hx⟩
            rcases e.2 with e | e <;> rw [e] <;> decide
          · cases h
      · exact dTerm_ok h.bound h.ops hl
  · exact dTerm_ok h.bound h.ops hl
  · exact dBase_ok h.bound h.ops hl
  · rename_i hw
    have hc : TermC c := ⟨h.bound, h.ops, h.term (.inl hw)⟩
    unfold dMore
    split
    · refine ⟨h.bound, h.ops, fun _ => hc.2.2, (fun h => by cases h), fun a b h => ?_⟩
      rcases h with h | h <;> cases h
    · have h1 := join_term (hs := [kTimes]) hc (by simp)
      unfold dMul
      split
      · exact pushedT_ok h1 (.inl (by decide)) (.inl rfl)
      · exact dSum_ok (join_term h1 (by simp))
  · rename_i hw
    exact dJoined_ok _ _ ⟨h.bound, h.ops, h.say hw⟩
  · rename_i hh ns hw
    obtain ⟨n1, n2⟩ := h.nm hh ns (.inl hw)
    split
    · exact stopAt_ok
    · rename_i hk
      split
      · trivial
      · split
        · trivial
        · rename_i h8 hW
          have hk : k = .word := by simpa using hk
          refine ⟨h.bound, h.ops, fun h => ?_, (fun h => by cases h), fun a b h => ?_⟩
          · rcases h with h | h <;> cases h
          · rcases h with h | h
            · cases h
            · cases h
              refine ⟨n1, fun x hx => ?_⟩
              rcases List.mem_append.mp hx with hx | hx
              · exact n2 x hx
              · simp at hx; subst hx
                exact ⟨(hl.1 hk).1, (hl.1 hk).2, by omega, hW⟩
  · rename_i hh ns hw
    obtain ⟨n1, n2⟩ := h.nm hh ns (.inr hw)
    split
    · refine ⟨h.bound, h.ops, fun h => ?_, (fun h => by cases h), fun a b h => ?_⟩
      · rcases h with h | h <;> cases h
      · rcases h with h | h
        · cases h; exact ⟨n1, n2⟩
        · cases h
    · split
      · refine ⟨fun x hx => ?_, fun o ho => ?_, fun h => ?_, (fun h => by cases h), fun a b h => ?_⟩
        · rcases List.mem_append.mp hx with hx | hx
          · exact h.bound x hx
          · exact n2 x hx
        · rcases List.mem_cons.mp ho with e | ho
          · subst e; exact ⟨n1, n2⟩
          · exact h.ops o ho
        · rcases h with h | h <;> cases h
        · rcases h with h | h <;> cases h
      · exact stopAt_ok
  · rename_i hw
    have hv := h.term (.inr hw)
    unfold numOut
    split
    · exact stopAt_ok
    · rename_i hk
      split
      · trivial
      · split
        · trivial
        · rename_i h1
          have hk : k = .number := by simpa using hk
          have := numOf_le (m := 1) (hl.2 hk).2 (by omega)
          refine ⟨h.bound, h.ops, fun _ => .pow hv (by omega), (fun h => by cases h), fun a b h => ?_⟩
          rcases h with h | h <;> cases h
theorem parse_ok {t : T} : ∀ (n : Nat) (c : Co) (a : Nat) {v : PyData}, CoOk c → a ≤ t.length → parse t n c (tokenAt t a) = .read v → SayD v
  | 0, c, a, v, _, _, h => by cases h
  | n + 1, c, a, v, hc, ha, h => by
    have ho := delta_ok hc (IsAt.ok (t := t) ⟨a, ha, rfl⟩)
    unfold parse at h
    cases e : delta (tokenAt t a).kind (tokenAt t a).tok c with
    | stop off => rw [e] at h; cases h
    | done w => rw [e] at h ho; cases h; exact ho
    | go c2 => rw [e] at h ho; exact parse_ok n c2 _ ho (tokenAt_end ha) h
/-- WHAT IS READ IS A SAYING -/
theorem settle_say {t : T} {free : List T} {v : PyData} (hf : ∀ x ∈ free, NameOk x) (h : settle t free = .read v) : SayD v := by
  refine parse_ok _ (start free) 0 ⟨hf, (fun o h => by cases h), fun h => ?_, (fun h => by cases h), fun a b h => ?_⟩ (by omega) h
  · rcases h with h | h <;> cases h
  · rcases h with h | h <;> cases h
end Mi
namespace Dy
open PySem L2 Evl Mi
def LETS : T := [97, 98, 99, 100, 101, 102, 103, 104, 105, 106, 107, 108, 109, 110, 111, 112, 113, 114, 115, 116, 117, 118, 119, 120, 121, 122]
def FIGS : T := [48, 49, 50, 51, 52, 53, 54, 55, 56, 57]
def PAIRS : List T := [kAnd, kOr, kImp, kIff]
/-- where the text's own things stand -/
structure G8 where
  K : PySem.W.Frag
  Reader : Addr
  Unread : Addr
  Read : Addr
  aW : Addr
  aR : Addr
  aP : Addr
  aS : Addr
  tL : Tok
  tF : Tok
  t1 : Tok
  t2 : Tok
  t3 : Tok
  t4 : Tok
  t5 : Tok
def strsV (ts : List T) : List V := ts.map fun t => V.str (S t)
theorem un_of2 {A : Around} (hr : Room 119 A) : A.units + 2000 < cLine := by have := hr.un; omega
/-- the facts of an own class -/
structure ClsF (K : PySem.W.Frag) (C : Addr) : Prop where
  cl : Cls K C
  ha : PySem.W.findIn K (.ref C) "__class__" = some (some (.builtin "object.__class__"))
  hm : PySem.W.mroIn K C (.type "object") = some true
structure Tx (g : G8) (mg : Str → Option Value) : Prop where
  b_all : mg "all" = none
  b_bool : mg "bool" = none
  b_enumerate : mg "enumerate" = none
  b_int : mg "int" = none
  b_isinstance : mg "isinstance" = none
  b_len : mg "len" = none
  b_list : mg "list" = none
  b_max : mg "max" = none
  b_min : mg "min" = none
  b_range : mg "range" = none
  b_set : mg "set" = none
  b_sorted : mg "sorted" = none
  b_str : mg "str" = none
  b_tuple : mg "tuple" = none
  m_Reader : mg "Reader" = some (.ref g.Reader)
  m_Unread : mg "Unread" = some (.ref g.Unread)
  m_Read : mg "Read" = some (.ref g.Read)
  m_WORDS : mg "WORDS" = some (.ref g.aW)
  m_RELATIONS : mg "RELATIONS" = some (.ref g.aR)
  m_PAIRED : mg "PAIRED" = some (.ref g.aP)
  m_SIGNS : mg "SIGNS" = some (.ref g.aS)
  m_LETTERS : mg "LETTERS" = some (.str (S LETS) g.tL)
  m_FIGURES : mg "FIGURES" = some (.str (S FIGS) g.tF)
  m_MOST_NUMBER : mg "MOST_NUMBER" = some (.int 999999 g.t1)
  m_MOST_POWER : mg "MOST_POWER" = some (.int 9 g.t2)
  m_MOST_FREE : mg "MOST_FREE" = some (.int 8 g.t3)
  m_MOST_FIGURES : mg "MOST_FIGURES" = some (.int 6 g.t4)
  m_MOST_SIGNS : mg "MOST_SIGNS" = some (.int 8 g.t5)
  cl_Reader : Cls g.K g.Reader
  cl_Unread : Cls g.K g.Unread
  cl_Read : Cls g.K g.Read
  u_ne : PySem.W.findIn g.K (.ref g.Unread) "__ne__" = some (some (.builtin "object.__ne__"))
  u_mo : PySem.W.mroIn g.K g.Unread (.type "object") = some true
structure Okf (P : Program) (w : World) (g : G8) (mg : Str → Option Value) (base : Heap) (k : Nat) (x : Str) (ps : List Str) (sp : Sp) : Prop where
  ex : ∃ f fd, FnOk P w g.K mg base CX0 k f fd ps sp ∧ mg x = some (.ref f) ∧ PySem.W.keepIn g.K (.ref f) = true ∧ Binds g.K fd ps []
structure Okm (P : Program) (w : World) (g : G8) (mg : Str → Option Value) (base : Heap) (k : Nat) (C : Addr) (m : Str) (ps : List Str) (sp : Sp) : Prop where
  ex : ∃ f fd, FnOk P w g.K mg base CX0 k f fd ps sp ∧ Meth g.K C m f ∧ Binds g.K fd ps []
structure Oki (P : Program) (w : World) (g : G8) (mg : Str → Option Value) (base : Heap) (k : Nat) (C : Addr) (ps : List Str) (sp : Sp) : Prop where
  ex : ∃ f fd, FnOk P w g.K mg base CX0 k f fd ps sp ∧ Mk g.K C f ∧ Binds g.K fd ps []
def DefF (g : G8) (mg : Str → Option Value) (x : Str) (st : Stmt) (ps : List Str) : Prop := ∃ f fd, Fun g.K x x st f fd ∧ mg x = some (.ref f) ∧ Binds g.K fd ps []
def DefM (g : G8) (C : Addr) (m qual : Str) (st : Stmt) (ps : List Str) : Prop := ∃ f fd, Fun g.K m qual st f fd ∧ Meth g.K C m f ∧ Binds g.K fd ps []
def DefI (g : G8) (C : Addr) (qual : Str) (st : Stmt) (ps : List Str) : Prop := ∃ f fd, Fun g.K "__init__" qual st f fd ∧ Mk g.K C f ∧ Binds g.K fd ps []
/-- len(set(xs)) of unlike texts -/
def tLenSetS (K : PySem.W.Frag) (ta : TE) : TE := fun σ H Q => ta σ H fun x H1 => ∃ l, ∃ xs : List Str, x = .ref l ∧ (SqL K H1 l (xs.map V.str) ∨ SqT K H1 l (xs.map V.str)) ∧ xs.Nodup ∧ xs.length ≤ 60 ∧ Q (.int xs.length) H1
/-- == and != of own objects that are equal -/
def RUeq (g : G8) (a b : Addr) (H : Hp) : Prop := ∃ (p : Int) (e : Bool), (∃ dx fs, H a = some (.ins g.Unread dx fs) ∧ fs.lookup ("place" : Str) = some (V.int p) ∧ fs.lookup ("is_end" : Str) = some (V.bl e)) ∧ (∃ dx fs, H b = some (.ins g.Unread dx fs) ∧ fs.lookup ("place" : Str) = some (V.int p) ∧ fs.lookup ("is_end" : Str) = some (V.bl e))
def RDeq (g : G8) (a b : Addr) (H : Hp) : Prop := ∃ d : PyData, d.depth ≤ 2000 ∧ (∃ dx fs v, H a = some (.ins g.Read dx fs) ∧ fs.lookup ("tree" : Str) = some v ∧ At g.K [] H v d) ∧ (∃ dx fs v, H b = some (.ins g.Read dx fs) ∧ fs.lookup ("tree" : Str) = some v ∧ At g.K [] H v d)
def sp_Unread_eq (g : G8) : Sp := spEq (RUeq g)
def sp_Read_eq (g : G8) : Sp := spEq (RDeq g)
def rEqO (g : G8) : R2 := fun x y H Q => rEqG (DIns g.Unread (RUeq g)) x y H Q ∨ rEqG (DIns g.Read (RDeq g)) x y H Q
def rNeO (g : G8) : R2 := fun x y H Q => DIns g.Unread (RUeq g) x y H ∧ ∀ H', Ext H H' → Q (.bl false) H'
end Dy
namespace Dy
open PySem L2 Evl Mi
/-! ### walks over data -/
def Wk (K : PySem.W.Frag) (X : List Addr) (H : Hp) (J : It) (ds : List PyData) : Prop := ∀ H', Pr X H H' → (∀ i d, ds[i]? = some d → J.go i H' ∧ ∀ x H2, J.yld i H' x H2 → H2 = H' ∧ At K X H' x d) ∧ J.stop ds.length H'
def EvI (K : PySem.W.Frag) (X : List Addr) (wi : TI) (σ : L2.St) (H : Hp) (ds : List PyData) : Prop := ∀ H1, Ex H H1 → ∀ R : It → Hp → Prop, (∀ J H2, Ex H1 H2 → (∀ Y H3, Ex H2 H3 → (∀ v d, At K X H2 v d → At K Y H3 v d) → Wk K Y H3 J ds) → R J H2) → wi σ H1 R
section
variable {K : PySem.W.Frag} {X : List Addr} {σ : L2.St} {H H' : Hp} {ta tb te tx tl : TE} {t u : TT} {d e z : PyData} {v : V} {r : R2} {D : Ends} {tu tw tz : TS} {g : TG} {ds : List PyData} {wi : TI}
theorem wk_t {a : Addr} (h : At K X H (.ref a) (.tuple ds)) : Wk K X H (Itt K a) ds := fun H' p => by
  obtain ⟨a', vs, q, hp, a1⟩ := at_tup_inv (h.pr p)
  cases q
  have hp := ex_t hx_ex hp
  refine ⟨fun i d hd => ?_, vs, hp, by rw [a1.len]; exact Nat.le_refl _⟩
  obtain ⟨v, hv, av⟩ := a1.get hd
  refine ⟨⟨vs, v, hp, hv⟩, fun x H2 ⟨e, f⟩ => ⟨e, ?_⟩⟩
  have := f vs hp
  rw [hv] at this
  cases this; exact av
theorem wk_l {a : Addr} (h : At K X H (.ref a) (.list ds)) : Wk K X H (Itl K a) ds := fun H' p => by
  obtain ⟨a', vs, q, _, hp, a1⟩ := at_lst_inv (h.pr p)
  cases q
  have hp := sq_of (K := K) hp
  refine ⟨fun i d hd => ?_, vs, hp, by rw [a1.len]; exact Nat.le_refl _⟩
  obtain ⟨v, hv, av⟩ := a1.get hd
  refine ⟨⟨vs, v, hp, hv⟩, fun x H2 ⟨e, f⟩ => ⟨e, ?_⟩⟩
  have := f vs hp
  rw [hv] at this
  cases this; exact av
theorem ei_tup (h : EvD K X tl σ H (.tuple ds)) : EvI K X (iTup K tl) σ H ds := fun H1 e1 R k => h H1 e1 _ fun x H2 e2 ax => by
  obtain ⟨a, vs, rfl, hp, a1⟩ := at_tup_inv ax
  exact ⟨a, rfl, ⟨vs, ex_t hx_ex hp⟩, k _ H2 e2 fun Y H3 e3 m => wk_t (m _ _ ax)⟩
theorem ei_lst (h : EvD K X tl σ H (.list ds)) : EvI K X (iList K tl) σ H ds := fun H1 e1 R k => h H1 e1 _ fun x H2 e2 ax => by
  obtain ⟨a, vs, rfl, _, hp, a1⟩ := at_lst_inv ax
  exact ⟨a, rfl, ⟨vs, sq_of hp⟩, k _ H2 e2 fun Y H3 e3 m => wk_l (m _ _ ax)⟩
theorem ei_seqT (h : EvD K X tl σ H (.tuple ds)) : EvI K X (iSeq K tl) σ H ds := fun H1 e1 R k => .inr (ei_tup h H1 e1 R k)
theorem ei_seqL (h : EvD K X tl σ H (.list ds)) : EvI K X (iSeq K tl) σ H ds := fun H1 e1 R k => .inl (ei_lst h H1 e1 R k)
theorem ei_rng {n : Nat} (hn : n ≤ 100000) (h : EvD K X te σ H (.int n)) : EvI K X (iRng1 (tCons te tNil)) σ H ((List.range n).map fun i => .int (i : Nat)) := fun H1 e1 R k => h H1 e1 _ fun x H2 e2 ax => by
  cases at_int_inv ax
  refine ⟨n, rfl, by omega, by omega, ?_⟩
  show R (Itr 0 n) H2
  refine k _ H2 e2 fun Y H3 e3 m H' p => ⟨fun i d hd => ?_, ?_⟩
  · rw [List.getElem?_map] at hd
    by_cases hi : i < n
    · rw [List.getElem?_range hi] at hd
      cases hd
      refine ⟨hi, fun x H2 ⟨e, f⟩ => ⟨e, ?_⟩⟩
      rw [f, Int.zero_add]
      exact at_int
    · rw [List.getElem?_eq_none (by simp; omega)] at hd; cases hd
  · show n ≤ _
    simp
/-- for over data -/
theorem s_for (h : EvI K X wi σ H ds) (P : Nat → L2.St → Hp → Prop) (h0 : ∀ H1, Ex H H1 → P 0 σ H1)
    (hs : ∀ H1 i d v σ' H', Ex H H1 → Pr X H1 H' → ds[i]? = some d → At K X H' v d → P i σ' H' → g v σ' H' fun σ2 H2 => tu { D with nx := fun σ3 H3 => Pr X H1 H3 ∧ P (i + 1) σ3 H3, ct := fun σ3 H3 => Pr X H1 H3 ∧ P (i + 1) σ3 H3, bk := D.nx } σ2 H2)
    (hd : ∀ H1 σ' H', Ex H H1 → Pr X H1 H' → P ds.length σ' H' → D.nx σ' H') : tFor wi g tu D σ H := h H (Ex.refl H) _ fun J H1 e1 hw => by
  refine ⟨fun i m σ' H' => i ≤ ds.length ∧ m = ds.length - i ∧ Pr X H1 H' ∧ P i σ' H', ⟨_, Nat.zero_le _, rfl, Pr.refl, h0 H1 e1⟩, fun i m σ' H' ⟨hi, hm, hp, p⟩ => ?_⟩
  obtain ⟨w1, w2⟩ := hw X H1 (Ex.refl _) (fun _ _ h => h) H' hp
  by_cases hl : i = ds.length
  · subst hl
    exact .inl ⟨w2, hd H1 σ' H' e1 hp p⟩
  · have hlt : i < ds.length := by omega
    have hd1 : ds[i]? = some ds[i] := List.getElem?_eq_getElem hlt
    obtain ⟨g1, g2⟩ := w1 i _ hd1
    refine .inr ⟨g1, fun σ3 H3 => Pr X H1 H3 ∧ P (i + 1) σ3 H3, fun σ3 H3 ⟨q1, q2⟩ => ⟨ds.length - (i + 1), by omega, by omega, rfl, q1, q2⟩, fun x H2 hy => ?_⟩
    obtain ⟨q1, q2⟩ := g2 x H2 hy
    subst q1
    exact hs H1 i _ x σ' H2 e1 hp hd1 q2 p
theorem q_for (h : EvI K X wi σ H ds) (P : Nat → L2.St → Hp → Prop) (h0 : ∀ H1, Ex H H1 → P 0 σ H1)
    (hs : ∀ H1 i d v σ' H', Ex H H1 → Pr X H1 H' → ds[i]? = some d → At K X H' v d → P i σ' H' → g v σ' H' fun σ2 H2 => tu { D with nx := fun σ3 H3 => Pr X H1 H3 ∧ P (i + 1) σ3 H3, ct := fun σ3 H3 => Pr X H1 H3 ∧ P (i + 1) σ3 H3, bk := tz D } σ2 H2)
    (hd : ∀ H1 σ' H', Ex H H1 → Pr X H1 H' → P ds.length σ' H' → tz D σ' H') : tSeq (tFor wi g tu) tz D σ H := s_for (D := { D with nx := tz D }) h P h0 hs hd
/-- a comprehension over data -/
theorem ev_lc {j : Nat} {tt : TT} (dm : Dom X H) (h : EvI K X wi σ H ds) (f : PyData → Bool) (z : PyData → PyData) (hn : ds.length ≤ 100000)
    (ht : ∀ Y H1, (∀ v d, At K X H v d → At K Y H1 v d) → Dom Y H1 → ∀ v d, At K Y H1 v d → d ∈ ds → EvT tt ((wipe σ [j]).set j (some v)) H1 (f d))
    (he : ∀ Y H1, (∀ v d, At K X H v d → At K Y H1 v d) → Dom Y H1 → ∀ v d, At K Y H1 v d → d ∈ ds → f d = true → EvD K Y te ((wipe σ [j]).set j (some v)) H1 (z d)) :
    EvD K X (tLc wi (gName j) tt te [j]) σ H (.list ((ds.filter f).map z)) := fun H0 e0 Q q => h H0 e0 _ fun J H1 e1 hw D hD => by
  have dm1 : Dom X H1 := dm.pr (e0.trans e1)
  have hDX : D ∉ X := fun m => dm1 D m hD
  have keep : ∀ H', Ex H1 H' → ∀ v d, At K X H1 v d → At K (D :: X) H' v d := fun H' e v d a => (a.more hD).pr (Ex.pr e)
  refine ⟨fun i m H' => i ≤ ds.length ∧ m = ds.length - i ∧ Ex H1 H' ∧ ∃ acc, H' D = some (.lst acc) ∧ Ats K (D :: X) H' acc (((ds.take i).filter f).map z), ⟨_, Nat.zero_le _, rfl, Ex.new hD, [], upd_same, .nil⟩, fun i m H' ⟨hi, hm, he1, acc, hacc, aacc⟩ => ?_⟩
  obtain ⟨w1, w2⟩ := hw (D :: X) (upd H1 D (.lst [])) (Ex.new hD) (keep _ (Ex.new hD)) H' (fun a o n h => by
    rw [upd_ne (fun z => n (by rw [z]; exact List.mem_cons_self))] at h
    exact he1 a o h)
  have dmY : Dom (D :: X) H' := dm1.more he1 (by rw [hacc]; simp)
  by_cases hl : i = ds.length
  · subst hl
    rw [List.take_length] at aacc
    exact .inl ⟨w2, q _ H' (e1.trans he1) (at_lst hDX hacc (aacc.less fun a m => List.mem_cons_of_mem _ m))⟩
  · have hlt : i < ds.length := by omega
    have hd1 : ds[i]? = some ds[i] := List.getElem?_eq_getElem hlt
    have hmem : ds[i] ∈ ds := List.getElem_mem hlt
    obtain ⟨g1, g2⟩ := w1 i _ hd1
    refine .inr ⟨g1, fun H3 => Ex H1 H3 ∧ ∃ acc, H3 D = some (.lst acc) ∧ Ats K (D :: X) H3 acc (((ds.take (i + 1)).filter f).map z), fun H3 ⟨q1, q2⟩ => ⟨ds.length - (i + 1), by omega, by omega, rfl, q1, q2⟩, fun x H2 hy => ?_⟩
    obtain ⟨q1, q2⟩ := g2 x H2 hy
    subst q1
    have tk : ds.take (i + 1) = ds.take i ++ [ds[i]] := by rw [List.take_add_one, hd1]; rfl
    have old : ∀ v d, At K X H v d → At K (D :: X) H2 v d := fun v d a => keep H2 he1 v d (a.ex (e0.trans e1))
    refine ⟨?_, ht (D :: X) H2 old dmY x _ q2 hmem H2 (Ex.refl _) _ fun H3 e3 => ?_⟩
    · show ((wipe σ []).set j none |>.set j (some x)).set j none = (wipe σ []).set j none
      rw [List.set_set, List.set_set]
    · by_cases hf : f ds[i] = true
      · rw [if_pos hf]
        have old3 : ∀ v d, At K X H v d → At K (D :: X) H3 v d := fun v d a => (old v d a).ex e3
        refine he (D :: X) H3 old3 (dmY.pr e3) x _ (q2.ex e3) hmem hf H3 (Ex.refl _) _ fun y H4 e4 ay => ⟨acc, e4 _ _ (e3 _ _ hacc), ?_, fun a o h => ?_, _, upd_same, ?_⟩
        · rw [aacc.len, List.length_map]
          refine Nat.lt_of_le_of_lt (List.length_filter_le _ _) ?_
          rw [List.length_take]
          have : (1000000 : Nat) < sizeLine := by decide
          omega
        · have hne : a ≠ D := fun z => by rw [z, hD] at h; cases h
          rw [upd_ne hne]
          exact e4 _ _ (e3 _ _ (he1 a o h))
        · rw [tk, List.filter_append, List.map_append]
          have e1 : (List.filter f [ds[i]]).map z = [z ds[i]] := by rw [List.filter_cons, if_pos hf]; rfl
          rw [e1]
          exact ((aacc.ex (e3.trans e4)).app (Ats.cons ay Ats.nil)).pr (pr_upd List.mem_cons_self)
      · rw [if_neg hf]
        refine ⟨he1.trans e3, acc, e3 _ _ hacc, ?_⟩
        rw [tk, List.filter_append, List.map_append]
        have e1 : (List.filter f [ds[i]]).map z = [] := by rw [List.filter_cons, if_neg hf]; rfl
        rw [e1, List.append_nil]
        exact aacc.ex e3
theorem rc_all {bs : List Bool} : RCD K X (rAll K) [.list (bs.map .bool)] H (.bool (bs.all id)) := RCD.of fun H1 _ xs ax Q q => by
  obtain ⟨v, rfl, a⟩ := ats1 ax
  obtain ⟨p, vs, rfl, _, hp, a1⟩ := at_lst_inv a
  have : ∀ (bs : List Bool) (vs : List V), Ats K X H1 vs (bs.map .bool) → vs = bs.map V.bl := by
    intro bs
    induction bs with
    | nil => intro vs h; cases h; rfl
    | cons b bs ih =>
      intro vs h
      cases h with
      | cons x y =>
        rw [at_bl_inv x, ih _ y]; rfl
  rw [this _ _ a1] at hp
  exact ⟨p, bs, rfl, sq_of hp, q _ at_bl⟩
end
end Dy
namespace Dy
open PySem L2 Evl Mi
/-! ### the reader as it stands -/
structure RV where
  text : V
  kind : V
  token : V
  place : V
  bound : V
  opened : V
  wanted : V
  value : V
  words : V
  isb : V
  stopped : V
def fsR (a : RV) : List (Str × V) := [("text", a.text), ("kind", a.kind), ("token", a.token), ("place", a.place), ("bound", a.bound), ("opened", a.opened), ("wanted", a.wanted), ("value", a.value), ("words", a.words), ("is_base", a.isb), ("stopped", a.stopped)]
theorem lenR (a : RV) : (fsR a).length < 1000 := by show 11 < 1000; decide
structure Gf (g : G8) : Prop where
  cR : Cls g.K g.Reader
  cU : Cls g.K g.Unread
  cD : Cls g.K g.Read
  nR : ∀ f ∈ (["text", "kind", "token", "place", "bound", "opened", "wanted", "value", "words", "is_base", "stopped"] : List Str), NoAttr g.K g.Reader f
  nU1 : NoAttr g.K g.Unread "place"
  nU2 : NoAttr g.K g.Unread "is_end"
  nD : NoAttr g.K g.Read "tree"
  aW : ∀ H, SqT g.K H g.aW (strsV WORDS)
  aR : ∀ H, SqT g.K H g.aR (strsV RELS)
  aP : ∀ H, SqT g.K H g.aP (strsV PAIRS)
  aS : ∀ H, SqT g.K H g.aS (strsV SIGNS)
  haU : PySem.W.findIn g.K (.ref g.Unread) "__class__" = some (some (.builtin "object.__class__"))
  haD : PySem.W.findIn g.K (.ref g.Read) "__class__" = some (some (.builtin "object.__class__"))
  hn : PySem.W.specialIn g.K (.builtin "object.__class__") "__get__" = some (some (.builtin "getset_descriptor.__get__"))
  htk : PySem.W.takesIn g.K (.builtin "object.__class__") = some true
  hmU : PySem.W.mroIn g.K g.Unread (.type "object") = some true
  hmD : PySem.W.mroIn g.K g.Read (.type "object") = some true
  kUU : PySem.W.kitOne g.K (.ref g.Unread) (.ref g.Unread) = some true
  kUD : PySem.W.kitOne g.K (.ref g.Unread) (.ref g.Read) = some false
  kDU : PySem.W.kitOne g.K (.ref g.Read) (.ref g.Unread) = some false
  kDD : PySem.W.kitOne g.K (.ref g.Read) (.ref g.Read) = some true
  kiU : PySem.W.kitOne g.K (.type "int") (.ref g.Unread) = some false
  kiD : PySem.W.kitOne g.K (.type "int") (.ref g.Read) = some false
def kdT : Mi.Kind → T
  | .fin => [101, 110, 100]
  | .word => [119, 111, 114, 100]
  | .number => [110, 117, 109, 98, 101, 114]
  | .sign => [115, 105, 103, 110]
  | .bad => [98, 97, 100]
abbrev nUnit : T := [117, 110, 105, 116]
abbrev nTerm : T := [116, 101, 114, 109]
abbrev nBase : T := [98, 97, 115, 101]
abbrev nMore : T := [109, 111, 114, 101]
abbrev nJoined : T := [106, 111, 105, 110, 101, 100]
abbrev nNothing : T := [110, 111, 116, 104, 105, 110, 103]
def opD : Op → PyData
  | .one h => .tuple [Mi.str h]
  | .two h u => .tuple [Mi.str h, u]
  | .quant h ns m => .tuple [Mi.str h, .list (ns.map Mi.str), .int (m : Nat)]
/-- a frame's head tells its kind -/
def FrOk (p : Op) : Prop := p.head ≠ [] ∧ match p with
  | .quant h _ _ => h = kAll ∨ h = kSome
  | _ => p.head ≠ kAll ∧ p.head ≠ kSome
structure RAt (g : G8) (X : List Addr) (H : Hp) (r o : Addr) (t : T) (c : Co) (k : Lk) (st : V) (wn : T) : Prop where
  rx : r ∈ X
  ox : o ∈ X
  ro : r ≠ o
  dm : Dom X H
  ot : ok (S t)
  lt : t.length ≤ 10000
  ia : IsAt t k
  bl : c.bound.length ≤ 8 + k.place
  ol : c.opened.length ≤ k.place
  bn : ∀ x ∈ c.bound, x.length ≤ 8
  wl : (∀ x ∈ c.words, x.length ≤ 8) ∧ c.words.length ≤ 8
  oo : ∀ p ∈ c.opened, FrOk p
  ex : ∃ dx b v w os i, H r = some (.ins g.Reader dx (fsR ⟨.str (S t), .str (S (kdT k.kind)), .str (S k.tok), .int (k.place : Nat), b, .ref o, .str (S wn), v, w, .bl i, st⟩)) ∧ (wn = nMore → i = c.isBase) ∧
    At g.K X H b (.list (c.bound.map Mi.str)) ∧ At g.K X H v c.value ∧ At g.K X H w (.tuple (c.words.map Mi.str)) ∧ H o = some (.lst os) ∧ Ats g.K X H os (c.opened.reverse.map opD)
theorem ok_sub {t u : T} (h : ok (S t)) (s : ∀ c ∈ u, c ∈ t) : ok (S u) := ok_S.mpr fun c hc => ok_S.mp h c (s c hc)
theorem ok_tok {t : T} {k : Lk} (h : ok (S t)) (hk : IsAt t k) : ok (S k.tok) := by
  obtain ⟨a, ha, rfl⟩ := hk
  unfold tokenAt
  have sub : ∀ c ∈ t.drop (runEnd isB t a), c ∈ t := fun c hc => List.mem_of_mem_drop hc
  revert sub
  generalize t.drop (runEnd isB t a) = r
  intro sub
  cases r with
  | nil => exact ok_S.mpr fun c hc => by cases hc
  | cons d q =>
    have tw : ∀ p : Nat → Bool, ∀ c ∈ (d :: q).takeWhile p, c ∈ t := fun p c hc => sub c ((List.takeWhile_subset p) hc)
    rw [head_cons]
    split
    · exact ok_sub h (tw (fun c => isL c || isF c))
    · split
      · exact ok_sub h (tw isF)
      · split
        · rename_i s hs
          have hm := List.mem_of_find?_eq_some hs
          have : ∀ s ∈ SIGNS, ∀ c ∈ s, c < 0x110000 := by decide
          exact ok_S.mpr (this s hm)
        · exact ok_S.mpr fun c hc => by
            rcases List.mem_cons.mp hc with e | e
            · subst e; exact ok_S.mp h _ (sub _ List.mem_cons_self)
            · cases e
theorem ok_kdT (k : Mi.Kind) : ok (S (kdT k)) := by cases k <;> decide +kernel
theorem kdT_inj {a b : Mi.Kind} (h : kdT a = kdT b) : a = b := by cases a <;> cases b <;> first | rfl | (exfalso; revert h; decide)
theorem at_strs {K : PySem.W.Frag} {X : List Addr} {H : Hp} {a : Addr} {ts : List T} (h : ∀ H, SqT K H a (strsV ts)) (hk : ∀ x ∈ ts, ok (S x)) : At K X H (.ref a) (.tuple (ts.map Mi.str)) := by
  refine .tup (h _) ?_
  have : ∀ ts : List T, (∀ x ∈ ts, ok (S x)) → DqAll K (Hx X H) (strsV ts) (ts.map Mi.str) := by
    intro ts
    induction ts with
    | nil => intro _; exact .nil
    | cons x ts ih => intro h; exact .cons (at_str (K := K) (X := X) (H := H) (h x List.mem_cons_self)) (ih fun y hy => h y (List.mem_cons_of_mem _ hy))
  exact this ts hk
section
variable {g : G8} {X : List Addr} {H H' H1 : Hp} {r o : Addr} {t : T} {c c' : Co} {k k' : Lk} {st : V} {wn : T} {σ : L2.St} {d : PyData} {v : V}
theorem aW (G : Gf g) : At g.K X H (.ref g.aW) (.tuple (WORDS.map Mi.str)) := at_strs G.aW (by decide +kernel)
theorem aR (G : Gf g) : At g.K X H (.ref g.aR) (.tuple (RELS.map Mi.str)) := at_strs G.aR (by decide +kernel)
theorem aP (G : Gf g) : At g.K X H (.ref g.aP) (.tuple (PAIRS.map Mi.str)) := at_strs G.aP (by decide +kernel)
theorem aS (G : Gf g) : At g.K X H (.ref g.aS) (.tuple (SIGNS.map Mi.str)) := at_strs G.aS (by decide +kernel)
theorem RAt.exx (h : RAt g X H r o t c k st wn) (e : Ex H H') : RAt g X H' r o t c k st wn := by
  obtain ⟨dx, b, v, w, os, i, h1, h2, h3, h4, h5, h6, h7⟩ := h.ex
  exact { h with dm := h.dm.pr e, ex := ⟨dx, b, v, w, os, i, e _ _ h1, h2, h3.ex e, h4.ex e, h5.ex e, e _ _ h6, h7.ex e⟩ }
/-- what is only wanted next may be told otherwise -/
theorem RAt.co (h : RAt g X H r o t c k st wn) (h1 : c'.bound = c.bound) (h2 : c'.opened = c.opened) (h3 : c'.value = c.value) (h4 : c'.words = c.words) (h5 : c'.isBase = c.isBase) : RAt g X H r o t c' k st wn := by
  obtain ⟨b, o', w, v, ws, i⟩ := c
  obtain ⟨b', o'', w', v', ws', i'⟩ := c'
  cases h1; cases h2; cases h3; cases h4; cases h5
  exact { h with ex := h.ex }
theorem f_text (G : Gf g) (h : RAt g X H r o t c k st wn) : Fld g.K X H r "text" (Mi.str t) := by
  obtain ⟨dx, b, v, w, os, i, h1, _⟩ := h.ex
  exact ⟨_, dx, _, _, h1, G.cR, G.nR _ (by decide), rfl, at_str h.ot⟩
theorem f_kind (G : Gf g) (h : RAt g X H r o t c k st wn) : Fld g.K X H r "kind" (Mi.str (kdT k.kind)) := by
  obtain ⟨dx, b, v, w, os, i, h1, _⟩ := h.ex
  exact ⟨_, dx, _, _, h1, G.cR, G.nR _ (by decide), rfl, at_str (ok_kdT _)⟩
theorem f_token (G : Gf g) (h : RAt g X H r o t c k st wn) : Fld g.K X H r "token" (Mi.str k.tok) := by
  obtain ⟨dx, b, v, w, os, i, h1, _⟩ := h.ex
  exact ⟨_, dx, _, _, h1, G.cR, G.nR _ (by decide), rfl, at_str (ok_tok h.ot h.ia)⟩
theorem f_place (G : Gf g) (h : RAt g X H r o t c k st wn) : Fld g.K X H r "place" (.int (k.place : Nat)) := by
  obtain ⟨dx, b, v, w, os, i, h1, _⟩ := h.ex
  exact ⟨_, dx, _, _, h1, G.cR, G.nR _ (by decide), rfl, at_int⟩
theorem f_bound (G : Gf g) (h : RAt g X H r o t c k st wn) : Fld g.K X H r "bound" (.list (c.bound.map Mi.str)) := by
  obtain ⟨dx, b, v, w, os, i, h1, _, h2, _⟩ := h.ex
  exact ⟨_, dx, _, _, h1, G.cR, G.nR _ (by decide), rfl, h2⟩
theorem f_wanted (G : Gf g) (h : RAt g X H r o t c k st wn) (hw : ok (S wn)) : Fld g.K X H r "wanted" (Mi.str wn) := by
  obtain ⟨dx, b, v, w, os, i, h1, _⟩ := h.ex
  exact ⟨_, dx, _, _, h1, G.cR, G.nR _ (by decide), rfl, at_str hw⟩
theorem f_value (G : Gf g) (h : RAt g X H r o t c k st wn) : Fld g.K X H r "value" c.value := by
  obtain ⟨dx, b, v, w, os, i, h1, _, _, h2, _⟩ := h.ex
  exact ⟨_, dx, _, _, h1, G.cR, G.nR _ (by decide), rfl, h2⟩
theorem f_words (G : Gf g) (h : RAt g X H r o t c k st wn) : Fld g.K X H r "words" (.tuple (c.words.map Mi.str)) := by
  obtain ⟨dx, b, v, w, os, i, h1, _, _, _, h2, _⟩ := h.ex
  exact ⟨_, dx, _, _, h1, G.cR, G.nR _ (by decide), rfl, h2⟩
theorem f_isb (G : Gf g) (h : RAt g X H r o t c k st nMore) : Fld g.K X H r "is_base" (.bool c.isBase) := by
  obtain ⟨dx, b, v, w, os, i, h1, h2, _⟩ := h.ex
  refine ⟨_, dx, _, _, h1, G.cR, G.nR _ (by decide), rfl, ?_⟩
  rw [h2 rfl]; exact at_bl
theorem f_stopped (G : Gf g) (h : RAt g X H r o t c k v wn) (a : At g.K X H v d) : Fld g.K X H r "stopped" d := by
  obtain ⟨dx, b, v, w, os, i, h1, _⟩ := h.ex
  exact ⟨_, dx, _, _, h1, G.cR, G.nR _ (by decide), rfl, a⟩
/-- the frames, as a list that changes -/
theorem ev_opened {i : Nat} (G : Gf g) (hs : σ[i]? = some (some (.ref r))) (h : RAt g X H r o t c k st wn) : Ev (tFld g.K (tVar i) "opened") σ H (.ref o) := fun H1 e1 Q q => by
  obtain ⟨dx, b, v, w, os, i, h1, _⟩ := h.ex
  exact ⟨_, hs, r, _, dx, _, _, rfl, e1 _ _ h1, G.cR, G.nR _ (by decide), rfl, q H1 (Ex.refl _)⟩
/-! a field is set -/
def Put (g : G8) (r o : Addr) (H : Hp) (f : Str) (v : V) (P : Hp → Prop) : Prop := ∃ dx fs, H r = some (.ins g.Reader dx fs) ∧ fs.length < 1000 ∧ P (upd H r (.ins g.Reader dx (putF f v fs)))
theorem pr_r {u : HO} : Pr [r, o] H (upd H r u) := pr_upd List.mem_cons_self
theorem prX (h : RAt g X H1 r o t c k st wn) (p : Pr [r, o] H H') : Pr X H H' := p.mono fun a m => by
  rcases List.mem_cons.mp m with e | m
  · subst e; exact h.rx
  · rcases List.mem_cons.mp m with e | m
    · subst e; exact h.ox
    · cases m
theorem RAt.setr (h : RAt g X H r o t c k st wn) (wn' : T) (st' : V) {dx b v w i} (bl : c'.bound.length ≤ 8 + k'.place) (bn : ∀ x ∈ c'.bound, x.length ≤ 8) (wl : (∀ x ∈ c'.words, x.length ≤ 8) ∧ c'.words.length ≤ 8) (ol : c'.opened.length ≤ k'.place) (ia : IsAt t k') (ho : c'.opened = c.opened)
    (h2 : wn' = nMore → i = c'.isBase) (h3 : At g.K X H b (.list (c'.bound.map Mi.str))) (h4 : At g.K X H v c'.value) (h5 : At g.K X H w (.tuple (c'.words.map Mi.str))) :
    RAt g X (upd H r (.ins g.Reader dx (fsR ⟨.str (S t), .str (S (kdT k'.kind)), .str (S k'.tok), .int (k'.place : Nat), b, .ref o, .str (S wn'), v, w, .bl i, st'⟩))) r o t c' k' st' wn' := by
  obtain ⟨_, _, _, _, os, _, _, _, _, _, _, h6, h7⟩ := h.ex
  have p : Pr X H (upd H r (.ins g.Reader dx (fsR ⟨.str (S t), .str (S (kdT k'.kind)), .str (S k'.tok), .int (k'.place : Nat), b, .ref o, .str (S wn'), v, w, .bl i, st'⟩))) := pr_upd h.rx
  refine ⟨h.rx, h.ox, h.ro, h.dm.upd, h.ot, h.lt, ia, bl, ol, bn, wl, by rw [ho]; exact h.oo, dx, b, v, w, os, i, upd_same, h2, h3.pr p, h4.pr p, h5.pr p, ?_, ?_⟩
  · rw [upd_ne (fun z => h.ro z.symm)]; exact h6
  · rw [ho]; exact h7.pr p
theorem p_stopped (h : RAt g X H r o t c k st wn) (v0 : V) : Put g r o H "stopped" v0 fun H' => Pr [r, o] H H' ∧ RAt g X H' r o t c k v0 wn := by
  obtain ⟨dx, b, v', w, os, i, h1, h2, h3, h4, h5, h6, h7⟩ := h.ex
  exact ⟨dx, _, h1, lenR _, pr_r, h.setr (wn) (v0) h.bl h.bn h.wl h.ol h.ia rfl h2 h3 h4 h5⟩
theorem p_value (h : RAt g X H r o t c k st wn) {v : V} {d : PyData} (a : At g.K X H v d) : Put g r o H "value" v fun H' => Pr [r, o] H H' ∧ RAt g X H' r o t { c with value := d } k st wn := by
  obtain ⟨dx, b, v', w, os, i, h1, h2, h3, h4, h5, h6, h7⟩ := h.ex
  exact ⟨dx, _, h1, lenR _, pr_r, h.setr (wn) (st) (c' := { c with value := d }) h.bl h.bn h.wl h.ol h.ia rfl h2 h3 a h5⟩
theorem p_bound (h : RAt g X H r o t c k st wn) {v : V} {bs : List T} (a : At g.K X H v (.list (bs.map Mi.str))) (hl : bs.length ≤ 8 + k.place) (hn : ∀ x ∈ bs, x.length ≤ 8) : Put g r o H "bound" v fun H' => Pr [r, o] H H' ∧ RAt g X H' r o t { c with bound := bs } k st wn := by
  obtain ⟨dx, b, v', w, os, i, h1, h2, h3, h4, h5, h6, h7⟩ := h.ex
  exact ⟨dx, _, h1, lenR _, pr_r, h.setr (wn) (st) (c' := { c with bound := bs }) hl hn h.wl h.ol h.ia rfl h2 a h4 h5⟩
theorem p_words (h : RAt g X H r o t c k st wn) {v : V} {bs : List T} (a : At g.K X H v (.tuple (bs.map Mi.str))) (hn : (∀ x ∈ bs, x.length ≤ 8) ∧ bs.length ≤ 8) : Put g r o H "words" v fun H' => Pr [r, o] H H' ∧ RAt g X H' r o t { c with words := bs } k st wn := by
  obtain ⟨dx, b, v', w, os, i, h1, h2, h3, h4, h5, h6, h7⟩ := h.ex
  exact ⟨dx, _, h1, lenR _, pr_r, h.setr (wn) (st) (c' := { c with words := bs }) h.bl h.bn hn h.ol h.ia rfl h2 h3 h4 a⟩
/-- wanted: but for more, which leans on the base -/
theorem p_wanted (h : RAt g X H r o t c k st wn) (w' : T) (hw : w' ≠ nMore ∨ wn = nMore) : Put g r o H "wanted" (.str (S w')) fun H' => Pr [r, o] H H' ∧ RAt g X H' r o t c k st w' := by
  obtain ⟨dx, b, v', w, os, i, h1, h2, h3, h4, h5, h6, h7⟩ := h.ex
  exact ⟨dx, _, h1, lenR _, pr_r, h.setr (w') (st) h.bl h.bn h.wl h.ol h.ia rfl (fun e => hw.elim (fun n => absurd e n) h2) h3 h4 h5⟩
theorem p_isb (h : RAt g X H r o t c k st wn) (b : Bool) : Put g r o H "is_base" (.bl b) fun H' => Pr [r, o] H H' ∧ RAt g X H' r o t { c with isBase := b } k st wn := by
  obtain ⟨dx, b', v', w, os, i, h1, h2, h3, h4, h5, h6, h7⟩ := h.ex
  exact ⟨dx, _, h1, lenR _, pr_r, h.setr (wn) (st) (c' := { c with isBase := b }) h.bl h.bn h.wl h.ol h.ia rfl (fun _ => rfl) h3 h4 h5⟩
/-- more is wanted, of a base or not; the field is set later -/
theorem p_more (h : RAt g X H r o t c k st wn) : Put g r o H "wanted" (.str (S nMore)) fun H' => Pr [r, o] H H' ∧ ∃ b, RAt g X H' r o t { c with isBase := b } k st nMore := by
  obtain ⟨dx, b', v', w, os, i, h1, h2, h3, h4, h5, h6, h7⟩ := h.ex
  exact ⟨dx, _, h1, lenR _, pr_r, i, h.setr (nMore) (st) (c' := { c with isBase := i }) h.bl h.bn h.wl h.ol h.ia rfl (fun _ => rfl) h3 h4 h5⟩
/-- set by a statement, by a target -/
theorem s_put {D : Ends} {tv : TE} {i : Nat} {f : Str} {P : Hp → Prop} (G : Gf g) (hs : σ[i]? = some (some (.ref r))) (hf : f ∈ (["text", "kind", "token", "place", "bound", "opened", "wanted", "value", "words", "is_base", "stopped"] : List Str))
    (hv : EvD g.K X tv σ H d) (hp : ∀ v H1, Ex H H1 → At g.K X H1 v d → Put g r o H1 f v P) (k : ∀ H', P H' → D.nx σ H') : sFld g.K (tVar i) tv f D σ H := hv H (Ex.refl _) _ fun v H1 e1 av => by
  obtain ⟨dx, fs, h1, h2, h3⟩ := hp v H1 e1 av
  exact ⟨_, hs, r, _, dx, fs, rfl, h1, G.cR, G.nR f hf, h2, k _ h3⟩
theorem q_put {D : Ends} {tv : TE} {tz : TS} {i : Nat} {f : Str} {P : Hp → Prop} (G : Gf g) (hs : σ[i]? = some (some (.ref r))) (hf : f ∈ (["text", "kind", "token", "place", "bound", "opened", "wanted", "value", "words", "is_base", "stopped"] : List Str))
    (hv : EvD g.K X tv σ H d) (hp : ∀ v H1, Ex H H1 → At g.K X H1 v d → Put g r o H1 f v P) (k : ∀ H', P H' → tz D σ H') : tSeq (sFld g.K (tVar i) tv f) tz D σ H := s_put (D := { D with nx := tz D }) G hs hf hv hp k
theorem g_put {i : Nat} {f : Str} {P : Hp → Prop} {Q : L2.St → Hp → Prop} (G : Gf g) (hs : σ[i]? = some (some (.ref r))) (hf : f ∈ (["text", "kind", "token", "place", "bound", "opened", "wanted", "value", "words", "is_base", "stopped"] : List Str))
    (hp : Put g r o H f v P) (k : ∀ H', P H' → Q σ H') : gFld g.K (tVar i) f v σ H Q := by
  obtain ⟨dx, fs, h1, h2, h3⟩ := hp
  exact ⟨_, hs, r, _, dx, fs, rfl, h1, G.cR, G.nR f hf, h2, k _ h3⟩
end
end Dy
namespace Dy
open PySem L2 Evl Mi
/-! ### what each def promises: of data alone -/
def pSp (K : PySem.W.Frag) (R : List PyData → PyData → Prop) : Sp := fun vs H Q _ => ∃ X ds z, Dom X H ∧ Ats K X H vs ds ∧ R ds z ∧ ∀ v H', Ex H H' → At K X H' v z → Q v H'
theorem spd {K : PySem.W.Frag} {X : List Addr} {H : Hp} {R : List PyData → PyData → Prop} {ds : List PyData} {z : PyData} (dm : Dom X H) (h : R ds z) : SpD K X (pSp K R) ds H z := fun H1 e1 xs ax Q E q => ⟨X, ds, z, dm.pr e1, ax, h, q⟩
theorem p_len {K : PySem.W.Frag} {R : List PyData → PyData → Prop} {n : Nat} (h : ∀ ds z, R ds z → ds.length = n) : ∀ vs H Q E, pSp K R vs H Q E → vs.length = n := fun vs H Q E ⟨X, ds, z, _, a, r, _⟩ => by rw [a.len]; exact h ds z r
inductive TBr : PyData → List PyData → Prop
  | num {n : Nat} : n ≤ 999999 → TBr (pair kNumber (.int n)) []
  | var {x : T} : NameOk x → TBr (pair kLetter (Mi.str x)) []
  | neg {a} : TBr (pair kNeg a) [a]
  | bin {h a b} : h ∈ [kPlus, kMinus, kTimes] → TBr (trip h a b) [a, b]
  | pow {a} {n : Nat} : n ≤ 9 → TBr (trip kPower a (.int n)) [a]
inductive SBr : PyData → List PyData → Prop
  | rel {r a b} : r ∈ RELS → SBr (trip r a b) []
  | not {f} : SBr (pair kNot f) [f]
  | bin {h f g} : h ∈ PAIRS → SBr (trip h f g) [f, g]
  | quant {h x f} : h ∈ [kAll, kSome] → NameOk x → SBr (trip h (Mi.str x) f) [f]
mutual
/-- how many tuples and lists -/
def nd : PyData → Nat
  | .tuple ds => 1 + nds ds
  | .list ds => 1 + nds ds
  | _ => 0
def nds : List PyData → Nat
  | [] => 0
  | d :: ds => nd d + nds ds
end
def sp_is_integer (g : G8) : Sp := pSp g.K fun ds z => ∃ d, ds = [d] ∧ ((∃ i, d = .int i ∧ z = .bool true) ∨ (d = .none ∧ z = .bool false))
def sp_is_row (g : G8) : Sp := pSp g.K fun ds z => ∃ d, ds = [d] ∧ ((∃ l, d = .list l) ∨ ∃ l, d = .tuple l) ∧ z = .bool true
def sp_is_name (g : G8) : Sp := pSp g.K fun ds z => ∃ x, NameOk x ∧ ds = [Mi.str x] ∧ z = .bool true
def sp_is_head (g : G8) : Sp := pSp g.K fun ds z => ∃ (h : T) (rest : List PyData) (hs : List T) (n : Nat), ds = [.tuple (Mi.str h :: rest), .tuple (hs.map Mi.str), .int n] ∧ z = .bool (decide (rest.length + 1 = n) && decide (h ∈ hs))
def sp_term_breach (g : G8) : Sp := pSp g.K fun ds z => ∃ d ps, TBr d ps ∧ ds = [d] ∧ z = .list ps
def sp_are_terms (g : G8) : Sp := pSp g.K fun ds z => ∃ l, (∀ d ∈ l, TermD d) ∧ nds l ≤ 100000 ∧ ds = [.tuple l] ∧ z = .bool true
def sp_saying_parts (g : G8) : Sp := pSp g.K fun ds z => ∃ d ps, SBr d ps ∧ ds = [d] ∧ z = .list ps
def sp_is_saying (g : G8) : Sp := pSp g.K fun ds z => ∃ d, SayD d ∧ nd d ≤ 100000 ∧ ds = [d] ∧ z = .bool true
def sp_run_end (g : G8) : Sp := pSp g.K fun ds z => ∃ (t s : T) (a : Nat), a ≤ t.length ∧ t.length ≤ 10000 ∧ ds = [Mi.str t, .int a, Mi.str s] ∧ z = .int (runEnd (fun c => decide (c ∈ s)) t a : Nat)
def sp_token_at (g : G8) : Sp := pSp g.K fun ds z => ∃ (t : T) (a : Nat), a ≤ t.length ∧ t.length ≤ 10000 ∧ ds = [Mi.str t, .int a] ∧ z = .tuple [Mi.str (kdT (tokenAt t a).kind), Mi.str (tokenAt t a).tok, .int ((tokenAt t a).place : Nat)]
def sp_longest_shared (g : G8) : Sp := pSp g.K fun ds z => ∃ (u : T) (ws : List T), u.length ≤ 10000 ∧ (∀ x ∈ ws, x.length ≤ 10000) ∧ ds = [Mi.str u, .tuple (ws.map Mi.str)] ∧ z = .int (longest u ws : Nat)
/-! ### objects -/
def sp_Read_init (g : G8) : Sp := fun vs H Q _ => ∃ r dx v, vs = [.ref r, v] ∧ H r = some (.ins g.Read dx []) ∧ ∀ H', (∀ a, a ≠ r → H' a = H a) → H' r = some (.ins g.Read dx [("tree", v)]) → Q .non H'
def sp_Unread_init (g : G8) : Sp := fun vs H Q _ => ∃ r dx v w, vs = [.ref r, v, w] ∧ H r = some (.ins g.Unread dx []) ∧ ∀ H', (∀ a, a ≠ r → H' a = H a) → H' r = some (.ins g.Unread dx [("place", v), ("is_end", w)]) → Q .non H'
/-! ### the reader -/
def offN (k : Mi.Kind) (u : T) (ws : List T) (ne : Bool) : Nat := match k with
  | .word => longest u ws
  | .bad => if u = [33] ∧ ne = true then 1 else 0
  | _ => 0
theorem stopAt_off (k : Mi.Kind) (u : T) (ws : List T) (ne : Bool) : stopAt k u ws ne = .stop (offN k u ws ne) := by
  cases k <;> unfold stopAt offN <;> try rfl
  simp only
  split <;> rfl
def wT : W → T
  | .unit => nUnit
  | .term => nTerm
  | .base => nBase
  | .more => nMore
  | .joined => nJoined
  | _ => []
def rk : W → Nat
  | .unit => 3
  | .term => 2
  | .base => 1
  | .more => 1
  | _ => 0
def mu (c : Co) (k : Lk) : Nat := (10000 - k.place) * 20000 + (c.opened.length + rk c.w)
def Nx (t : T) (R : Res) (c' : Co) (k' : Lk) (st' : V) (wn' : T) (m : Nat) : Prop :=
  (∃ p : Nat, st' = .int (p : Nat) ∧ R = .unread p) ∨ (st' = .non ∧ wn' = wT c'.w ∧ wT c'.w ≠ [] ∧ pz t c' k' = R ∧ mu c' k' < m) ∨ (st' = .non ∧ wn' = nNothing ∧ R = .read c'.value)
/-- a step of reading -/
def Nxt (g : G8) (X : List Addr) (H : Hp) (r o : Addr) (t : T) (R : Res) (m : Nat) (Q : VK) : Prop := ∀ H' c' k' st' wn', Pr [r, o] H H' → RAt g X H' r o t c' k' st' wn' → Nx t R c' k' st' wn' m → Q .non H'
def nameStop (k : Mi.Kind) (u : T) : Option Nat := if k ≠ .word then some (offN k u [] false) else if 8 < u.length then some 8 else if u ∈ WORDS then some u.length else none
def numStop (k : Mi.Kind) (u : T) (m : Nat) : Option Nat := if k ≠ .number then some (offN k u [] false) else if u.head? = some 48 ∧ 1 < u.length then some 1 else if m < u.length then some m else none
def sp_Reader_init (g : G8) : Sp := fun vs H Q _ => ∃ X r dx t f, ∃ free : List T, vs = [.ref r, .str (S t), f] ∧ r ∈ X ∧ Dom X H ∧ H r = some (.ins g.Reader dx []) ∧ ok (S t) ∧ t.length ≤ 10000 ∧ (At g.K X H f (.list (free.map Mi.str)) ∨ At g.K X H f (.tuple (free.map Mi.str))) ∧ free.length ≤ 8 ∧ (∀ x ∈ free, x.length ≤ 8) ∧
  ∀ H' o, Pr [r] H H' → H o = none → RAt g (o :: X) H' r o t (start free) (tokenAt t 0) .non nUnit → Q .non H'
def sp_Reader_step (g : G8) : Sp := fun vs H Q _ => ∃ X r o t c k st wn, vs = [.ref r] ∧ RAt g X H r o t c k st wn ∧ ∀ H', Pr [r, o] H H' → RAt g X H' r o t c (next t k) st wn → Q (.str (S k.tok)) H'
def sp_Reader_at (g : G8) : Sp := fun vs H Q _ => ∃ X r o t c k st wn kd v, ∃ ts : List T, vs = [.ref r, .str (S kd), v] ∧ ok (S kd) ∧ RAt g X H r o t c k st wn ∧ At g.K X H v (.tuple (ts.map Mi.str)) ∧ ∀ H', Ex H H' → Q (.bl (decide (kdT k.kind = kd) && decide (k.tok ∈ ts))) H'
def sp_Reader_top (g : G8) : Sp := fun vs H Q _ => ∃ X r o t c k st wn, vs = [.ref r] ∧ RAt g X H r o t c k st wn ∧ ∀ H', Ex H H' → ok (S (Mi.top c.opened)) → Q (.str (S (Mi.top c.opened))) H'
def sp_Reader_stop (g : G8) : Sp := fun vs H Q _ => ∃ X r o t c k st wn w s, ∃ ws ss : List T, vs = [.ref r, w, s] ∧ RAt g X H r o t c k st wn ∧ At g.K X H w (.tuple (ws.map Mi.str)) ∧ At g.K X H s (.tuple (ss.map Mi.str)) ∧ (∀ x ∈ ws, x.length ≤ 8) ∧
  ∀ H', Pr [r, o] H H' → RAt g X H' r o t c k (.int ((k.place + offN k.kind k.tok ws (decide ([33, 61] ∈ ss)) : Nat) : Int)) wn → Q .non H'
def sp_read_name (g : G8) : Sp := fun vs H Q _ => ∃ X r o t c k st wn, vs = [.ref r] ∧ RAt g X H r o t c k st wn ∧
  (∀ p, nameStop k.kind k.tok = some p → ∀ H', Pr [r, o] H H' → RAt g X H' r o t c k (.int ((k.place + p : Nat) : Int)) wn → Q .non H') ∧
  (nameStop k.kind k.tok = none → ∀ H', Pr [r, o] H H' → RAt g X H' r o t c (next t k) st wn → Q (.str (S k.tok)) H')
def sp_read_number (g : G8) : Sp := fun vs H Q _ => ∃ X r o t c k st wn, ∃ m : Nat, vs = [.ref r, .int m] ∧ m ≤ 6 ∧ RAt g X H r o t c k st wn ∧
  (∀ p, numStop k.kind k.tok m = some p → ∀ H', Pr [r, o] H H' → RAt g X H' r o t c k (.int ((k.place + p : Nat) : Int)) wn → Q .non H') ∧
  (numStop k.kind k.tok m = none → ∀ H', Pr [r, o] H H' → RAt g X H' r o t c (next t k) st wn → Q (.int (numOf k.tok : Nat)) H')
def sp_read_bound (g : G8) : Sp := fun vs H Q _ => ∃ X r o t c k, vs = [.ref r] ∧ RAt g X H r o t c k .non nUnit ∧ k.kind = .word ∧ (k.tok = kAll ∨ k.tok = kSome) ∧ c.w = .unit ∧ Nxt g X H r o t (pz t c k) (mu c k) Q
def rSp (g : G8) (w : W) : Sp := fun vs H Q _ => ∃ X r o t c k, vs = [.ref r] ∧ RAt g X H r o t c k .non (wT w) ∧ c.w = w ∧ Nxt g X H r o t (pz t c k) (mu c k) Q
def sp_read_unit (g : G8) : Sp := rSp g .unit
def sp_read_term (g : G8) : Sp := rSp g .term
def sp_read_base (g : G8) : Sp := rSp g .base
def sp_read_more (g : G8) : Sp := rSp g .more
def sp_read_joined (g : G8) : Sp := rSp g .joined
def sp_read_next (g : G8) : Sp := fun vs H Q _ => ∃ X r o t c k, vs = [.ref r] ∧ RAt g X H r o t c k .non (wT c.w) ∧ wT c.w ≠ [] ∧ Nxt g X H r o t (pz t c k) (mu c k) Q
def sp_join_open (g : G8) : Sp := fun vs H Q _ => ∃ X r o t c k st wn v, ∃ hs : List T, vs = [.ref r, v] ∧ RAt g X H r o t c k st wn ∧ At g.K X H v (.tuple (hs.map Mi.str)) ∧ [] ∉ hs ∧
  ∀ H', Pr [r, o] H H' → RAt g X H' r o t (join c hs) k st wn → Q (.bl (decide (Mi.top c.opened ∈ hs))) H'
def sp_go_on (g : G8) : Sp := fun vs H Q _ => ∃ X r o t c k st wn kd v, ∃ ts : List T, ∃ h w', vs = [.ref r, .str (S kd), v, .str (S h), .str (S w')] ∧ kd ≠ kdT .fin ∧ ok (S kd) ∧ ok (S h) ∧ ok (S w') ∧ w' ≠ nMore ∧ FrOk (.two h .none) ∧ RAt g X H r o t c k st wn ∧ At g.K X H v (.tuple (ts.map Mi.str)) ∧
  (kdT k.kind = kd ∧ k.tok ∈ ts → ∀ H', Pr [r, o] H H' → RAt g X H' r o t { c with opened := .two h c.value :: c.opened } (next t k) st w' → Q (.bl true) H') ∧ (¬ (kdT k.kind = kd ∧ k.tok ∈ ts) → ∀ H', Ex H H' → Q (.bl false) H')
def sp_close_bracket (g : G8) : Sp := fun vs H Q _ => ∃ X r o t c k, vs = [.ref r] ∧ RAt g X H r o t c k .non nMore ∧ Mi.top c.opened = [40] ∧
  (k.kind = .sign ∧ k.tok = [41] → ∀ H', Pr [r, o] H H' → RAt g X H' r o t { c with opened := c.opened.tail, isBase := true } (next t k) .non nMore → Q .non H') ∧
  (¬ (k.kind = .sign ∧ k.tok = [41]) → ∀ H', Pr [r, o] H H' → RAt g X H' r o t c k (.int ((k.place + offN k.kind k.tok [] false : Nat) : Int)) nMore → Q .non H')
/-! ### settled -/
def FreeAt (g : G8) (X : List Addr) (H : Hp) (f : V) (free : List T) : Prop := (At g.K X H f (.list (free.map Mi.str)) ∨ At g.K X H f (.tuple (free.map Mi.str))) ∧ free.length ≤ 8 ∧ (∀ x ∈ free, NameOk x) ∧ free.Nodup
def SRes (g : G8) (X : List Addr) (H : Hp) (a : Addr) (t : T) : Res → Prop
  | .unread p => ∃ dx, H a = some (.ins g.Unread dx [("place", .int (p : Nat)), ("is_end", .bl (decide (p = t.length)))])
  | .read d => ∃ dx v, H a = some (.ins g.Read dx [("tree", v)]) ∧ At g.K X H v d
def sp_need_text (g : G8) : Sp := fun vs H Q _ => ∃ X t f free, vs = [.str (S t), f] ∧ Dom X H ∧ ok (S t) ∧ FreeAt g X H f free ∧ ∀ H', Ex H H' → Q .non H'
def sp_settled_formula (g : G8) : Sp := fun vs H Q _ => ∃ X t f free, vs = [.str (S t), f] ∧ Dom X H ∧ ok (S t) ∧ t.length ≤ 10000 ∧ FreeAt g X H f free ∧ ∀ H' a, Ex H H' → H a = none → SRes g X H' a t (settle t free) → Q (.ref a) H'
def sp_settle_formula (g : G8) : Sp := sp_settled_formula g
def sp_settle_text (g : G8) : Sp := fun vs H Q _ => ∃ X t, vs = [.str (S t)] ∧ Dom X H ∧ ok (S t) ∧ t.length ≤ 10000 ∧ ∀ H' a, Ex H H' → H a = none → SRes g X H' a t (settle t []) → Q (.ref a) H'
inductive Ans
  | un (p e : PyData)
  | rd (d : PyData)
  | num (i : Int)
def AnsAt (g : G8) (X : List Addr) (H : Hp) (v : V) : Ans → Prop
  | .un p e => ∃ a dx x y, v = .ref a ∧ H a = some (.ins g.Unread dx [("place", x), ("is_end", y)]) ∧ At g.K X H x p ∧ At g.K X H y e
  | .rd d => ∃ a dx x, v = .ref a ∧ H a = some (.ins g.Read dx [("tree", x)]) ∧ At g.K X H x d
  | .num i => v = .int i
abbrev tup1 (x : T) : PyData := .tuple [Mi.str x]
abbrev nPlace : T := [112, 108, 97, 99, 101]
abbrev nEnd : T := [101, 110, 100]
inductive Flt8 (t : T) : Res → Ans → PyData → Prop
  | rdU {p d} : Flt8 t (.unread p) (.rd d) (tup1 [117, 110, 114, 101, 97, 100])
  | rdR {d} : SayD d → nd d ≤ 1000 → Flt8 t (.read d) (.rd d) .none
  | num {p i} : Flt8 t (.unread p) (.num i) (tup1 [97, 110, 115, 119, 101, 114])
  | pl0 {p e} : Flt8 t (.unread p) (.un .none e) (tup1 nPlace)
  | plN {p : Nat} {q : Int} {e} : q ≠ p → Flt8 t (.unread p) (.un (.int q) e) (tup1 nPlace)
  | en0 {p : Nat} : Flt8 t (.unread p) (.un (.int p) .none) (tup1 nEnd)
  | enB {p : Nat} {b : Bool} : Flt8 t (.unread p) (.un (.int p) (.bool b)) (if b = decide (p = t.length) then .none else tup1 nEnd)
def sp_reading_fault (g : G8) : Sp := fun vs H Q _ => ∃ X t f free v A z, vs = [.str (S t), f, v] ∧ Dom X H ∧ ok (S t) ∧ t.length ≤ 10000 ∧ FreeAt g X H f free ∧ AnsAt g X H v A ∧ Flt8 t (settle t free) A z ∧ ∀ H' u, Ex H H' → At g.K X H' u z → Q u H'
end Dy
namespace Mi
open PySem
/-! ### trees: size, names -/
def Tm.sz : Tm → Nat
  | .num _ => 1
  | .var _ => 1
  | .neg a => a.sz + 1
  | .bin _ a b => a.sz + b.sz + 1
  | .pow a _ => a.sz + 1
def Sy.sz : Sy → Nat
  | .rel _ a b => a.sz + b.sz + 1
  | .not f => f.sz + 1
  | .bin _ f g => f.sz + g.sz + 1
  | .quant _ _ f => f.sz + 1
def Tm.vars : Tm → List T
  | .num _ => []
  | .var x => [x]
  | .neg a => a.vars
  | .bin _ a b => a.vars ++ b.vars
  | .pow a _ => a.vars
def Tm.Wf : Tm → Prop
  | .num n => n ≤ 9
  | .var x => NameOk x
  | .neg a => a.Wf
  | .bin _ a b => a.Wf ∧ b.Wf
  | .pow a n => a.Wf ∧ n ≤ 9
def Sy.Wf : Sy → Prop
  | .rel r a b => r ∈ RELS ∧ a.Wf ∧ b.Wf
  | .not f => f.Wf
  | .bin _ f g => f.Wf ∧ g.Wf
  | .quant _ x f => NameOk x ∧ f.Wf
/-- a name that is free -/
def Sy.Free (x : T) : Sy → Prop
  | .rel _ a b => x ∈ a.vars ∨ x ∈ b.vars
  | .not f => f.Free x
  | .bin _ f g => f.Free x ∨ g.Free x
  | .quant _ y f => x ≠ y ∧ f.Free x
theorem Tm.in_of : ∀ {a : Tm} {B : List T}, a.Wf → (∀ x ∈ a.vars, x ∈ B) → a.In B
  | .num n, B, h, _ => h
  | .var x, B, _, h => h x (by simp [vars])
  | .neg a, B, w, h => Tm.in_of (a := a) w h
  | .bin _ a b, B, w, h => ⟨Tm.in_of w.1 fun x hx => h x (by simp [vars, hx]), Tm.in_of w.2 fun x hx => h x (by simp [vars, hx])⟩
  | .pow a n, B, w, h => ⟨Tm.in_of w.1 h, w.2⟩
theorem Sy.in_of : ∀ {f : Sy} {B : List T}, f.Wf → (∀ x, f.Free x → x ∈ B) → f.In B
  | .rel r a b, B, w, h => ⟨w.1, Tm.in_of w.2.1 fun x hx => h x (.inl hx), Tm.in_of w.2.2 fun x hx => h x (.inr hx)⟩
  | .not f, B, w, h => Sy.in_of (f := f) w h
  | .bin _ f g, B, w, h => ⟨Sy.in_of w.1 fun x hx => h x (.inl hx), Sy.in_of w.2 fun x hx => h x (.inr hx)⟩
  | .quant _ y f, B, w, h => ⟨w.1, Sy.in_of w.2 fun x hx => by
    by_cases e : x = y
    · rw [e]; simp
    · exact List.mem_append_left _ (h x ⟨e, hx⟩)⟩
/-! ### work still to do -/
inductive It8
  | tok (w : T)
  | say (f : Sy) (l : Nat)
  | ter (a : Tm) (l : Nat)
def Sy.flat : Sy → List It8
  | .rel r a b => [.ter a 0, .tok r, .ter b 0]
  | .not f => [.tok kNot, .say f 3]
  | .bin o f g => [.say f o.l, .tok o.name, .say g o.r]
  | .quant q x f => [.tok (qName q), .tok x, .tok [58], .say f 0]
def Tm.flat : Tm → List It8
  | .num n => [.tok (dig n)]
  | .var x => [.tok x]
  | .neg a => [.tok [45], .ter a 1]
  | .bin o a b => [.ter a o.l, .tok o.sign, .ter b o.r]
  | .pow a n => [.ter a 3, .tok [94], .tok (dig n)]
def Sy.spread (f : Sy) (l : Nat) (more : Bool) : List It8 := if f.own < l then [.tok [91], .say f 0, .tok [93]] else if more then [.tok [91]] ++ f.flat ++ [.tok [93]] else f.flat
def Tm.spread (a : Tm) (l : Nat) (more : Bool) : List It8 := if a.own < l then [.tok [40], .ter a 0, .tok [41]] else if more then [.tok [40]] ++ a.flat ++ [.tok [41]] else a.flat
inductive Yl : List It8 → List T → Prop
  | nil : Yl [] []
  | tok {w its ws} : Yl its ws → Yl (.tok w :: its) (w :: ws)
  | say {f l us its ws} : STok l f us → Yl its ws → Yl (.say f l :: its) (us ++ ws)
  | ter {a l us its ws} : TTok l a us → Yl its ws → Yl (.ter a l :: its) (us ++ ws)
theorem Yl.split : ∀ {is js : List It8} {ws : List T}, Yl (is ++ js) ws → ∃ us vs, ws = us ++ vs ∧ Yl is us ∧ Yl js vs
  | [], js, ws, h => ⟨[], ws, rfl, .nil, h⟩
  | .tok w :: is, js, _, .tok h => by
    obtain ⟨us, vs, e, h1, h2⟩ := h.split
    exact ⟨w :: us, vs, by rw [e]; rfl, .tok h1, h2⟩
  | .say f l :: is, js, _, .say hs h => by
    obtain ⟨us, vs, e, h1, h2⟩ := h.split
    exact ⟨_ ++ us, vs, by rw [e, List.append_assoc], .say hs h1, h2⟩
  | .ter f l :: is, js, _, .ter hs h => by
    obtain ⟨us, vs, e, h1, h2⟩ := h.split
    exact ⟨_ ++ us, vs, by rw [e, List.append_assoc], .ter hs h1, h2⟩
theorem flat_ter {a : Tm} {us : List T} {l : Nat} (h : Yl a.flat us) (hl : l ≤ a.own) : TTok l a us := by
  cases a with
  | num n => cases h with | tok h => cases h; exact .num
  | var x => cases h with | tok h => cases h; exact .var
  | neg a =>
    cases h with
    | tok h =>
      cases h with
      | ter h1 h =>
        cases h
        rw [List.append_nil]
        have : l = 0 := by simpa [Tm.own] using hl
        subst this
        exact .neg h1
  | bin o a b =>
    cases h with
    | ter h1 h =>
      cases h with
      | tok h =>
        cases h with
        | ter h2 h =>
          cases h
          rw [List.append_nil]
          exact .bin hl h1 h2
  | pow a n =>
    cases h with
    | ter h1 h =>
      cases h with
      | tok h =>
        cases h with
        | tok h =>
          cases h
          exact .pow hl h1
theorem spread_ter {a : Tm} {us : List T} {l : Nat} {more : Bool} (h : Yl (a.spread l more) us) : TTok l a us := by
  unfold Tm.spread at h
  split at h
  · cases h with
    | tok h =>
      cases h with
      | ter h1 h =>
        cases h with
        | tok h => cases h; exact .paren h1
  · rename_i ho
    split at h
    · rw [List.append_assoc] at h
      have h0 : Yl (.tok [40] :: (a.flat ++ [.tok [41]])) us := h
      clear h
      cases h0 with
      | tok h' =>
        obtain ⟨us, vs, rfl, h1, h2⟩ := h'.split
        cases h2 with
        | tok h2 => cases h2; exact .paren (flat_ter h1 (Nat.zero_le _))
    · exact flat_ter h (by omega)
theorem flat_say {f : Sy} {us : List T} {l : Nat} (h : Yl f.flat us) (hl : l ≤ f.own) : STok l f us := by
  cases f with
  | rel r a b =>
    cases h with
    | ter h1 h =>
      cases h with
      | tok h =>
        cases h with
        | ter h2 h =>
          cases h
          rw [List.append_nil]
          exact .rel h1 h2
  | not f =>
    cases h with
    | tok h =>
      cases h with
      | say h1 h =>
        cases h
        rw [List.append_nil]
        exact .not h1
  | bin o a b =>
    cases h with
    | say h1 h =>
      cases h with
      | tok h =>
        cases h with
        | say h2 h =>
          cases h
          rw [List.append_nil]
          exact .bin hl h1 h2
  | quant q x f =>
    cases h with
    | tok h =>
      cases h with
      | tok h =>
        cases h with
        | tok h =>
          cases h with
          | say h1 h =>
            cases h
            rw [List.append_nil]
            have : l = 0 := by simpa [Sy.own] using hl
            subst this
            exact .quant h1
theorem spread_say {f : Sy} {us : List T} {l : Nat} {more : Bool} (h : Yl (f.spread l more) us) : STok l f us := by
  unfold Sy.spread at h
  split at h
  · cases h with
    | tok h =>
      cases h with
      | say h1 h =>
        cases h with
        | tok h => cases h; exact .paren h1
  · rename_i ho
    split at h
    · rw [List.append_assoc] at h
      have h0 : Yl (.tok [91] :: (f.flat ++ [.tok [93]])) us := h
      clear h
      cases h0 with
      | tok h' =>
        obtain ⟨us, vs, rfl, h1, h2⟩ := h'.split
        cases h2 with
        | tok h2 => cases h2; exact .paren (flat_say h1 (Nat.zero_le _))
    · exact flat_say h (by omega)
theorem Yl.open_say {f : Sy} {l : Nat} {more : Bool} {its : List It8} {ws : List T} (h : Yl (f.spread l more ++ its) ws) : Yl (.say f l :: its) ws := by
  obtain ⟨us, vs, rfl, h1, h2⟩ := h.split
  exact .say (spread_say h1) h2
theorem Yl.open_ter {f : Tm} {l : Nat} {more : Bool} {its : List It8} {ws : List T} (h : Yl (f.spread l more ++ its) ws) : Yl (.ter f l :: its) ws := by
  obtain ⟨us, vs, rfl, h1, h2⟩ := h.split
  exact .ter (spread_ter h1) h2
/-! the work left falls -/
def It8.wt : It8 → Nat
  | .tok _ => 1
  | .say f l => 20 * f.sz + (if l = 0 then 0 else 4)
  | .ter a l => 20 * a.sz + (if l = 0 then 0 else 4)
def wts : List It8 → Nat
  | [] => 0
  | i :: is => i.wt + wts is
theorem wts_app : ∀ is js : List It8, wts (is ++ js) = wts is + wts js
  | [], js => by rw [List.nil_append]; show _ = 0 + _; omega
  | i :: is, js => by
    show i.wt + wts (is ++ js) = i.wt + wts is + wts js
    rw [wts_app is js]; omega
theorem lev4 {l : Nat} : (if l = 0 then 0 else 4) ≤ 4 := by split <;> omega
theorem flat_wt (f : Sy) : wts f.flat + 3 < 20 * f.sz := by
  cases f with
  | rel r a b => show 20 * a.sz + 0 + (1 + (20 * b.sz + 0 + 0)) + 3 < 20 * (a.sz + b.sz + 1); omega
  | not f => show 1 + (20 * f.sz + 4 + 0) + 3 < 20 * (f.sz + 1); omega
  | bin o f g =>
    have := lev4 (l := o.l)
    have := lev4 (l := o.r)
    show 20 * f.sz + (if o.l = 0 then 0 else 4) + (1 + (20 * g.sz + (if o.r = 0 then 0 else 4) + 0)) + 3 < 20 * (f.sz + g.sz + 1)
    omega
  | quant q x f => show 1 + (1 + (1 + (20 * f.sz + 0 + 0))) + 3 < 20 * (f.sz + 1); omega
theorem tflat_wt (f : Tm) : wts f.flat + 3 < 20 * f.sz := by
  cases f with
  | num n => show 1 + 0 + 3 < 20; omega
  | var n => show 1 + 0 + 3 < 20; omega
  | neg f => show 1 + (20 * f.sz + 4 + 0) + 3 < 20 * (f.sz + 1); omega
  | bin o f g =>
    have := lev4 (l := o.l)
    have := lev4 (l := o.r)
    show 20 * f.sz + (if o.l = 0 then 0 else 4) + (1 + (20 * g.sz + (if o.r = 0 then 0 else 4) + 0)) + 3 < 20 * (f.sz + g.sz + 1)
    omega
  | pow f n => show 20 * f.sz + 4 + (1 + (1 + 0)) + 3 < 20 * (f.sz + 1); omega
theorem spread_wt (f : Sy) (l : Nat) (more : Bool) : wts (f.spread l more) < (It8.say f l).wt := by
  have h := flat_wt f
  unfold Sy.spread
  split
  · rename_i ho
    show 1 + (20 * f.sz + 0 + (1 + 0)) < 20 * f.sz + (if l = 0 then 0 else 4)
    rw [if_neg (by omega)]; omega
  · split
    · rw [wts_app, wts_app]
      show 1 + 0 + wts f.flat + (1 + 0) < 20 * f.sz + _
      omega
    · show _ < 20 * f.sz + _
      omega
theorem tspread_wt (f : Tm) (l : Nat) (more : Bool) : wts (f.spread l more) < (It8.ter f l).wt := by
  have h := tflat_wt f
  unfold Tm.spread
  split
  · rename_i ho
    show 1 + (20 * f.sz + 0 + (1 + 0)) < 20 * f.sz + (if l = 0 then 0 else 4)
    rw [if_neg (by omega)]; omega
  · split
    · rw [wts_app, wts_app]
      show 1 + 0 + wts f.flat + (1 + 0) < 20 * f.sz + _
      omega
    · show _ < 20 * f.sz + _
      omega
theorem Tm.sz_pos (a : Tm) : 1 ≤ a.sz := by cases a <;> simp [Tm.sz]
theorem Sy.sz_pos (a : Sy) : 1 ≤ a.sz := by cases a <;> simp [Sy.sz]
theorem wt_pos (i : It8) : 1 ≤ i.wt := by
  cases i with
  | tok w => exact Nat.le_refl _
  | say f l => have := f.sz_pos; show 1 ≤ 20 * f.sz + _; omega
  | ter f l => have := f.sz_pos; show 1 ≤ 20 * f.sz + _; omega
theorem wts_len : ∀ is : List It8, is.length ≤ wts is
  | [] => Nat.le_refl _
  | i :: is => by
    have := wt_pos i
    have := wts_len is
    show is.length + 1 ≤ i.wt + wts is
    omega
/-- what may be written -/
def It8.Ok : It8 → Prop
  | .tok _ => True
  | .say f _ => f.Wf
  | .ter a _ => a.Wf
theorem spread_ok {f : Sy} (h : f.Wf) (l : Nat) (more : Bool) : ∀ i ∈ f.spread l more, i.Ok := by
  have hf : ∀ i ∈ f.flat, i.Ok := by
    cases f with
    | rel r a b => intro i hi; simp [Sy.flat] at hi; rcases hi with e | e | e <;> subst e <;> first | trivial | exact h.2.1 | exact h.2.2
    | not f => intro i hi; simp [Sy.flat] at hi; rcases hi with e | e <;> subst e <;> first | trivial | exact h
    | bin o f g => intro i hi; simp [Sy.flat] at hi; rcases hi with e | e | e <;> subst e <;> first | trivial | exact h.1 | exact h.2
    | quant q x f => intro i hi; simp [Sy.flat] at hi; rcases hi with e | e | e | e <;> subst e <;> first | trivial | exact h.2
  unfold Sy.spread
  split
  · intro i hi; simp at hi; rcases hi with e | e | e <;> subst e <;> first | trivial | exact h
  · split
    · intro i hi
      simp at hi
      rcases hi with e | e | e
      · subst e; trivial
      · exact hf i e
      · subst e; trivial
    · exact hf
theorem tspread_ok {f : Tm} (h : f.Wf) (l : Nat) (more : Bool) : ∀ i ∈ f.spread l more, i.Ok := by
  have hf : ∀ i ∈ f.flat, i.Ok := by
    cases f with
    | num n => intro i hi; simp [Tm.flat] at hi; subst hi; trivial
    | var n => intro i hi; simp [Tm.flat] at hi; subst hi; trivial
    | neg f => intro i hi; simp [Tm.flat] at hi; rcases hi with e | e <;> subst e <;> first | trivial | exact h
    | bin o f g => intro i hi; simp [Tm.flat] at hi; rcases hi with e | e | e <;> subst e <;> first | trivial | exact h.1 | exact h.2
    | pow f n => intro i hi; simp [Tm.flat] at hi; rcases hi with e | e | e <;> subst e <;> first | trivial | exact h.1
  unfold Tm.spread
  split
  · intro i hi; simp at hi; rcases hi with e | e | e <;> subst e <;> first | trivial | exact h
  · split
    · intro i hi
      simp at hi
      rcases hi with e | e | e
      · subst e; trivial
      · exact hf i e
      · subst e; trivial
    · exact hf
end Mi
namespace Mi
open PySem
def an (c : Nat) : Bool := isL c || isF c
def WordT (w : T) : Prop := (∃ c r, w = c :: r ∧ isL c = true) ∧ ∀ d ∈ w, an d = true
def TokOk (w : T) : Prop := WordT w ∨ (∃ d, w = [d] ∧ isF d = true) ∨ w ∈ SIGNS
theorem blank_not {c : Nat} (h : isB c = true) : isL c = false ∧ isF c = false ∧ c ≠ 61 := by
  have : c = 32 ∨ c = 10 := by unfold isB at h; simpa using h
  rcases this with e | e <;> subst e <;> decide
theorem tok_head {w : T} (h : TokOk w) : ∃ c r, w = c :: r ∧ isB c = false := by
  rcases h with ⟨⟨c, r, e, h⟩, _⟩ | ⟨d, e, h⟩ | h
  · refine ⟨c, r, e, ?_⟩
    cases hb : isB c with
    | false => rfl
    | true => rw [(blank_not hb).1] at h; cases h
  · refine ⟨d, [], e, ?_⟩
    cases hb : isB d with
    | false => rfl
    | true => rw [(blank_not hb).2.1] at h; cases h
  · have : ∀ w ∈ SIGNS, (w.head?.map isB) = some false := by decide
    have := this w h
    cases w with
    | nil => cases this
    | cons c r => exact ⟨c, r, rfl, by simpa using this⟩
theorem tw_app {p : Nat → Bool} {b r : T} (hb : ∀ c ∈ b, p c = true) (hr : ∀ c q, r = c :: q → p c = false) : (b ++ r).takeWhile p = b := by
  rw [List.takeWhile_append_of_pos hb]
  cases r with
  | nil => simp
  | cons c q => rw [List.takeWhile_cons, hr c q rfl]; simp
theorem head_tok {w r : T} {a : Nat} (h : TokOk w) (h1 : (∀ c, w.getLast? = some c → an c = true) → ∀ c q, r = c :: q → an c = false) (h2 : w = [60] ∨ w = [62] → ∀ c q, r = c :: q → c ≠ 61) : head (w ++ r) a = ⟨kd w, w, a⟩ := by
  rcases h with ⟨⟨c, q, e, hc⟩, hall⟩ | ⟨d, e, hd⟩ | h
  · have hl : ∀ c, w.getLast? = some c → an c = true := fun c h => hall c (List.mem_of_getLast? h)
    have tw := tw_app (p := an) hall (h1 hl)
    subst e
    rw [List.cons_append, head_cons, if_pos hc]
    show (⟨.word, ((c :: q) ++ r).takeWhile an, a⟩ : Lk) = _
    rw [tw]
    show _ = (⟨if isL c then .word else _, _, a⟩ : Lk)
    rw [if_pos hc]
  · subst e
    have hl : ∀ c, ([d] : T).getLast? = some c → an c = true := fun c h => by
      have : d = c := by simpa using h
      subst this; unfold an; rw [hd]; simp
    have hnl : isL d = false := by
      have hd' := hd
      unfold isF at hd'
      simp at hd'
      unfold isL
      simp; omega
    have tw := tw_app (p := isF) (b := [d]) (r := r) (by simpa using hd) fun c q e => by
      have := h1 hl c q e
      unfold an at this
      simp at this
      exact this.2
    rw [List.singleton_append, head_cons, if_neg (by rw [hnl]; simp), if_pos hd]
    show (⟨.number, ([d] ++ r).takeWhile isF, a⟩ : Lk) = _
    rw [tw]
    show _ = (⟨if isL d then .word else if isF d then .number else .sign, _, a⟩ : Lk)
    rw [hnl, hd]; rfl
  · have nr : r.head? = some 61 → r = 61 :: r.tail := fun h => by
      cases r with
      | nil => cases h
      | cons c q => have : c = 61 := by simpa using h
                    subst this; rfl
    have one : ∀ c, c ∈ [43, 45, 42, 94, 40, 41, 91, 93, 44, 58, 61] → head ([c] ++ r) a = ⟨.sign, [c], a⟩ := fun c hc => by
      have hn : isL c = false ∧ isF c = false ∧ c ≠ 33 ∧ c ≠ 60 ∧ c ≠ 62 := by
        have : ∀ c ∈ [43, 45, 42, 94, 40, 41, 91, 93, 44, 58, 61], isL c = false ∧ isF c = false ∧ c ≠ 33 ∧ c ≠ 60 ∧ c ≠ 62 := by decide
        exact this c hc
      rw [List.singleton_append, head_cons, if_neg (by rw [hn.1]; simp), if_neg (by rw [hn.2.1]; simp), signs_find, if_neg (fun z => z.1.elim hn.2.2.1 fun z => z.elim hn.2.2.2.1 hn.2.2.2.2), if_pos (by simp only [List.mem_cons, List.not_mem_nil, or_false] at hc ⊢; omega)]
    have cmp : ∀ c, c = 60 ∨ c = 62 → (∀ d q, r = d :: q → d ≠ 61) → head ([c] ++ r) a = ⟨.sign, [c], a⟩ := fun c hc hr => by
      have hn : isL c = false ∧ isF c = false := by rcases hc with e | e <;> subst e <;> decide
      have hh : r.head? ≠ some 61 := fun z => hr 61 r.tail (nr z) rfl
      rw [List.singleton_append, head_cons, if_neg (by rw [hn.1]; simp), if_neg (by rw [hn.2]; simp), signs_find, if_neg (fun z => hh z.2), if_pos (by rcases hc with e | e <;> subst e <;> decide)]
    have two : ∀ c, c = 33 ∨ c = 60 ∨ c = 62 → head ([c, 61] ++ r) a = ⟨.sign, [c, 61], a⟩ := fun c hc => by
      have hn : isL c = false ∧ isF c = false := by rcases hc with e | e | e <;> subst e <;> decide
      show head (c :: 61 :: r) a = _
      rw [head_cons, if_neg (by rw [hn.1]; simp), if_neg (by rw [hn.2]; simp), signs_find, if_pos ⟨hc, rfl⟩]
    have hm := h
    simp only [SIGNS, List.mem_cons, List.not_mem_nil, or_false] at h
    rcases h with e | e | e | e | e | e | e | e | e | e | e | e | e | e | e | e
    · subst e; exact two 33 (.inl rfl)
    · subst e; exact two 60 (.inr (.inl rfl))
    · subst e; exact two 62 (.inr (.inr rfl))
    · subst e; exact one 43 (by decide)
    · subst e; exact one 45 (by decide)
    · subst e; exact one 42 (by decide)
    · subst e; exact one 94 (by decide)
    · subst e; exact one 40 (by decide)
    · subst e; exact one 41 (by decide)
    · subst e; exact one 91 (by decide)
    · subst e; exact one 93 (by decide)
    · subst e; exact one 44 (by decide)
    · subst e; exact one 58 (by decide)
    · subst e; exact one 61 (by decide)
    · subst e; exact cmp 60 (.inl rfl) (h2 (.inl rfl))
    · subst e; exact cmp 62 (.inr rfl) (h2 (.inr rfl))
theorem lex_at {t b w r : T} {a : Nat} (hd : t.drop a = b ++ (w ++ r)) (ha : a ≤ t.length) (hb : ∀ c ∈ b, isB c = true) (h : TokOk w) (h1 : (∀ c, w.getLast? = some c → an c = true) → ∀ c q, r = c :: q → an c = false) (h2 : w = [60] ∨ w = [62] → ∀ c q, r = c :: q → c ≠ 61) :
    tokenAt t a = ⟨kd w, w, a + b.length⟩ ∧ t.drop (a + b.length + w.length) = r ∧ a + b.length + w.length ≤ t.length := by
  obtain ⟨c, q, e, hc⟩ := tok_head h
  have hr : runEnd isB t a = a + b.length := by
    unfold runEnd
    rw [hd, tw_app hb]
    intro d s hs
    rw [e, List.cons_append] at hs
    cases hs
    exact hc
  have hdd : t.drop (a + b.length) = w ++ r := by
    rw [← List.drop_drop, hd, List.drop_left]
  refine ⟨?_, ?_, ?_⟩
  · unfold tokenAt
    rw [hr, hdd]
    exact head_tok h h1 h2
  · rw [← List.drop_drop, hdd, List.drop_left]
  · have := congrArg List.length hd
    rw [List.length_drop, List.length_append, List.length_append] at this
    omega
/-! ### gaps and tokens -/
def mkT : List (T × T) → T
  | [] => []
  | (g, w) :: r => g ++ (w ++ mkT r)
def clash (p w : T) : Prop := (∀ c, p.getLast? = some c → an c = true) ∧ ∀ c, w.head? = some c → an c = true
def GapC : Option T → List (T × T) → Prop
  | _, [] => True
  | p, (g, w) :: r => (∀ c ∈ g, isB c = true) ∧ (∀ q, p = some q → clash q w → g ≠ []) ∧ GapC (some w) r
def AdjE : Option T → List T → Prop
  | _, [] => True
  | p, w :: r => (w.head? = some 61 → p ≠ some [60] ∧ p ≠ some [62]) ∧ AdjE (some w) r
def lst : Option T → List T → Option T
  | p, [] => p
  | _, w :: r => lst (some w) r
theorem gap_lexes {t tail : T} (ht : ∀ c ∈ tail, isB c = true) : ∀ (ps : List (T × T)) (p : Option T) (a : Nat), GapC p ps → AdjE p (ps.map (·.2)) → (∀ x ∈ ps, TokOk x.2) → t.drop a = mkT ps ++ tail → a ≤ t.length → Lexes t a (ps.map (·.2))
  | [], p, a, _, _, _, hd, ha => by
    refine .nil ?_
    have hd : t.drop a = tail := hd
    have hr : runEnd isB t a = t.length := by
      unfold runEnd
      have : (t.drop a).takeWhile isB = t.drop a := by
        rw [hd]
        have := tw_app (p := isB) (b := tail) (r := []) ht (fun c q h => by cases h)
        rw [List.append_nil] at this
        exact this
      rw [this, List.length_drop]; omega
    unfold tokenAt
    rw [hr, List.drop_length]
    rfl
  | (g, w) :: r, p, a, ⟨hg, _, hc⟩, ⟨_, hj⟩, hk, hd, ha => by
    have hw := hk _ List.mem_cons_self
    have hd' : t.drop a = g ++ (w ++ (mkT r ++ tail)) := by
      rw [hd]
      show (g ++ (w ++ mkT r)) ++ tail = _
      rw [List.append_assoc, List.append_assoc]
    have key : ∀ c q, mkT r ++ tail = c :: q → isB c = true ∨ ∃ g2 w2 r2, r = (g2, w2) :: r2 ∧ g2 = [] ∧ w2.head? = some c := by
      intro c q e
      cases r with
      | nil => exact .inl (ht c (by rw [show tail = c :: q from e]; exact List.mem_cons_self))
      | cons x r2 =>
        obtain ⟨g2, w2⟩ := x
        obtain ⟨hg2, hc2, _⟩ := hc
        cases g2 with
        | cons d g2 =>
          have : d = c := by
            have := e
            simp only [mkT, List.cons_append] at this
            cases this; rfl
          subst this
          exact .inl (hg2 d List.mem_cons_self)
        | nil =>
          refine .inr ⟨[], w2, r2, rfl, rfl, ?_⟩
          obtain ⟨d, s, e2, _⟩ := tok_head (hk _ (List.mem_cons_of_mem _ List.mem_cons_self) : TokOk w2)
          subst e2
          simp only [mkT, List.cons_append, List.nil_append] at e
          cases e; rfl
    obtain ⟨l1, l2, l3⟩ := lex_at hd' ha hg hw (fun hl c q e => by
      rcases key c q e with hb | ⟨g2, w2, r2, e2, e3, e4⟩
      · unfold an; rw [(blank_not hb).1, (blank_not hb).2.1]; rfl
      · subst e2 e3
        obtain ⟨_, hc2, _⟩ := hc
        cases hac : an c with
        | false => rfl
        | true => exact absurd rfl (hc2 w rfl ⟨hl, fun d hd => by rw [e4] at hd; cases hd; exact hac⟩)) (fun hs c q e => by
      rcases key c q e with hb | ⟨g2, w2, r2, e2, e3, e4⟩
      · exact (blank_not hb).2.2
      · subst e2 e3
        intro z
        subst z
        obtain ⟨hj1, _⟩ := hj
        rcases hs with hs | hs
        · exact (hj1 e4).1 (by rw [hs])
        · exact (hj1 e4).2 (by rw [hs]))
    obtain ⟨c, q, e, _⟩ := tok_head hw
    have e' : w = c :: q := e
    exact .cons l1 (by show 0 < w.length; rw [e']; simp) (gap_lexes ht r (some w) _ hc hj (fun x hx => hk x (List.mem_cons_of_mem _ hx)) l2 l3)
theorem gap_snoc : ∀ (ps : List (T × T)) (p : Option T) (g w : T), GapC p ps → (∀ c ∈ g, isB c = true) → (∀ q, lst p (ps.map (·.2)) = some q → clash q w → g ≠ []) → GapC p (ps ++ [(g, w)])
  | [], p, g, w, _, h1, h2 => ⟨h1, h2, trivial⟩
  | (g', w') :: r, p, g, w, ⟨a, b, c⟩, h1, h2 => ⟨a, b, gap_snoc r (some w') g w c h1 h2⟩
theorem mkT_snoc : ∀ (ps : List (T × T)) (g w : T), mkT (ps ++ [(g, w)]) = mkT ps ++ g ++ w
  | [], g, w => by simp [mkT]
  | (g', w') :: r, g, w => by
    show g' ++ (w' ++ mkT (r ++ [(g, w)])) = g' ++ (w' ++ mkT r) ++ g ++ w
    rw [mkT_snoc r]
    simp
theorem lst_snoc : ∀ (ws : List T) (p : Option T) (w : T), lst p (ws ++ [w]) = some w
  | [], p, w => rfl
  | x :: ws, p, w => lst_snoc ws (some x) w
/-! ### the tokens of a saying -/
theorem adj_app : ∀ {ws us : List T} {p : Option T}, AdjE p ws → (∀ q, AdjE q us) → AdjE p (ws ++ us)
  | [], us, p, _, h => h p
  | w :: ws, us, p, ⟨a, b⟩, h => ⟨a, adj_app (ws := ws) b h⟩
theorem adj_no : ∀ {ws : List T} {p : Option T}, (∀ w ∈ ws, w.head? ≠ some 61) → AdjE p ws
  | [], _, _ => trivial
  | w :: ws, p, h => ⟨fun e => absurd e (h w List.mem_cons_self), adj_no fun x hx => h x (List.mem_cons_of_mem _ hx)⟩
theorem adj_rel : ∀ {ws us : List T} {r : T} {p : Option T}, ws ≠ [] → (∀ w ∈ ws, w.head? ≠ some 61 ∧ w ≠ [60] ∧ w ≠ [62]) → (∀ q, AdjE q us) → AdjE p (ws ++ r :: us)
  | [], _, _, _, h, _, _ => absurd rfl h
  | [w], us, r, p, _, h, k => ⟨fun e => absurd e (h w List.mem_cons_self).1, fun _ => ⟨fun z => (h w List.mem_cons_self).2.1 (Option.some.inj z), fun z => (h w List.mem_cons_self).2.2 (Option.some.inj z)⟩, k _⟩
  | w :: x :: ws, us, r, p, _, h, k => ⟨fun e => absurd e (h w List.mem_cons_self).1, adj_rel (ws := x :: ws) (by simp) (fun y hy => h y (List.mem_cons_of_mem _ hy)) k⟩
theorem name_tok {x : T} (h : NameOk x) : WordT x := ⟨h.ne, fun d hd => h.all d hd⟩
theorem word_no {w : T} (h : WordT w) : w.head? ≠ some 61 ∧ w ≠ [60] ∧ w ≠ [62] := by
  obtain ⟨⟨c, r, e, hc⟩, _⟩ := h
  subst e
  refine ⟨fun z => ?_, fun z => ?_, fun z => ?_⟩
  · have : c = 61 := by simpa using z
    subst this; revert hc; decide
  · cases z; revert hc; decide
  · cases z; revert hc; decide
theorem dig_no {n : Nat} (h : n ≤ 9) : TokOk (dig n) ∧ (dig n).head? ≠ some 61 ∧ dig n ≠ [60] ∧ dig n ≠ [62] := by
  have : ∀ n, n ≤ 9 → (isF (48 + n) = true ∧ 48 + n ≠ 61 ∧ 48 + n ≠ 60 ∧ 48 + n ≠ 62) := by
    intro n h
    unfold isF
    refine ⟨?_, ?_, ?_, ?_⟩ <;> simp <;> omega
  obtain ⟨a, b, c, d⟩ := this n h
  exact ⟨.inr (.inl ⟨_, rfl, a⟩), fun z => b (by simpa [dig] using z), fun z => c (by simpa [dig] using z), fun z => d (by simpa [dig] using z)⟩
theorem sg {s : T} (h : s ∈ [[40], [41], [45], [43], [42], [94]]) : TokOk s ∧ s.head? ≠ some 61 ∧ s ≠ [60] ∧ s ≠ [62] := by
  have : ∀ s ∈ ([[40], [41], [45], [43], [42], [94]] : List T), s ∈ SIGNS ∧ s.head? ≠ some 61 ∧ s ≠ [60] ∧ s ≠ [62] := by decide
  obtain ⟨a, b⟩ := this s h
  exact ⟨.inr (.inr a), b⟩
theorem ttok_ok : ∀ {l : Nat} {a : Tm} {ws : List T}, TTok l a ws → a.Wf → ws ≠ [] ∧ ∀ w ∈ ws, TokOk w ∧ w.head? ≠ some 61 ∧ w ≠ [60] ∧ w ≠ [62] := by
  intro l a ws h
  induction h with
  | paren h ih =>
    intro w
    refine ⟨by simp, fun x hx => ?_⟩
    simp at hx
    rcases hx with e | e | e
    · subst e; exact sg (by decide)
    · exact (ih w).2 x e
    · subst e; exact sg (by decide)
  | num => intro w; exact ⟨by simp, fun x hx => by rw [List.mem_singleton.mp hx]; exact dig_no w⟩
  | var => intro w; exact ⟨by simp, fun x hx => by rw [List.mem_singleton.mp hx]; exact ⟨.inl (name_tok w), word_no (name_tok w)⟩⟩
  | neg h ih =>
    intro w
    refine ⟨by simp, fun x hx => ?_⟩
    rcases List.mem_cons.mp hx with e | e
    · subst e; exact sg (by decide)
    · exact (ih w).2 x e
  | @bin l o a b ws us hl h1 h2 ih1 ih2 =>
    intro w
    refine ⟨by simp, fun x hx => ?_⟩
    rcases List.mem_append.mp hx with e | e
    · exact (ih1 w.1).2 x e
    · rcases List.mem_cons.mp e with e | e
      · subst e; cases o <;> exact sg (by decide)
      · exact (ih2 w.2).2 x e
  | @pow l a n ws hl h ih =>
    intro w
    refine ⟨by simp, fun x hx => ?_⟩
    rcases List.mem_append.mp hx with e | e
    · exact (ih w.1).2 x e
    · simp at e
      rcases e with e | e
      · subst e; exact sg (by decide)
      · subst e; exact dig_no w.2
theorem kw_tok {w : T} (h : w ∈ WORDS) : WordT w := by
  have : ∀ w ∈ WORDS, (w.head?.map isL) = some true ∧ w.all an = true := by decide
  obtain ⟨a, b⟩ := this w h
  refine ⟨?_, List.all_eq_true.mp b⟩
  cases w with
  | nil => cases a
  | cons c r => exact ⟨c, r, rfl, by simpa using a⟩
theorem stok_ok : ∀ {l : Nat} {f : Sy} {ws : List T}, STok l f ws → f.Wf → (∀ w ∈ ws, TokOk w) ∧ ∀ p, AdjE p ws := by
  intro l f ws h
  have br : ∀ s ∈ ([[91], [93], [58]] : List T), s ∈ SIGNS ∧ s.head? ≠ some 61 := by decide
  induction h with
  | @paren l f ws h ih =>
    intro w
    obtain ⟨i1, i2⟩ := ih w
    refine ⟨fun x hx => ?_, fun p => ⟨fun e => absurd e (by decide), adj_app (i2 _) fun q => ⟨fun e => absurd e (by decide), trivial⟩⟩⟩
    simp at hx
    rcases hx with e | e | e
    · subst e; exact .inr (.inr (by decide))
    · exact i1 x e
    · subst e; exact .inr (.inr (by decide))
  | @rel l r a b ws us h1 h2 =>
    intro w
    obtain ⟨a1, a2⟩ := ttok_ok h1 w.2.1
    obtain ⟨b1, b2⟩ := ttok_ok h2 w.2.2
    refine ⟨fun x hx => ?_, fun p => adj_rel a1 (fun x hx => (a2 x hx).2) fun q => adj_no fun x hx => (b2 x hx).2.1⟩
    rcases List.mem_append.mp hx with e | e
    · exact (a2 x e).1
    · rcases List.mem_cons.mp e with e | e
      · subst e
        have : ∀ r ∈ RELS, r ∈ SIGNS := by decide
        exact .inr (.inr (this _ w.1))
      · exact (b2 x e).1
  | not h ih =>
    intro w
    obtain ⟨i1, i2⟩ := ih w
    refine ⟨fun x hx => ?_, fun p => ⟨fun e => absurd e (by decide), i2 _⟩⟩
    rcases List.mem_cons.mp hx with e | e
    · subst e; exact .inl (kw_tok (by decide))
    · exact i1 x e
  | @bin l o f g ws us hl h1 h2 ih1 ih2 =>
    intro w
    obtain ⟨i1, i2⟩ := ih1 w.1
    obtain ⟨j1, j2⟩ := ih2 w.2
    have ho : WordT o.name := kw_tok (by cases o <;> decide)
    refine ⟨fun x hx => ?_, fun p => adj_app (i2 _) fun q => ⟨fun e => absurd e (word_no ho).1, j2 _⟩⟩
    rcases List.mem_append.mp hx with e | e
    · exact i1 x e
    · rcases List.mem_cons.mp e with e | e
      · subst e; exact .inl ho
      · exact j1 x e
  | @quant q x f ws h ih =>
    intro w
    obtain ⟨i1, i2⟩ := ih w.2
    have ho : WordT (qName q) := kw_tok (by cases q <;> decide)
    have hx := name_tok w.1
    refine ⟨fun y hy => ?_, fun p => ⟨fun e => absurd e (word_no ho).1, fun e => absurd e (word_no hx).1, fun e => absurd e (by decide), i2 _⟩⟩
    simp at hy
    rcases hy with e | e | e | e
    · subst e; exact .inl ho
    · subst e; exact .inl hx
    · subst e; exact .inr (.inr (by decide))
    · exact i1 y e
/-- A TEXT OF A SAYING, GAPS AND ALL, IS READ -/
theorem settle_text {f : Sy} {ps : List (T × T)} {tail : T} {free : List T} (hs : STok 0 f (ps.map (·.2))) (hw : f.Wf) (hg : GapC none ps) (ht : ∀ c ∈ tail, isB c = true) (hB : ∀ x ∈ free, NameOk x) (hin : f.In free) : settle (mkT ps ++ tail) free = .read f.data := by
  obtain ⟨h1, h2⟩ := stok_ok hs hw
  refine settle_saying hs hB hin (gap_lexes ht ps none 0 hg (h2 _) (fun x hx => h1 _ (List.mem_map_of_mem hx)) rfl (Nat.zero_le _))
end Mi
namespace Mi
open PySem
def Sy.parts : Sy → List Sy
  | .rel _ _ _ => []
  | .not f => [f]
  | .bin _ f g => [f, g]
  | .quant _ _ f => [f]
def It8.data : It8 → PyData
  | .tok w => .tuple [str [116, 111, 107, 101, 110], str w, .int 0]
  | .say f l => .tuple [str [115, 97, 121, 105, 110, 103], f.data, .int (l : Nat)]
  | .ter a l => .tuple [str [116, 101, 114, 109], a.data, .int (l : Nat)]
def szs : List Tm → Nat
  | [] => 0
  | a :: as => a.sz + szs as
end Mi
namespace Dy
open PySem L2 Evl Mi
/-! ### what the law's own defs promise -/
structure PenAt (g : G8) (X : List Addr) (H : Hp) (p : Addr) (N : Nat) : Prop where
  px : p ∈ X
  dm : Dom X H
  ex : ∃ vc, ∃ cells : List Int, ∃ a n : Nat, ∃ d f : Int, H p = some (.dK [(.inr "cells", vc), (.inr "at", .int (a : Nat)), (.inr "digits", .int d), (.inr "count", .int (n : Nat)), (.inr "fold", .int f)]) ∧ At g.K X H vc (.list (cells.map .int)) ∧ 0 ≤ d ∧ n ≤ N ∧ 0 ≤ f ∧ f < 2147483647
def sp_law_pen (g : G8) : Sp := fun vs H Q _ => ∃ X a, ∃ cells : List Int, vs = [.ref a] ∧ Dom X H ∧ SqL g.K H a (cells.map V.int) ∧ ∀ H' p, Ex H H' → H p = none → PenAt g (p :: X) H' p 0 → Q (.ref p) H'
def sp_law_draw (g : G8) : Sp := fun vs H Q _ => ∃ X p, ∃ m N : Nat, vs = [.ref p, .int m] ∧ 0 < m ∧ m ≤ 1000000 ∧ N < 1000000 ∧ PenAt g X H p N ∧ ∀ H', ∀ d : Nat, Pr [p] H H' → d < m → PenAt g X H' p (N + 1) → Q (.int d) H'
def sp_law_pick (g : G8) : Sp := fun vs H Q _ => ∃ X p v, ∃ ds : List PyData, ∃ N : Nat, vs = [.ref p, v] ∧ ds ≠ [] ∧ ds.length ≤ 1000 ∧ N < 1000000 ∧ PenAt g X H p N ∧ At g.K X H v (.list ds) ∧ ∀ H' u d, Pr [p] H H' → d ∈ ds → PenAt g X H' p (N + 1) → At g.K X H' u d → Q u H'
structure NmAt (g : G8) (X : List Addr) (H : Hp) (v : V) (ns : List T) : Prop where
  at_ : At g.K X H v (.list (ns.map Mi.str))
  ne : ns ≠ []
  len : ns.length ≤ 6
  ok : ∀ x ∈ ns, NameOk x
def sp_law_s_term (g : G8) : Sp := fun vs H Q _ => ∃ X p v, ∃ ns : List T, ∃ sz N : Nat, vs = [.ref p, v, .int sz] ∧ NmAt g X H v ns ∧ 1 ≤ sz ∧ sz ≤ 4 ∧ N + 100 ≤ 1000000 ∧ PenAt g X H p N ∧ ∀ H' u, ∀ a : Tm, Pr [p] H H' → PenAt g X H' p (N + 20) → a.Wf → (∀ x ∈ a.vars, x ∈ ns) → a.sz ≤ 4 → At g.K X H' u a.data → Q u H'
def sp_law_s_atom (g : G8) : Sp := fun vs H Q _ => ∃ X p v, ∃ ns : List T, ∃ N : Nat, vs = [.ref p, v, .int 4] ∧ NmAt g X H v ns ∧ N + 200 ≤ 1000000 ∧ PenAt g X H p N ∧ ∀ H' u, ∀ f : Sy, Pr [p] H H' → PenAt g X H' p (N + 60) → f.Wf → (∀ x, f.Free x → x ∈ ns) → f.sz ≤ 9 → At g.K X H' u f.data → Q u H'
def sp_law_s_saying (g : G8) : Sp := fun vs H Q _ => ∃ X p v, ∃ ns : List T, ∃ sz N : Nat, vs = [.ref p, v, .int sz, .int 4] ∧ NmAt g X H v ns ∧ 1 ≤ sz ∧ sz ≤ 8 ∧ N + 1000 ≤ 1000000 ∧ PenAt g X H p N ∧ ∀ H' u, ∀ f : Sy, Pr [p] H H' → PenAt g X H' p (N + 600) → f.Wf → (∀ x, f.Free x → x ∈ ns) → f.sz ≤ 72 → At g.K X H' u f.data → Q u H'
def sp_law_s_parts (g : G8) : Sp := pSp g.K fun ds z => ∃ f : Sy, f.Wf ∧ ds = [f.data] ∧ z = .list (f.parts.map Sy.data)
def sp_law_s_in_terms (g : G8) : Sp := fun vs H Q _ => ∃ X v, ∃ as : List Tm, vs = [v] ∧ Dom X H ∧ At g.K X H v (.tuple (as.map Tm.data)) ∧ (∀ a ∈ as, a.Wf) ∧ szs as ≤ 1000 ∧ ∀ H' u, ∀ ns : List T, Ex H H' → (∀ x, x ∈ ns ↔ ∃ a ∈ as, x ∈ a.vars) → ns.length ≤ 1000 → At g.K X H' u (.list (ns.map Mi.str)) → Q u H'
def sp_law_s_free (g : G8) : Sp := fun vs H Q _ => ∃ X v, ∃ f : Sy, ∃ B : List T, vs = [v] ∧ Dom X H ∧ At g.K X H v f.data ∧ f.Wf ∧ f.sz ≤ 100 ∧ (∀ x, f.Free x → x ∈ B) ∧ B.length ≤ 6 ∧ ∀ H' u, ∀ fr : List T, Ex H H' → (∀ x, x ∈ fr ↔ f.Free x) → fr.Nodup → At g.K X H' u (.list (fr.map Mi.str)) → Q u H'
def sp_law_s_tokens (g : G8) : Sp := fun vs H Q _ => ∃ X p v, ∃ f : Sy, ∃ N : Nat, vs = [v, .ref p] ∧ At g.K X H v f.data ∧ f.Wf ∧ f.sz ≤ 72 ∧ N + 3000 ≤ 1000000 ∧ PenAt g X H p N ∧ ∀ H' u, ∀ ws : List T, Pr [p] H H' → PenAt g X H' p (N + 1500) → STok 0 f ws → ws.length ≤ 1500 → At g.K X H' u (.list (ws.map Mi.str)) → Q u H'
def sp_law_s_spread (g : G8) : Sp := pSp g.K fun ds z => ∃ f : Sy, ∃ l : Nat, ∃ more : Bool, f.Wf ∧ ds = [f.data, .int l, .bool more] ∧ z = .list ((f.spread l more).map It8.data)
def sp_law_s_spread_term (g : G8) : Sp := pSp g.K fun ds z => ∃ f : Tm, ∃ l : Nat, ∃ more : Bool, f.Wf ∧ ds = [f.data, .int l, .bool more] ∧ z = .list ((f.spread l more).map It8.data)
def sp_law_s_joined_text (g : G8) : Sp := fun vs H Q _ => ∃ X p v, ∃ ws : List T, ∃ N : Nat, vs = [v, .ref p] ∧ At g.K X H v (.list (ws.map Mi.str)) ∧ (∀ w ∈ ws, TokOk w ∧ w.length ≤ 8) ∧ ws.length ≤ 1500 ∧ N + 3000 ≤ 1000000 ∧ PenAt g X H p N ∧
  ∀ H', ∀ ps : List (T × T), ∀ tail : T, Pr [p] H H' → PenAt g X H' p (N + 1501) → ps.map (·.2) = ws → GapC none ps → (∀ c ∈ tail, isB c = true) → ok (S (mkT ps ++ tail)) → (mkT ps ++ tail).length ≤ 100000 → Q (.str (S (mkT ps ++ tail))) H'
def sp_law_s_text (g : G8) : Sp := fun vs H Q _ => ∃ X p v, ∃ f : Sy, ∃ N : Nat, vs = [v, .ref p] ∧ At g.K X H v f.data ∧ f.Wf ∧ f.sz ≤ 72 ∧ N + 8000 ≤ 1000000 ∧ PenAt g X H p N ∧
  ∀ H', ∀ t : T, Pr [p] H H' → PenAt g X H' p (N + 3100) → ok (S t) → t.length ≤ 100000 → (∀ free : List T, (∀ x ∈ free, NameOk x) → f.In free → settle t free = .read f.data) → Q (.str (S t)) H'
def pairD (x : T × Nat) : PyData := .tuple [Mi.str x.1, .int (x.2 : Nat)]
def KN0 : List (T × Nat) := [([], 0), ([120], 1), ([120, 32, 61], 3), ([120, 32, 61, 32, 61, 32, 49], 4), ([120, 32, 43, 32, 42, 32, 121, 32, 61, 32, 49], 4), ([122, 32, 61, 32, 49], 0), ([120, 49, 32, 61, 32, 49], 1), ([40, 120, 32, 61, 32, 49], 3), ([40, 120, 32, 43, 32, 121, 32, 61, 32, 49, 41], 7), ([91, 120, 32, 61, 32, 49], 6), ([120, 32, 61, 32, 49, 93], 5), ([120, 32, 61, 32, 48, 49], 5)]
def KN1 : List (T × Nat) := [([120, 32, 61, 32, 49, 50, 51, 52, 53, 54, 55], 10), ([120, 94, 49, 50, 32, 61, 32, 49], 3), ([120, 94, 121, 32, 61, 32, 49], 2), ([97, 108, 108, 32, 97, 108, 108, 58, 32, 120, 32, 61, 32, 49], 7), ([97, 108, 108, 32, 97, 98, 99, 100, 101, 102, 103, 104, 105, 58, 32, 120, 32, 61, 32, 49], 12), ([97, 108, 108, 32, 120, 32, 120, 32, 61, 32, 49], 6), ([97, 108, 108, 120, 58, 32, 120, 32, 61, 32, 49], 3), ([97, 108], 2), ([97, 108, 32, 120], 2), ([120, 97, 110, 100, 32, 121, 32, 61, 32, 49], 1)]
def KN2 : List (T × Nat) := [([120, 32, 61, 32, 49, 32, 97, 110, 32, 121, 32, 61, 32, 49], 8), ([120, 32, 61, 32, 49, 32, 97, 110, 100, 121, 32, 61, 32, 49], 9), ([120, 32, 33, 32, 61, 32, 49], 3), ([120, 32, 33], 3), ([110, 111, 116], 3), ([110, 111, 116, 115, 32, 61, 32, 49], 3), ([120, 32, 61, 32, 49, 32, 110, 111, 116], 6), ([120, 32, 60, 32, 49, 32, 60, 32, 121], 6), ([88, 32, 61, 32, 49], 0), ([120, 32, 61, 32, 49, 32, 111, 114], 8), ([120, 32, 61, 32, 49, 32, 105, 109, 112, 108, 105, 101, 115], 13), ([45, 45, 120, 32, 61, 32, 49], 1)]
def KN3 : List (T × Nat) := [([120, 32, 61, 32, 45, 49], 6), ([120, 32, 61, 32, 121, 45], 6), ([120, 32, 121, 32, 61, 32, 49], 2), ([50, 120, 32, 61, 32, 49], 1), ([120, 32, 61, 32, 50, 97, 110, 100, 32, 121, 32, 61, 32, 49, 32, 126, 32, 50], 15), ([115, 111, 109, 101, 32, 120, 44, 32, 58, 32, 120, 32, 61, 32, 49], 8), ([115, 111, 109, 101, 32, 120, 58, 44, 32, 120, 32, 61, 32, 49], 7), ([91, 91, 120, 32, 61, 32, 49, 93, 32, 97, 110, 100, 32, 121], 14), ([40, 40, 120, 41, 32, 43, 32, 121, 41, 32, 61, 32, 40, 49], 14), ([120, 32, 61, 32, 49, 32, 105, 102, 102, 32, 105, 102, 102], 10), ([97, 108, 108, 32, 120, 58, 32, 91, 120, 32, 61, 32, 49, 93, 32, 120], 15)]
def KN4 : List (T × Nat) := [([120, 32, 61, 32, 49, 32, 105, 109, 112, 108, 105, 101, 32, 121], 12), ([120, 42], 2), ([120, 94], 2), ([49, 32, 61, 32, 48, 46, 53], 5), ([120, 32, 61, 61, 32, 49], 3), ([120, 32, 61, 62, 32, 49], 3), ([120, 32, 60, 62, 32, 49], 3), ([120, 32, 61, 32, 49, 126, 121], 5), ([120, 32, 61, 49, 32, 10], 6), ([110, 111, 116, 32, 91, 120, 32, 61, 32, 49, 32, 97, 110, 100], 14), ([115, 111, 109, 101, 32, 49, 58, 32, 120, 32, 61, 32, 49], 5)]
def KN : List (T × Nat) := KN0 ++ KN1 ++ KN2 ++ KN3 ++ KN4
def sp_law_known (g : G8) : Sp := pSp g.K fun ds z => ds = [] ∧ z = .list (KN.map pairD)
def sp_law_one_right (g : G8) : Sp := fun vs H Q _ => ∃ X t f, ∃ free : List T, ∃ place : Nat, vs = [.str (S t), f, .int place] ∧ Dom X H ∧ ok (S t) ∧ t.length ≤ 10000 ∧ FreeAt g X H f free ∧ settle t free = .unread place ∧ ∀ H', Ex H H' → Q (.bl true) H'
def sp_law (g : G8) : Sp := fun vs H Q _ => ∃ a, ∃ cells : List Int, vs = [.ref a] ∧ SqL g.K H a (cells.map V.int) ∧ ∀ H', Q (.bl true) H'
end Dy
namespace Dy
open PySem L2 Evl Mi

def t_is_integer (g : G8) : TS := (tRet (tAndV (tCB (rIsi g.K) (tCons (tVar 0) (tCons (tC (.ty "int")) tNil))) (tNotV (tCB (rIsi g.K) (tCons (tVar 0) (tCons (tC (.ty "bool")) tNil))))))
def t_is_row (g : G8) : TS := (tRet (tCB (rIsiT g.K) (tCons (tVar 0) (tCons (tTup (tCons (tC (.ty "list")) (tCons (tC (.ty "tuple")) tNil))) tNil))))
def t_is_name (g : G8) : TS := (tSeq (tIfS (tOr (tNot (tB (tCB (rIsi g.K) (tCons (tVar 0) (tCons (tC (.ty "str")) tNil))))) (tOr (tNot (tTest (tChain rLeI rLeI (tC (.int 1)) (tCB (rLenA g.K) (tCons (tVar 0) tNil)) (tC (.int 8))))) (tTest (tOp (rIn g.K false) (tVar 0) (tC (.ref g.aW)))))) (tRet (tC (.bl false))) tNext) (tRet (tAndV (tOp rInS (tOp (rIx g.K) (tVar 0) (tC (.int 0))) (tC (.str (S LETS)))) (tCB (rAll g.K) (tCons (tLc (iStr (tVar 0)) (gName 1) tYes (tOrV (tOp rInS (tVar 1) (tC (.str (S LETS)))) (tOp rInS (tVar 1) (tC (.str (S FIGS))))) [1]) tNil)))))
def t_is_head (g : G8) : TS := (tRet (tAndV (tCB (rIsi g.K) (tCons (tVar 0) (tCons (tC (.ty "tuple")) tNil))) (tAndV (tOp rEq (tCB (rLenA g.K) (tCons (tVar 0) tNil)) (tVar 2)) (tAndV (tCB (rIsi g.K) (tCons (tOp (rIx g.K) (tVar 0) (tC (.int 0))) (tCons (tC (.ty "str")) tNil))) (tOp (rIn g.K false) (tOp (rIx g.K) (tVar 0) (tC (.int 0))) (tVar 1))))))
def t_term_breach (g : G8) : TS := (tSeq (tIfS (tB (tCall (sp_is_head g) [] E0 (tCons (tVar 0) (tCons (tTup (tCons (tC (.str "number")) tNil)) (tCons (tC (.int 2)) tNil))))) (tRet (tIf (tAnd (tB (tCall (sp_is_integer g) [] E0 (tCons (tOp (rIx g.K) (tVar 0) (tC (.int 1))) tNil))) (tTest (tChain rLeI rLeI (tC (.int 0)) (tOp (rIx g.K) (tVar 0) (tC (.int 1))) (tC (.int 999999))))) (tLst tNil) (tC .non))) tNext) (tSeq (tIfS (tB (tCall (sp_is_head g) [] E0 (tCons (tVar 0) (tCons (tTup (tCons (tC (.str "letter")) tNil)) (tCons (tC (.int 2)) tNil))))) (tRet (tIf (tB (tCall (sp_is_name g) [] E0 (tCons (tOp (rIx g.K) (tVar 0) (tC (.int 1))) tNil))) (tLst tNil) (tC .non))) tNext) (tSeq (tIfS (tB (tCall (sp_is_head g) [] E0 (tCons (tVar 0) (tCons (tTup (tCons (tC (.str "negative")) tNil)) (tCons (tC (.int 2)) tNil))))) (tRet (tLst (tCons (tOp (rIx g.K) (tVar 0) (tC (.int 1))) tNil))) tNext) (tSeq (tIfS (tB (tCall (sp_is_head g) [] E0 (tCons (tVar 0) (tCons (tTup (tCons (tC (.str "plus")) (tCons (tC (.str "minus")) (tCons (tC (.str "times")) tNil)))) (tCons (tC (.int 3)) tNil))))) (tRet (tLst (tCons (tOp (rIx g.K) (tVar 0) (tC (.int 1))) (tCons (tOp (rIx g.K) (tVar 0) (tC (.int 2))) tNil)))) tNext) (tSeq (tIfS (tB (tCall (sp_is_head g) [] E0 (tCons (tVar 0) (tCons (tTup (tCons (tC (.str "power")) tNil)) (tCons (tC (.int 3)) tNil))))) (tRet (tIf (tAnd (tB (tCall (sp_is_integer g) [] E0 (tCons (tOp (rIx g.K) (tVar 0) (tC (.int 2))) tNil))) (tTest (tChain rLeI rLeI (tC (.int 0)) (tOp (rIx g.K) (tVar 0) (tC (.int 2))) (tC (.int 9))))) (tLst (tCons (tOp (rIx g.K) (tVar 0) (tC (.int 1))) tNil)) (tC .non))) tNext) (tRet (tC .non)))))))
def t_are_terms (g : G8) : TS := (tSeq (tAsg (tCB (rListA g.K) (tCons (tVar 0) tNil)) (gName 1)) (tSeq (tWhile (tTest (tOp rGtI (tCB (rLenA g.K) (tCons (tVar 1) tNil)) (tC (.int 0)))) (tSeq (tAsg (tCall (sp_term_breach g) [] E0 (tCons (tBM0 g.K "list" rPop (tVar 1)) tNil)) (gName 2)) (tSeq (tIfS (tTest (tOp rIsN (tVar 2) (tC .non))) (tRet (tC (.bl false))) tNext) (tDrop (tBM g.K "list" rExtend (tVar 1) (tCons (tVar 2) tNil)))))) (tRet (tC (.bl true)))))
def t_saying_parts (g : G8) : TS := (tSeq (tIfS (tB (tCall (sp_is_head g) [] E0 (tCons (tVar 0) (tCons (tC (.ref g.aR)) (tCons (tC (.int 3)) tNil))))) (tRet (tLst tNil)) tNext) (tSeq (tIfS (tB (tCall (sp_is_head g) [] E0 (tCons (tVar 0) (tCons (tTup (tCons (tC (.str "not")) tNil)) (tCons (tC (.int 2)) tNil))))) (tRet (tLst (tCons (tOp (rIx g.K) (tVar 0) (tC (.int 1))) tNil))) tNext) (tSeq (tIfS (tB (tCall (sp_is_head g) [] E0 (tCons (tVar 0) (tCons (tC (.ref g.aP)) (tCons (tC (.int 3)) tNil))))) (tRet (tLst (tCons (tOp (rIx g.K) (tVar 0) (tC (.int 1))) (tCons (tOp (rIx g.K) (tVar 0) (tC (.int 2))) tNil)))) tNext) (tSeq (tIfS (tAnd (tB (tCall (sp_is_head g) [] E0 (tCons (tVar 0) (tCons (tTup (tCons (tC (.str "all")) (tCons (tC (.str "some")) tNil))) (tCons (tC (.int 3)) tNil))))) (tB (tCall (sp_is_name g) [] E0 (tCons (tOp (rIx g.K) (tVar 0) (tC (.int 1))) tNil)))) (tRet (tLst (tCons (tOp (rIx g.K) (tVar 0) (tC (.int 2))) tNil))) tNext) (tRet (tC .non))))))
def t_is_saying (g : G8) : TS := (tSeq (tAsg (tLst (tCons (tVar 0) tNil)) (gName 1)) (tSeq (tWhile (tTest (tOp rGtI (tCB (rLenA g.K) (tCons (tVar 1) tNil)) (tC (.int 0)))) (tSeq (tAsg (tBM0 g.K "list" rPop (tVar 1)) (gName 2)) (tSeq (tAsg (tCall (sp_saying_parts g) [] E0 (tCons (tVar 2) tNil)) (gName 3)) (tSeq (tIfS (tOr (tTest (tOp rIsN (tVar 3) (tC .non))) (tAnd (tTest (tOp (rIn g.K false) (tOp (rIx g.K) (tVar 2) (tC (.int 0))) (tC (.ref g.aR)))) (tNot (tB (tCall (sp_are_terms g) [] E0 (tCons (tSl (rSlT g.K) (tVar 2) (tPart (tC (.int 1))) tNoPart) tNil)))))) (tRet (tC (.bl false))) tNext) (tDrop (tBM g.K "list" rExtend (tVar 1) (tCons (tVar 3) tNil))))))) (tRet (tC (.bl true)))))
def t_Read_init (g : G8) : TS := (sFld g.K (tVar 0) (tVar 1) "tree")
def t_Read_eq (g : G8) : TS := (tRet (tAndV (tCB (rIsi g.K) (tCons (tVar 1) (tCons (tC (.ref g.Read)) tNil))) (tOp (rEqN g.K 2000) (tFld g.K (tVar 0) "tree") (tFld g.K (tVar 1) "tree"))))
def t_Unread_init (g : G8) : TS := (tSeq (sFld g.K (tVar 0) (tVar 1) "place") (sFld g.K (tVar 0) (tVar 2) "is_end"))
def t_Unread_eq (g : G8) : TS := (tRet (tAndV (tCB (rIsi g.K) (tCons (tVar 1) (tCons (tC (.ref g.Unread)) tNil))) (tOp (rEqN g.K 200) (tTup (tCons (tFld g.K (tVar 0) "place") (tCons (tFld g.K (tVar 0) "is_end") tNil))) (tTup (tCons (tFld g.K (tVar 1) "place") (tCons (tFld g.K (tVar 1) "is_end") tNil))))))
def t_run_end (g : G8) : TS := (tSeq (tWhile (tAnd (tTest (tOp rLtI (tVar 1) (tCB (rLenA g.K) (tCons (tVar 0) tNil)))) (tTest (tOp rInS (tOp (rIx g.K) (tVar 0) (tVar 1)) (tVar 2)))) (tAug 1 (tC (.int 1)) (ipI fun i j => i + j))) (tRet (tVar 1)))
def t_token_at (g : G8) : TS := (tSeq (tAsg (tCall (sp_run_end g) [] E0 (tCons (tVar 0) (tCons (tVar 1) (tCons (tC (.str " \n")) tNil)))) (gName 1)) (tSeq (tIfS (tTest (tOp rEq (tVar 1) (tCB (rLenA g.K) (tCons (tVar 0) tNil)))) (tRet (tTup (tCons (tC (.str "end")) (tCons (tC (.str "")) (tCons (tVar 1) tNil))))) tNext) (tSeq (tIfS (tTest (tOp rInS (tOp (rIx g.K) (tVar 0) (tVar 1)) (tC (.str (S LETS))))) (tRet (tTup (tCons (tC (.str "word")) (tCons (tSl rSlS (tVar 0) (tPart (tVar 1)) (tPart (tCall (sp_run_end g) [] E0 (tCons (tVar 0) (tCons (tVar 1) (tCons (tOp rCatS (tC (.str (S LETS))) (tC (.str (S FIGS)))) tNil)))))) (tCons (tVar 1) tNil))))) tNext) (tSeq (tIfS (tTest (tOp rInS (tOp (rIx g.K) (tVar 0) (tVar 1)) (tC (.str (S FIGS))))) (tRet (tTup (tCons (tC (.str "number")) (tCons (tSl rSlS (tVar 0) (tPart (tVar 1)) (tPart (tCall (sp_run_end g) [] E0 (tCons (tVar 0) (tCons (tVar 1) (tCons (tC (.str (S FIGS))) tNil)))))) (tCons (tVar 1) tNil))))) tNext) (tSeq (tFor (iTup g.K (tC (.ref g.aS))) (gName 2) (tIfS (tTest (tOp rEq (tSl rSlS (tVar 0) (tPart (tVar 1)) (tPart (tOp rAddI (tVar 1) (tCB (rLenA g.K) (tCons (tVar 2) tNil))))) (tVar 2))) (tRet (tTup (tCons (tC (.str "sign")) (tCons (tVar 2) (tCons (tVar 1) tNil))))) tNext)) (tRet (tTup (tCons (tC (.str "bad")) (tCons (tOp (rIx g.K) (tVar 0) (tVar 1)) (tCons (tVar 1) tNil))))))))))
def t_Reader_init (g : G8) : TS := (tSeq (sFld g.K (tVar 0) (tVar 1) "text") (tSeq (tAsg (tCall (sp_token_at g) [] E0 (tCons (tVar 1) (tCons (tC (.int 0)) tNil))) (gTup g.K 3 (gCons (gFld g.K (tVar 0) "kind") (gCons (gFld g.K (tVar 0) "token") (gCons (gFld g.K (tVar 0) "place") gNil))))) (tSeq (sFld g.K (tVar 0) (tCB (rListA g.K) (tCons (tVar 2) tNil)) "bound") (tSeq (sFld g.K (tVar 0) (tLst tNil) "opened") (tSeq (sFld g.K (tVar 0) (tC (.str "unit")) "wanted") (tSeq (sFld g.K (tVar 0) (tC .non) "value") (tSeq (sFld g.K (tVar 0) (tTup tNil) "words") (tSeq (sFld g.K (tVar 0) (tC (.bl false)) "is_base") (sFld g.K (tVar 0) (tC .non) "stopped")))))))))
def t_Reader_step (g : G8) : TS := (tSeq (tAsg (tFld g.K (tVar 0) "token") (gName 1)) (tSeq (tAsg (tCall (sp_token_at g) [] E0 (tCons (tFld g.K (tVar 0) "text") (tCons (tOp rAddI (tFld g.K (tVar 0) "place") (tCB (rLenA g.K) (tCons (tVar 1) tNil))) tNil))) (gTup g.K 3 (gCons (gFld g.K (tVar 0) "kind") (gCons (gFld g.K (tVar 0) "token") (gCons (gFld g.K (tVar 0) "place") gNil))))) (tRet (tVar 1))))
def t_Reader_at (g : G8) : TS := (tRet (tAndV (tOp rEq (tFld g.K (tVar 0) "kind") (tVar 1)) (tOp (rIn g.K false) (tFld g.K (tVar 0) "token") (tVar 2))))
def t_Reader_top (g : G8) : TS := (tRet (tIf (tTest (tOp rGtI (tCB (rLenA g.K) (tCons (tFld g.K (tVar 0) "opened") tNil)) (tC (.int 0)))) (tOp (rIx g.K) (tOp (rIx g.K) (tFld g.K (tVar 0) "opened") (tUn (rU fun i => .int (-i)) (tC (.int 1)))) (tC (.int 0))) (tC (.str ""))))
def t_Reader_stop (g : G8) : TS := (tSeq (sFld g.K (tVar 0) (tFld g.K (tVar 0) "place") "stopped") (tSeq (tIfS (tTest (tOp rEq (tFld g.K (tVar 0) "kind") (tC (.str "word")))) (sFld g.K (tVar 0) (tOp rAddI (tFld g.K (tVar 0) "place") (tCall (sp_longest_shared g) [] E0 (tCons (tFld g.K (tVar 0) "token") (tCons (tVar 1) tNil)))) "stopped") tNext) (tIfS (tAnd (tTest (tOp rEq (tFld g.K (tVar 0) "kind") (tC (.str "bad")))) (tAnd (tTest (tOp rEq (tFld g.K (tVar 0) "token") (tC (.str "!")))) (tTest (tOp (rIn g.K false) (tC (.str "!=")) (tVar 2))))) (sFld g.K (tVar 0) (tOp rAddI (tFld g.K (tVar 0) "place") (tC (.int 1))) "stopped") tNext)))
def t_longest_shared (g : G8) : TS := (tSeq (tAsg (tC (.int 0)) (gName 2)) (tSeq (tFor (iTup g.K (tVar 1)) (gName 3) (tSeq (tAsg (tC (.int 0)) (gName 4)) (tSeq (tWhile (tAnd (tTest (tOp rLtI (tVar 4) (tCB rMinA (tCons (tCB (rLenA g.K) (tCons (tVar 3) tNil)) (tCons (tCB (rLenA g.K) (tCons (tVar 0) tNil)) tNil))))) (tTest (tOp rEq (tOp (rIx g.K) (tVar 3) (tVar 4)) (tOp (rIx g.K) (tVar 0) (tVar 4))))) (tAug 4 (tC (.int 1)) (ipI fun i j => i + j))) (tAsg (tCB rMaxA (tCons (tVar 2) (tCons (tVar 4) tNil))) (gName 2))))) (tRet (tVar 2))))
def t_read_name (g : G8) : TS := (tSeq (tIfS (tTest (tOp rNe (tFld g.K (tVar 0) "kind") (tC (.str "word")))) (tSeq (tDrop (tMeth g.Reader "stop" (sp_Reader_stop g) [] E0 (tVar 0) (tCons (tTup tNil) (tCons (tTup tNil) tNil)))) (tRet (tC .non))) tNext) (tSeq (tIfS (tTest (tOp rGtI (tCB (rLenA g.K) (tCons (tFld g.K (tVar 0) "token") tNil)) (tC (.int 8)))) (tSeq (sFld g.K (tVar 0) (tOp rAddI (tFld g.K (tVar 0) "place") (tC (.int 8))) "stopped") (tRet (tC .non))) tNext) (tSeq (tIfS (tTest (tOp (rIn g.K false) (tFld g.K (tVar 0) "token") (tC (.ref g.aW)))) (tSeq (sFld g.K (tVar 0) (tOp rAddI (tFld g.K (tVar 0) "place") (tCB (rLenA g.K) (tCons (tFld g.K (tVar 0) "token") tNil))) "stopped") (tRet (tC .non))) tNext) (tRet (tMeth g.Reader "step" (sp_Reader_step g) [] E0 (tVar 0) tNil)))))
def t_read_number (g : G8) : TS := (tSeq (tAsg (tFld g.K (tVar 0) "token") (gName 2)) (tSeq (tIfS (tTest (tOp rNe (tFld g.K (tVar 0) "kind") (tC (.str "number")))) (tDrop (tMeth g.Reader "stop" (sp_Reader_stop g) [] E0 (tVar 0) (tCons (tTup tNil) (tCons (tTup tNil) tNil)))) (tIfS (tAnd (tTest (tOp rEq (tOp (rIx g.K) (tVar 2) (tC (.int 0))) (tC (.str "0")))) (tTest (tOp rGtI (tCB (rLenA g.K) (tCons (tVar 2) tNil)) (tC (.int 1))))) (sFld g.K (tVar 0) (tOp rAddI (tFld g.K (tVar 0) "place") (tC (.int 1))) "stopped") (tIfS (tTest (tOp rGtI (tCB (rLenA g.K) (tCons (tVar 2) tNil)) (tVar 1))) (sFld g.K (tVar 0) (tOp rAddI (tFld g.K (tVar 0) "place") (tVar 1)) "stopped") (tRet (tCB rIntS (tCons (tMeth g.Reader "step" (sp_Reader_step g) [] E0 (tVar 0) tNil) tNil)))))) (tRet (tC .non))))
def t_read_bound (g : G8) : TS := (tSeq (tPar 1 2 (tCons (tMeth g.Reader "step" (sp_Reader_step g) [] E0 (tVar 0) tNil) (tCons (tLst tNil) tNil))) (tSeq (tWhile (tB (tC (.bl true))) (tSeq (tAsg (tCall (sp_read_name g) [] E0 (tCons (tVar 0) tNil)) (gName 3)) (tSeq (tIfS (tTest (tOp rIsN (tVar 3) (tC .non))) tRetN tNext) (tSeq (tDrop (tBM g.K "list" rAppend (tVar 2) (tCons (tVar 3) tNil))) (tSeq (tIfS (tNot (tB (tMeth g.Reader "at" (sp_Reader_at g) [] E0 (tVar 0) (tCons (tC (.str "sign")) (tCons (tTup (tCons (tC (.str ",")) tNil)) tNil))))) tBreak tNext) (tDrop (tMeth g.Reader "step" (sp_Reader_step g) [] E0 (tVar 0) tNil))))))) (tSeq (tIfS (tNot (tB (tMeth g.Reader "at" (sp_Reader_at g) [] E0 (tVar 0) (tCons (tC (.str "sign")) (tCons (tTup (tCons (tC (.str ":")) tNil)) tNil))))) (tSeq (tDrop (tMeth g.Reader "stop" (sp_Reader_stop g) [] E0 (tVar 0) (tCons (tTup tNil) (tCons (tTup tNil) tNil)))) tRetN) tNext) (tSeq (tDrop (tMeth g.Reader "step" (sp_Reader_step g) [] E0 (tVar 0) tNil)) (tSeq (tDrop (tBM g.K "list" rAppend (tFld g.K (tVar 0) "opened") (tCons (tTup (tCons (tVar 1) (tCons (tVar 2) (tCons (tCB (rLenA g.K) (tCons (tFld g.K (tVar 0) "bound") tNil)) tNil)))) tNil))) (sFld g.K (tVar 0) (tOp rCat (tFld g.K (tVar 0) "bound") (tVar 2)) "bound"))))))
def t_read_unit (g : G8) : TS := (tIfS (tOr (tB (tMeth g.Reader "at" (sp_Reader_at g) [] E0 (tVar 0) (tCons (tC (.str "word")) (tCons (tTup (tCons (tC (.str "not")) tNil)) tNil)))) (tB (tMeth g.Reader "at" (sp_Reader_at g) [] E0 (tVar 0) (tCons (tC (.str "sign")) (tCons (tTup (tCons (tC (.str "[")) tNil)) tNil))))) (tDrop (tBM g.K "list" rAppend (tFld g.K (tVar 0) "opened") (tCons (tTup (tCons (tMeth g.Reader "step" (sp_Reader_step g) [] E0 (tVar 0) tNil) tNil)) tNil))) (tIfS (tB (tMeth g.Reader "at" (sp_Reader_at g) [] E0 (tVar 0) (tCons (tC (.str "word")) (tCons (tTup (tCons (tC (.str "all")) (tCons (tC (.str "some")) tNil))) tNil)))) (tDrop (tCall (sp_read_bound g) [] E0 (tCons (tVar 0) tNil))) (tAsg (tTup (tCons (tC (.str "term")) (tCons (tTup (tCons (tC (.str "not")) (tCons (tC (.str "all")) (tCons (tC (.str "some")) tNil)))) tNil))) (gTup g.K 2 (gCons (gFld g.K (tVar 0) "wanted") (gCons (gFld g.K (tVar 0) "words") gNil))))))
def t_read_term (g : G8) : TS := (tSeq (sFld g.K (tVar 0) (tC (.str "base")) "wanted") (tIfS (tB (tMeth g.Reader "at" (sp_Reader_at g) [] E0 (tVar 0) (tCons (tC (.str "sign")) (tCons (tTup (tCons (tC (.str "-")) tNil)) tNil)))) (tSeq (tDrop (tMeth g.Reader "step" (sp_Reader_step g) [] E0 (tVar 0) tNil)) (tSeq (tDrop (tBM g.K "list" rAppend (tFld g.K (tVar 0) "opened") (tCons (tTup (tCons (tC (.str "negative")) tNil)) tNil))) (sFld g.K (tVar 0) (tTup tNil) "words"))) tNext))
def t_read_base (g : G8) : TS := (tSeq (tIfS (tB (tMeth g.Reader "at" (sp_Reader_at g) [] E0 (tVar 0) (tCons (tC (.str "sign")) (tCons (tTup (tCons (tC (.str "(")) tNil)) tNil)))) (tSeq (tDrop (tBM g.K "list" rAppend (tFld g.K (tVar 0) "opened") (tCons (tTup (tCons (tMeth g.Reader "step" (sp_Reader_step g) [] E0 (tVar 0) tNil) tNil)) tNil))) (tSeq (tAsg (tTup (tCons (tC (.str "term")) (tCons (tTup tNil) tNil))) (gTup g.K 2 (gCons (gFld g.K (tVar 0) "wanted") (gCons (gFld g.K (tVar 0) "words") gNil)))) tRetN)) tNext) (tSeq (tIfS (tTest (tOp rEq (tFld g.K (tVar 0) "kind") (tC (.str "number")))) (tSeq (tAsg (tCall (sp_read_number g) [] E0 (tCons (tVar 0) (tCons (tC (.int 6)) tNil))) (gName 1)) (sFld g.K (tVar 0) (tTup (tCons (tC (.str "number")) (tCons (tVar 1) tNil))) "value")) (tIfS (tAnd (tTest (tOp rEq (tFld g.K (tVar 0) "kind") (tC (.str "word")))) (tTest (tOp (rIn g.K false) (tFld g.K (tVar 0) "token") (tFld g.K (tVar 0) "bound")))) (sFld g.K (tVar 0) (tTup (tCons (tC (.str "letter")) (tCons (tMeth g.Reader "step" (sp_Reader_step g) [] E0 (tVar 0) tNil) tNil))) "value") (tDrop (tMeth g.Reader "stop" (sp_Reader_stop g) [] E0 (tVar 0) (tCons (tOp (rCatA g.K) (tCB (rTupA g.K) (tCons (tFld g.K (tVar 0) "bound") tNil)) (tFld g.K (tVar 0) "words")) (tCons (tTup tNil) tNil)))))) (tAsg (tTup (tCons (tC (.str "more")) (tCons (tTup tNil) (tCons (tC (.bl true)) tNil)))) (gTup g.K 3 (gCons (gFld g.K (tVar 0) "wanted") (gCons (gFld g.K (tVar 0) "words") (gCons (gFld g.K (tVar 0) "is_base") gNil)))))))
def t_join_open (g : G8) : TS := (tSeq (tIfS (tTest (tOp (rIn g.K true) (tMeth g.Reader "top" (sp_Reader_top g) [] E0 (tVar 0) tNil) (tVar 1))) (tRet (tC (.bl false))) tNext) (tSeq (tAsg (tBM0 g.K "list" rPop (tFld g.K (tVar 0) "opened")) (gName 2)) (tSeq (sFld g.K (tVar 0) (tOp (rCatA g.K) (tOp (rCatA g.K) (tTup (tCons (tOp (rIx g.K) (tVar 2) (tC (.int 0))) tNil)) (tSl (rSlT g.K) (tVar 2) (tPart (tC (.int 1))) tNoPart)) (tTup (tCons (tFld g.K (tVar 0) "value") tNil))) "value") (tRet (tC (.bl true))))))
def t_go_on (g : G8) : TS := (tSeq (tIfS (tNot (tB (tMeth g.Reader "at" (sp_Reader_at g) [] E0 (tVar 0) (tCons (tVar 1) (tCons (tVar 2) tNil))))) (tRet (tC (.bl false))) tNext) (tSeq (tDrop (tMeth g.Reader "step" (sp_Reader_step g) [] E0 (tVar 0) tNil)) (tSeq (tDrop (tBM g.K "list" rAppend (tFld g.K (tVar 0) "opened") (tCons (tTup (tCons (tVar 3) (tCons (tFld g.K (tVar 0) "value") tNil))) tNil))) (tSeq (sFld g.K (tVar 0) (tVar 4) "wanted") (tRet (tC (.bl true)))))))
def t_read_more (g : G8) : TS := (tSeq (tIfS (tAnd (tB (tFld g.K (tVar 0) "is_base")) (tB (tMeth g.Reader "at" (sp_Reader_at g) [] E0 (tVar 0) (tCons (tC (.str "sign")) (tCons (tTup (tCons (tC (.str "^")) tNil)) tNil))))) (tSeq (tDrop (tMeth g.Reader "step" (sp_Reader_step g) [] E0 (tVar 0) tNil)) (tSeq (sFld g.K (tVar 0) (tTup (tCons (tC (.str "power")) (tCons (tFld g.K (tVar 0) "value") (tCons (tCall (sp_read_number g) [] E0 (tCons (tVar 0) (tCons (tC (.int 1)) tNil))) tNil)))) "value") (tSeq (sFld g.K (tVar 0) (tC (.bl false)) "is_base") tRetN))) tNext) (tSeq (tDrop (tCall (sp_join_open g) [] E0 (tCons (tVar 0) (tCons (tTup (tCons (tC (.str "times")) tNil)) tNil)))) (tSeq (tIfS (tB (tCall (sp_go_on g) [] E0 (tCons (tVar 0) (tCons (tC (.str "sign")) (tCons (tTup (tCons (tC (.str "*")) tNil)) (tCons (tC (.str "times")) (tCons (tC (.str "base")) tNil))))))) tRetN tNext) (tSeq (tDrop (tCall (sp_join_open g) [] E0 (tCons (tVar 0) (tCons (tTup (tCons (tC (.str "plus")) (tCons (tC (.str "minus")) (tCons (tC (.str "negative")) tNil)))) tNil)))) (tSeq (tIfS (tOr (tB (tCall (sp_go_on g) [] E0 (tCons (tVar 0) (tCons (tC (.str "sign")) (tCons (tTup (tCons (tC (.str "+")) tNil)) (tCons (tC (.str "plus")) (tCons (tC (.str "base")) tNil))))))) (tB (tCall (sp_go_on g) [] E0 (tCons (tVar 0) (tCons (tC (.str "sign")) (tCons (tTup (tCons (tC (.str "-")) tNil)) (tCons (tC (.str "minus")) (tCons (tC (.str "base")) tNil)))))))) tRetN tNext) (tIfS (tTest (tOp rEq (tMeth g.Reader "top" (sp_Reader_top g) [] E0 (tVar 0) tNil) (tC (.str "(")))) (tDrop (tCall (sp_close_bracket g) [] E0 (tCons (tVar 0) tNil))) (tIfS (tB (tCall (sp_join_open g) [] E0 (tCons (tVar 0) (tCons (tC (.ref g.aR)) tNil)))) (sFld g.K (tVar 0) (tC (.str "joined")) "wanted") (tIfS (tAnd (tTest (tOp rEq (tFld g.K (tVar 0) "kind") (tC (.str "sign")))) (tTest (tOp (rIn g.K false) (tFld g.K (tVar 0) "token") (tC (.ref g.aR))))) (tDrop (tCall (sp_go_on g) [] E0 (tCons (tVar 0) (tCons (tC (.str "sign")) (tCons (tC (.ref g.aR)) (tCons (tFld g.K (tVar 0) "token") (tCons (tC (.str "term")) tNil))))))) (tDrop (tMeth g.Reader "stop" (sp_Reader_stop g) [] E0 (tVar 0) (tCons (tTup tNil) (tCons (tC (.ref g.aR)) tNil))))))))))))
def t_close_bracket (g : G8) : TS := (tIfS (tB (tMeth g.Reader "at" (sp_Reader_at g) [] E0 (tVar 0) (tCons (tC (.str "sign")) (tCons (tTup (tCons (tC (.str ")")) tNil)) tNil)))) (tSeq (tDrop (tMeth g.Reader "step" (sp_Reader_step g) [] E0 (tVar 0) tNil)) (tSeq (tDrop (tBM0 g.K "list" rPop (tFld g.K (tVar 0) "opened"))) (sFld g.K (tVar 0) (tC (.bl true)) "is_base"))) (tDrop (tMeth g.Reader "stop" (sp_Reader_stop g) [] E0 (tVar 0) (tCons (tTup tNil) (tCons (tTup tNil) tNil)))))
def t_read_joined (g : G8) : TS := (tSeq (tWhile (tB (tCall (sp_join_open g) [] E0 (tCons (tVar 0) (tCons (tTup (tCons (tC (.str "not")) tNil)) tNil)))) tNext) (tSeq (tDrop (tCall (sp_join_open g) [] E0 (tCons (tVar 0) (tCons (tTup (tCons (tC (.str "and")) tNil)) tNil)))) (tSeq (tIfS (tB (tCall (sp_go_on g) [] E0 (tCons (tVar 0) (tCons (tC (.str "word")) (tCons (tTup (tCons (tC (.str "and")) tNil)) (tCons (tC (.str "and")) (tCons (tC (.str "unit")) tNil))))))) tRetN tNext) (tSeq (tDrop (tCall (sp_join_open g) [] E0 (tCons (tVar 0) (tCons (tTup (tCons (tC (.str "or")) tNil)) tNil)))) (tSeq (tIfS (tB (tCall (sp_go_on g) [] E0 (tCons (tVar 0) (tCons (tC (.str "word")) (tCons (tTup (tCons (tC (.str "or")) tNil)) (tCons (tC (.str "or")) (tCons (tC (.str "unit")) tNil))))))) tRetN tNext) (tSeq (tFor (iTup g.K (tTup (tCons (tC (.str "implies")) (tCons (tC (.str "iff")) tNil)))) (gName 1) (tIfS (tB (tCall (sp_go_on g) [] E0 (tCons (tVar 0) (tCons (tC (.str "word")) (tCons (tTup (tCons (tVar 1) tNil)) (tCons (tVar 1) (tCons (tC (.str "unit")) tNil))))))) tRetN tNext)) (tSeq (tWhile (tB (tCall (sp_join_open g) [] E0 (tCons (tVar 0) (tCons (tTup (tCons (tC (.str "implies")) (tCons (tC (.str "iff")) tNil))) tNil)))) tNext) (tIfS (tTest (tOp (rIn g.K false) (tMeth g.Reader "top" (sp_Reader_top g) [] E0 (tVar 0) tNil) (tTup (tCons (tC (.str "all")) (tCons (tC (.str "some")) tNil))))) (tSeq (tAsg (tBM0 g.K "list" rPop (tFld g.K (tVar 0) "opened")) (gTup g.K 3 (gCons (gName 1) (gCons (gName 2) (gCons (gName 3) gNil))))) (tSeq (sFld g.K (tVar 0) (tSl (rSlL g.K) (tFld g.K (tVar 0) "bound") tNoPart (tPart (tVar 3))) "bound") (tFor (iList g.K (tRevL g.K (tVar 2))) (gName 4) (sFld g.K (tVar 0) (tTup (tCons (tVar 1) (tCons (tVar 4) (tCons (tFld g.K (tVar 0) "value") tNil)))) "value")))) (tIfS (tAnd (tTest (tOp rEq (tMeth g.Reader "top" (sp_Reader_top g) [] E0 (tVar 0) tNil) (tC (.str "[")))) (tB (tMeth g.Reader "at" (sp_Reader_at g) [] E0 (tVar 0) (tCons (tC (.str "sign")) (tCons (tTup (tCons (tC (.str "]")) tNil)) tNil))))) (tSeq (tDrop (tMeth g.Reader "step" (sp_Reader_step g) [] E0 (tVar 0) tNil)) (tDrop (tBM0 g.K "list" rPop (tFld g.K (tVar 0) "opened")))) (tIfS (tAnd (tTest (tOp rEq (tMeth g.Reader "top" (sp_Reader_top g) [] E0 (tVar 0) tNil) (tC (.str "")))) (tTest (tOp rEq (tFld g.K (tVar 0) "kind") (tC (.str "end"))))) (sFld g.K (tVar 0) (tC (.str "nothing")) "wanted") (tDrop (tMeth g.Reader "stop" (sp_Reader_stop g) [] E0 (tVar 0) (tCons (tTup (tCons (tC (.str "and")) (tCons (tC (.str "or")) (tCons (tC (.str "implies")) (tCons (tC (.str "iff")) tNil))))) (tCons (tTup tNil) tNil))))))))))))))
def t_read_next (g : G8) : TS := (tIfS (tTest (tOp rEq (tFld g.K (tVar 0) "wanted") (tC (.str "unit")))) (tDrop (tCall (sp_read_unit g) [] E0 (tCons (tVar 0) tNil))) (tIfS (tTest (tOp rEq (tFld g.K (tVar 0) "wanted") (tC (.str "term")))) (tDrop (tCall (sp_read_term g) [] E0 (tCons (tVar 0) tNil))) (tIfS (tTest (tOp rEq (tFld g.K (tVar 0) "wanted") (tC (.str "base")))) (tDrop (tCall (sp_read_base g) [] E0 (tCons (tVar 0) tNil))) (tIfS (tTest (tOp rEq (tFld g.K (tVar 0) "wanted") (tC (.str "more")))) (tDrop (tCall (sp_read_more g) [] E0 (tCons (tVar 0) tNil))) (tDrop (tCall (sp_read_joined g) [] E0 (tCons (tVar 0) tNil)))))))
def t_need_text (g : G8) : TS := (tSeq (tIfS (tNot (tB (tCB (rIsi g.K) (tCons (tVar 0) (tCons (tC (.ty "str")) tNil))))) tNever tNext) (tSeq (tIfS (tOr (tNot (tB (tCall (sp_is_row g) [] E0 (tCons (tVar 1) tNil)))) (tOr (tTest (tOp rGtI (tCB (rLenA g.K) (tCons (tVar 1) tNil)) (tC (.int 8)))) (tNot (tB (tCB (rAll g.K) (tCons (tLc (iSeq g.K (tVar 1)) (gName 2) tYes (tCall (sp_is_name g) [] E0 (tCons (tVar 2) tNil)) [2]) tNil)))))) tNever tNext) (tIfS (tTest (tOp rNe (tLenSetS g.K (tVar 1)) (tCB (rLenA g.K) (tCons (tVar 1) tNil)))) tNever tNext)))
def t_settled_formula (g : G8) : TS := (tSeq (tAsg (tMake g.Reader (sp_Reader_init g) [] E0 (tCons (tVar 0) (tCons (tVar 1) tNil))) (gName 2)) (tSeq (tWhile (tTest (tOp rNe (tFld g.K (tVar 2) "wanted") (tC (.str "nothing")))) (tSeq (tDrop (tCall (sp_read_next g) [] E0 (tCons (tVar 2) tNil))) (tIfS (tTest (tOp rNotN (tFld g.K (tVar 2) "stopped") (tC .non))) (tRet (tMake g.Unread (sp_Unread_init g) [] E0 (tCons (tFld g.K (tVar 2) "stopped") (tCons (tOp rEq (tFld g.K (tVar 2) "stopped") (tCB (rLenA g.K) (tCons (tVar 0) tNil))) tNil)))) tNext))) (tRet (tMake g.Read (sp_Read_init g) [] E0 (tCons (tFld g.K (tVar 2) "value") tNil)))))
def t_settle_formula (g : G8) : TS := (tSeq (tDrop (tCall (sp_need_text g) [] E0 (tCons (tVar 0) (tCons (tVar 1) tNil)))) (tRet (tCall (sp_settled_formula g) [] E0 (tCons (tVar 0) (tCons (tVar 1) tNil)))))
def t_settle_text (g : G8) : TS := (tSeq (tDrop (tCall (sp_need_text g) [] E0 (tCons (tVar 0) (tCons (tTup tNil) tNil)))) (tRet (tCall (sp_settled_formula g) [] E0 (tCons (tVar 0) (tCons (tTup tNil) tNil)))))
def t_reading_fault (g : G8) : TS := (tSeq (tDrop (tCall (sp_need_text g) [] E0 (tCons (tVar 0) (tCons (tVar 1) tNil)))) (tSeq (tAsg (tCall (sp_settled_formula g) [] E0 (tCons (tVar 0) (tCons (tVar 1) tNil))) (gName 3)) (tSeq (tIfS (tB (tCB (rIsi g.K) (tCons (tVar 2) (tCons (tC (.ref g.Read)) tNil)))) (tSeq (tIfS (tB (tCB (rIsi g.K) (tCons (tVar 3) (tCons (tC (.ref g.Unread)) tNil)))) (tRet (tTup (tCons (tC (.str "unread")) tNil))) tNext) (tRet (tIf (tAnd (tB (tCall (sp_is_saying g) [] E0 (tCons (tFld g.K (tVar 2) "tree") tNil))) (tTest (tOp (rEqO g) (tVar 2) (tVar 3)))) (tC .non) (tTup (tCons (tC (.str "tree")) tNil))))) tNext) (tSeq (tIfS (tNot (tB (tCB (rIsi g.K) (tCons (tVar 2) (tCons (tC (.ref g.Unread)) tNil))))) (tRet (tTup (tCons (tC (.str "answer")) tNil))) tNext) (tSeq (tIfS (tB (tCB (rIsi g.K) (tCons (tVar 3) (tCons (tC (.ref g.Read)) tNil)))) (tRet (tTup (tCons (tC (.str "read")) tNil))) tNext) (tSeq (tIfS (tOr (tNot (tB (tCall (sp_is_integer g) [] E0 (tCons (tFld g.K (tVar 2) "place") tNil)))) (tTest (tOp rNe (tFld g.K (tVar 2) "place") (tFld g.K (tVar 3) "place")))) (tRet (tTup (tCons (tC (.str "place")) tNil))) tNext) (tRet (tIf (tAnd (tB (tCB (rIsi g.K) (tCons (tFld g.K (tVar 2) "is_end") (tCons (tC (.ty "bool")) tNil)))) (tTest (tOp (rEqN g.K 200) (tFld g.K (tVar 2) "is_end") (tFld g.K (tVar 3) "is_end")))) (tC .non) (tTup (tCons (tC (.str "end")) tNil))))))))))
def t_law_pen (g : G8) : TS := (tSeq (tAsg (tC (.int 0)) (gName 1)) (tSeq (tFor (iList g.K (tVar 0)) (gName 2) (tAsg (tOp rModI (tCB rIntA (tCons (tOp rAddI (tOp rMulI (tVar 1) (tC (.int 47))) (tVar 2)) tNil)) (tC (.int 1000000007))) (gName 1))) (tRet (tDisp (((tC (.str "cells")), (tCB (rListA g.K) (tCons (tVar 0) tNil))) :: (((tC (.str "at")), (tC (.int 0))) :: (((tC (.str "digits")), (tC (.int 0))) :: (((tC (.str "count")), (tC (.int 0))) :: (((tC (.str "fold")), (tVar 1)) :: [])))))))))
def t_law_draw (g : G8) : TS := (tSeq (sDPut (tVar 0) (tC (.str "count")) (tOp rAddI (tDGet (tVar 0) (tC (.str "count"))) (tC (.int 1)))) (tSeq (tIfS (tAnd (tTest (tOp rEq (tDGet (tVar 0) (tC (.str "digits"))) (tC (.int 0)))) (tTest (tOp rLtI (tDGet (tVar 0) (tC (.str "at"))) (tCB (rLenA g.K) (tCons (tDGet (tVar 0) (tC (.str "cells"))) tNil))))) (tSeq (tAsg (tOp (rIx g.K) (tDGet (tVar 0) (tC (.str "cells"))) (tDGet (tVar 0) (tC (.str "at")))) (gName 2)) (tSeq (sDPut (tVar 0) (tC (.str "at")) (tOp rAddI (tDGet (tVar 0) (tC (.str "at"))) (tC (.int 1)))) (tIfS (tTest (tOp rGeI (tVar 2) (tOp rPowI (tC (.int 10)) (tC (.int 18))))) (sDPut (tVar 0) (tC (.str "digits")) (tOp rSubI (tVar 2) (tOp rPowI (tC (.int 10)) (tC (.int 18))))) (sDPut (tVar 0) (tC (.str "fold")) (tOp rModI (tCB rIntA (tCons (tOp rAddI (tOp rMulI (tDGet (tVar 0) (tC (.str "fold"))) (tC (.int 69069))) (tVar 2)) tNil)) (tC (.int 2147483587))))))) tNext) (tSeq (tIfS (tTest (tOp rGtI (tDGet (tVar 0) (tC (.str "digits"))) (tC (.int 0)))) (tSeq (tAsg (tOp rModI (tCB rIntA (tCons (tDGet (tVar 0) (tC (.str "digits"))) tNil)) (tVar 1)) (gName 3)) (tSeq (sDPut (tVar 0) (tC (.str "digits")) (tOp rDivI (tDGet (tVar 0) (tC (.str "digits"))) (tVar 1))) (tRet (tVar 3)))) tNext) (tSeq (tAsg (tOp rAddI (tOp rAddI (tDGet (tVar 0) (tC (.str "fold"))) (tOp rMulI (tDGet (tVar 0) (tC (.str "count"))) (tC (.int 7907)))) (tC (.int 37))) (gName 4)) (tRet (tOp rModI (tOp rDivI (tCB rIntA (tCons (tOp rModI (tOp rPowI (tVar 4) (tC (.int 17))) (tC (.int 2305843009213693951))) tNil)) (tC (.int 128))) (tVar 1)))))))
def t_law_pick (g : G8) : TS := (tRet (tOp (rIx g.K) (tVar 1) (tCall (sp_law_draw g) [] E0 (tCons (tVar 0) (tCons (tCB (rLenA g.K) (tCons (tVar 1) tNil)) tNil)))))
def t_law_s_term (g : G8) : TS := (tSeq (tAsg (tLst tNil) (gName 3)) (tSeq (tFor (iRng1 (tCons (tVar 2) tNil)) (gName 4) (tSeq (tAsg (tIf (tTest (tOp rGtI (tCB (rLenA g.K) (tCons (tVar 3) tNil)) (tC (.int 1)))) (tCall (sp_law_draw g) [] E0 (tCons (tVar 0) (tCons (tC (.int 7)) tNil))) (tCall (sp_law_draw g) [] E0 (tCons (tVar 0) (tCons (tC (.int 2)) tNil)))) (gName 5)) (tIfS (tAnd (tTest (tOp rEq (tVar 5) (tC (.int 0)))) (tTest (tOp (rNeN g.K 200) (tVar 1) (tLst tNil)))) (tDrop (tBM g.K "list" rAppend (tVar 3) (tCons (tTup (tCons (tC (.str "letter")) (tCons (tCall (sp_law_pick g) [] E0 (tCons (tVar 0) (tCons (tVar 1) tNil))) tNil))) tNil))) (tIfS (tTest (tOp rLtI (tVar 5) (tC (.int 2)))) (tDrop (tBM g.K "list" rAppend (tVar 3) (tCons (tTup (tCons (tC (.str "number")) (tCons (tCall (sp_law_pick g) [] E0 (tCons (tVar 0) (tCons (tLst (tCons (tC (.int 0)) (tCons (tC (.int 1)) (tCons (tC (.int 2)) (tCons (tC (.int 3)) (tCons (tC (.int 7)) tNil)))))) tNil))) tNil))) tNil))) (tIfS (tTest (tOp rEq (tVar 5) (tC (.int 2)))) (tDrop (tBM g.K "list" rAppend (tVar 3) (tCons (tTup (tCons (tC (.str "negative")) (tCons (tBM0 g.K "list" rPop (tVar 3)) tNil))) tNil))) (tIfS (tTest (tOp rEq (tVar 5) (tC (.int 3)))) (tDrop (tBM g.K "list" rAppend (tVar 3) (tCons (tTup (tCons (tC (.str "power")) (tCons (tBM0 g.K "list" rPop (tVar 3)) (tCons (tCall (sp_law_draw g) [] E0 (tCons (tVar 0) (tCons (tC (.int 4)) tNil))) tNil)))) tNil))) (tSeq (tAsg (tBM0 g.K "list" rPop (tVar 3)) (gName 6)) (tDrop (tBM g.K "list" rAppend (tVar 3) (tCons (tTup (tCons (tOp (rIx g.K) (tLst (tCons (tC (.str "plus")) (tCons (tC (.str "minus")) (tCons (tC (.str "times")) tNil)))) (tOp rSubI (tVar 5) (tC (.int 4)))) (tCons (tBM0 g.K "list" rPop (tVar 3)) (tCons (tVar 6) tNil)))) tNil)))))))))) (tRet (tOp (rIx g.K) (tVar 3) (tUn (rU fun i => .int (-i)) (tC (.int 1)))))))
def t_law_s_atom (g : G8) : TS := (tSeq (tAsg (tCall (sp_law_pick g) [] E0 (tCons (tVar 0) (tCons (tLst (tCons (tC (.str "=")) (tCons (tC (.str "!=")) (tCons (tC (.str "<")) (tCons (tC (.str "<=")) (tCons (tC (.str ">")) (tCons (tC (.str ">=")) tNil))))))) tNil))) (gName 3)) (tRet (tTup (tCons (tVar 3) (tCons (tCall (sp_law_s_term g) [] E0 (tCons (tVar 0) (tCons (tVar 1) (tCons (tOp rAddI (tC (.int 1)) (tCall (sp_law_draw g) [] E0 (tCons (tVar 0) (tCons (tVar 2) tNil)))) tNil)))) (tCons (tCall (sp_law_s_term g) [] E0 (tCons (tVar 0) (tCons (tVar 1) (tCons (tOp rAddI (tC (.int 1)) (tCall (sp_law_draw g) [] E0 (tCons (tVar 0) (tCons (tVar 2) tNil)))) tNil)))) tNil))))))
def t_law_s_saying (g : G8) : TS := (tSeq (tAsg (tLst tNil) (gName 4)) (tSeq (tFor (iRng1 (tCons (tVar 2) tNil)) (gName 5) (tSeq (tAsg (tIf (tTest (tOp rGtI (tCB (rLenA g.K) (tCons (tVar 4) tNil)) (tC (.int 1)))) (tCall (sp_law_draw g) [] E0 (tCons (tVar 0) (tCons (tC (.int 9)) tNil))) (tCall (sp_law_draw g) [] E0 (tCons (tVar 0) (tCons (tC (.int 4)) tNil)))) (gName 6)) (tIfS (tOr (tTest (tOp rLtI (tVar 6) (tC (.int 2)))) (tTest (tOp (rEqN g.K 200) (tVar 4) (tLst tNil)))) (tDrop (tBM g.K "list" rAppend (tVar 4) (tCons (tCall (sp_law_s_atom g) [] E0 (tCons (tVar 0) (tCons (tVar 1) (tCons (tVar 3) tNil)))) tNil))) (tIfS (tTest (tOp rEq (tVar 6) (tC (.int 2)))) (tDrop (tBM g.K "list" rAppend (tVar 4) (tCons (tTup (tCons (tC (.str "not")) (tCons (tBM0 g.K "list" rPop (tVar 4)) tNil))) tNil))) (tIfS (tOr (tTest (tOp rEq (tVar 6) (tC (.int 3)))) (tTest (tOp rEq (tVar 6) (tC (.int 8))))) (tDrop (tBM g.K "list" rAppend (tVar 4) (tCons (tTup (tCons (tCall (sp_law_pick g) [] E0 (tCons (tVar 0) (tCons (tLst (tCons (tC (.str "all")) (tCons (tC (.str "some")) tNil))) tNil))) (tCons (tCall (sp_law_pick g) [] E0 (tCons (tVar 0) (tCons (tVar 1) tNil))) (tCons (tBM0 g.K "list" rPop (tVar 4)) tNil)))) tNil))) (tSeq (tAsg (tBM0 g.K "list" rPop (tVar 4)) (gName 7)) (tDrop (tBM g.K "list" rAppend (tVar 4) (tCons (tTup (tCons (tOp (rIx g.K) (tLst (tCons (tC (.str "and")) (tCons (tC (.str "or")) (tCons (tC (.str "implies")) (tCons (tC (.str "iff")) tNil))))) (tOp rSubI (tVar 6) (tC (.int 4)))) (tCons (tBM0 g.K "list" rPop (tVar 4)) (tCons (tVar 7) tNil)))) tNil))))))))) (tRet (tOp (rIx g.K) (tVar 4) (tUn (rU fun i => .int (-i)) (tC (.int 1)))))))
def t_law_s_parts (g : G8) : TS := (tSeq (tIfS (tTest (tOp (rIn g.K false) (tOp (rIx g.K) (tVar 0) (tC (.int 0))) (tLst (tCons (tC (.str "=")) (tCons (tC (.str "!=")) (tCons (tC (.str "<")) (tCons (tC (.str "<=")) (tCons (tC (.str ">")) (tCons (tC (.str ">=")) tNil))))))))) (tRet (tLst tNil)) tNext) (tRet (tIf (tTest (tOp (rIn g.K false) (tOp (rIx g.K) (tVar 0) (tC (.int 0))) (tLst (tCons (tC (.str "all")) (tCons (tC (.str "some")) tNil))))) (tLst (tCons (tOp (rIx g.K) (tVar 0) (tC (.int 2))) tNil)) (tCB (rListA g.K) (tCons (tSl (rSlT g.K) (tVar 0) (tPart (tC (.int 1))) tNoPart) tNil)))))
def t_law_s_in_terms (g : G8) : TS := (tSeq (tPar 1 2 (tCons (tLst tNil) (tCons (tCB (rListA g.K) (tCons (tVar 0) tNil)) tNil))) (tSeq (tWhile (tTest (tOp (rNeN g.K 200) (tVar 2) (tLst tNil))) (tSeq (tAsg (tBM0 g.K "list" rPop (tVar 2)) (gName 3)) (tIfS (tTest (tOp rEq (tOp (rIx g.K) (tVar 3) (tC (.int 0))) (tC (.str "letter")))) (tDrop (tBM g.K "list" rAppend (tVar 1) (tCons (tOp (rIx g.K) (tVar 3) (tC (.int 1))) tNil))) (tIfS (tTest (tOp rNe (tOp (rIx g.K) (tVar 3) (tC (.int 0))) (tC (.str "number")))) (tAsg (tOp rCat (tVar 2) (tLc (iTup g.K (tSl (rSlT g.K) (tVar 3) (tPart (tC (.int 1))) tNoPart)) (gName 4) (tB (tCB (rIsi g.K) (tCons (tVar 4) (tCons (tC (.ty "tuple")) tNil)))) (tVar 4) [4])) (gName 2)) tNext)))) (tRet (tVar 1))))
def t_law_s_free (g : G8) : TS := (tSeq (tPar 1 2 (tCons tDNewK (tCons (tLst (tCons (tTup (tCons (tVar 0) (tCons (tLst tNil) tNil))) tNil)) tNil))) (tSeq (tWhile (tTest (tOp (rNeN g.K 200) (tVar 2) (tLst tNil))) (tSeq (tAsg (tBM0 g.K "list" rPop (tVar 2)) (gTup g.K 2 (gCons (gName 3) (gCons (gName 4) gNil)))) (tSeq (tIfS (tTest (tOp (rEqN g.K 200) (tCall (sp_law_s_parts g) [] E0 (tCons (tVar 3) tNil)) (tLst tNil))) (tFor (iList g.K (tCall (sp_law_s_in_terms g) [] E0 (tCons (tSl (rSlT g.K) (tVar 3) (tPart (tC (.int 1))) tNoPart) tNil))) (gName 5) (tIfS (tTest (tOp (rIn g.K true) (tVar 5) (tVar 4))) (sDPut (tVar 1) (tVar 5) (tC (.bl true))) tNext)) tNext) (tSeq (tAsg (tIf (tTest (tOp (rIn g.K false) (tOp (rIx g.K) (tVar 3) (tC (.int 0))) (tLst (tCons (tC (.str "all")) (tCons (tC (.str "some")) tNil))))) (tOp rCat (tVar 4) (tLst (tCons (tOp (rIx g.K) (tVar 3) (tC (.int 1))) tNil))) (tVar 4)) (gName 6)) (tAsg (tOp rCat (tVar 2) (tLc (iList g.K (tCall (sp_law_s_parts g) [] E0 (tCons (tVar 3) tNil))) (gName 7) tYes (tTup (tCons (tVar 7) (tCons (tVar 6) tNil))) [7])) (gName 2)))))) (tRet (tCB (rSortedS g.K) (tCons (tCB rListD (tCons (tVar 1) tNil)) tNil)))))
def t_law_s_tokens (g : G8) : TS := (tSeq (tPar 2 3 (tCons (tLst tNil) (tCons (tLst (tCons (tTup (tCons (tC (.str "saying")) (tCons (tVar 0) (tCons (tC (.int 0)) tNil)))) tNil)) tNil))) (tSeq (tWhile (tTest (tOp (rNeN g.K 200) (tVar 3) (tLst tNil))) (tSeq (tAsg (tBM0 g.K "list" rPop (tVar 3)) (gTup g.K 3 (gCons (gName 4) (gCons (gName 5) (gCons (gName 6) gNil))))) (tSeq (tIfS (tTest (tOp rEq (tVar 4) (tC (.str "token")))) (tSeq (tDrop (tBM g.K "list" rAppend (tVar 2) (tCons (tVar 5) tNil))) tCont) tNext) (tSeq (tAsg (tOp rEq (tCall (sp_law_draw g) [] E0 (tCons (tVar 1) (tCons (tC (.int 6)) tNil))) (tC (.int 0))) (gName 7)) (tIfS (tTest (tOp rEq (tVar 4) (tC (.str "saying")))) (tAsg (tOp rCat (tVar 3) (tRevL g.K (tCall (sp_law_s_spread g) [] E0 (tCons (tVar 5) (tCons (tVar 6) (tCons (tVar 7) tNil)))))) (gName 3)) (tAsg (tOp rCat (tVar 3) (tRevL g.K (tCall (sp_law_s_spread_term g) [] E0 (tCons (tVar 5) (tCons (tVar 6) (tCons (tVar 7) tNil)))))) (gName 3))))))) (tRet (tVar 2))))
def t_law_s_spread (g : G8) (spr : Sp) : TS := (tSeq (tAsg (tOp (rIx g.K) (tVar 0) (tC (.int 0))) (gName 3)) (tSeq (tAsg (tDGet2 (tDisp (((tC (.str "implies")), (tC (.int 0))) :: (((tC (.str "iff")), (tC (.int 0))) :: (((tC (.str "or")), (tC (.int 1))) :: (((tC (.str "and")), (tC (.int 2))) :: (((tC (.str "not")), (tC (.int 3))) :: (((tC (.str "all")), (tC (.int 0))) :: (((tC (.str "some")), (tC (.int 0))) :: [])))))))) (tVar 3) (tC (.int 3))) (gName 4)) (tSeq (tIfS (tOr (tTest (tOp rLtI (tVar 4) (tVar 1))) (tB (tVar 2))) (tRet (tIf (tTest (tOp rLtI (tVar 4) (tVar 1))) (tLst (tCons (tTup (tCons (tC (.str "token")) (tCons (tC (.str "[")) (tCons (tC (.int 0)) tNil)))) (tCons (tTup (tCons (tC (.str "saying")) (tCons (tVar 0) (tCons (tC (.int 0)) tNil)))) (tCons (tTup (tCons (tC (.str "token")) (tCons (tC (.str "]")) (tCons (tC (.int 0)) tNil)))) tNil)))) (tOp rCat (tOp rCat (tLst (tCons (tTup (tCons (tC (.str "token")) (tCons (tC (.str "[")) (tCons (tC (.int 0)) tNil)))) tNil)) (tCall spr [] E0 (tCons (tVar 0) (tCons (tC (.int 0)) (tCons (tC (.bl false)) tNil))))) (tLst (tCons (tTup (tCons (tC (.str "token")) (tCons (tC (.str "]")) (tCons (tC (.int 0)) tNil)))) tNil))))) tNext) (tSeq (tIfS (tTest (tOp (rEqN g.K 200) (tCall (sp_law_s_parts g) [] E0 (tCons (tVar 0) tNil)) (tLst tNil))) (tRet (tLst (tCons (tTup (tCons (tC (.str "term")) (tCons (tOp (rIx g.K) (tVar 0) (tC (.int 1))) (tCons (tC (.int 0)) tNil)))) (tCons (tTup (tCons (tC (.str "token")) (tCons (tVar 3) (tCons (tC (.int 0)) tNil)))) (tCons (tTup (tCons (tC (.str "term")) (tCons (tOp (rIx g.K) (tVar 0) (tC (.int 2))) (tCons (tC (.int 0)) tNil)))) tNil))))) tNext) (tSeq (tIfS (tTest (tOp rEq (tVar 3) (tC (.str "not")))) (tRet (tLst (tCons (tTup (tCons (tC (.str "token")) (tCons (tC (.str "not")) (tCons (tC (.int 0)) tNil)))) (tCons (tTup (tCons (tC (.str "saying")) (tCons (tOp (rIx g.K) (tVar 0) (tC (.int 1))) (tCons (tC (.int 3)) tNil)))) tNil)))) tNext) (tSeq (tIfS (tTest (tOp (rIn g.K false) (tVar 3) (tLst (tCons (tC (.str "all")) (tCons (tC (.str "some")) tNil))))) (tRet (tLst (tCons (tTup (tCons (tC (.str "token")) (tCons (tVar 3) (tCons (tC (.int 0)) tNil)))) (tCons (tTup (tCons (tC (.str "token")) (tCons (tOp (rIx g.K) (tVar 0) (tC (.int 1))) (tCons (tC (.int 0)) tNil)))) (tCons (tTup (tCons (tC (.str "token")) (tCons (tC (.str ":")) (tCons (tC (.int 0)) tNil)))) (tCons (tTup (tCons (tC (.str "saying")) (tCons (tOp (rIx g.K) (tVar 0) (tC (.int 2))) (tCons (tC (.int 0)) tNil)))) tNil)))))) tNext) (tSeq (tAsg (tDGet (tDisp (((tC (.str "implies")), (tLst (tCons (tC (.int 1)) (tCons (tC (.int 0)) tNil)))) :: (((tC (.str "iff")), (tLst (tCons (tC (.int 1)) (tCons (tC (.int 0)) tNil)))) :: (((tC (.str "or")), (tLst (tCons (tC (.int 1)) (tCons (tC (.int 2)) tNil)))) :: (((tC (.str "and")), (tLst (tCons (tC (.int 2)) (tCons (tC (.int 3)) tNil)))) :: []))))) (tVar 3)) (gName 5)) (tRet (tLst (tCons (tTup (tCons (tC (.str "saying")) (tCons (tOp (rIx g.K) (tVar 0) (tC (.int 1))) (tCons (tOp (rIx g.K) (tVar 5) (tC (.int 0))) tNil)))) (tCons (tTup (tCons (tC (.str "token")) (tCons (tVar 3) (tCons (tC (.int 0)) tNil)))) (tCons (tTup (tCons (tC (.str "saying")) (tCons (tOp (rIx g.K) (tVar 0) (tC (.int 2))) (tCons (tOp (rIx g.K) (tVar 5) (tC (.int 1))) tNil)))) tNil))))))))))))
def t_law_s_spread_term (g : G8) (spr : Sp) : TS := (tSeq (tAsg (tOp (rIx g.K) (tVar 0) (tC (.int 0))) (gName 3)) (tSeq (tAsg (tDGet2 (tDisp (((tC (.str "plus")), (tC (.int 0))) :: (((tC (.str "minus")), (tC (.int 0))) :: (((tC (.str "negative")), (tC (.int 0))) :: (((tC (.str "times")), (tC (.int 1))) :: (((tC (.str "power")), (tC (.int 2))) :: [])))))) (tVar 3) (tC (.int 3))) (gName 4)) (tSeq (tIfS (tOr (tTest (tOp rLtI (tVar 4) (tVar 1))) (tB (tVar 2))) (tSeq (tAsg (tIf (tTest (tOp rLtI (tVar 4) (tVar 1))) (tLst (tCons (tTup (tCons (tC (.str "term")) (tCons (tVar 0) (tCons (tC (.int 0)) tNil)))) tNil)) (tCall spr [] E0 (tCons (tVar 0) (tCons (tC (.int 0)) (tCons (tC (.bl false)) tNil))))) (gName 5)) (tRet (tOp rCat (tOp rCat (tLst (tCons (tTup (tCons (tC (.str "token")) (tCons (tC (.str "(")) (tCons (tC (.int 0)) tNil)))) tNil)) (tVar 5)) (tLst (tCons (tTup (tCons (tC (.str "token")) (tCons (tC (.str ")")) (tCons (tC (.int 0)) tNil)))) tNil))))) tNext) (tSeq (tIfS (tTest (tOp rEq (tVar 3) (tC (.str "number")))) (tRet (tLst (tCons (tTup (tCons (tC (.str "token")) (tCons (tCB rStrI (tCons (tOp (rIx g.K) (tVar 0) (tC (.int 1))) tNil)) (tCons (tC (.int 0)) tNil)))) tNil))) tNext) (tSeq (tIfS (tTest (tOp rEq (tVar 3) (tC (.str "letter")))) (tRet (tLst (tCons (tTup (tCons (tC (.str "token")) (tCons (tOp (rIx g.K) (tVar 0) (tC (.int 1))) (tCons (tC (.int 0)) tNil)))) tNil))) tNext) (tSeq (tIfS (tTest (tOp rEq (tVar 3) (tC (.str "negative")))) (tRet (tLst (tCons (tTup (tCons (tC (.str "token")) (tCons (tC (.str "-")) (tCons (tC (.int 0)) tNil)))) (tCons (tTup (tCons (tC (.str "term")) (tCons (tOp (rIx g.K) (tVar 0) (tC (.int 1))) (tCons (tC (.int 1)) tNil)))) tNil)))) tNext) (tSeq (tIfS (tTest (tOp rEq (tVar 3) (tC (.str "power")))) (tRet (tLst (tCons (tTup (tCons (tC (.str "term")) (tCons (tOp (rIx g.K) (tVar 0) (tC (.int 1))) (tCons (tC (.int 3)) tNil)))) (tCons (tTup (tCons (tC (.str "token")) (tCons (tC (.str "^")) (tCons (tC (.int 0)) tNil)))) (tCons (tTup (tCons (tC (.str "token")) (tCons (tCB rStrI (tCons (tOp (rIx g.K) (tVar 0) (tC (.int 2))) tNil)) (tCons (tC (.int 0)) tNil)))) tNil))))) tNext) (tSeq (tAsg (tDGet (tDisp (((tC (.str "plus")), (tTup (tCons (tC (.str "+")) (tCons (tLst (tCons (tC (.int 0)) (tCons (tC (.int 1)) tNil))) tNil)))) :: (((tC (.str "minus")), (tTup (tCons (tC (.str "-")) (tCons (tLst (tCons (tC (.int 0)) (tCons (tC (.int 1)) tNil))) tNil)))) :: (((tC (.str "times")), (tTup (tCons (tC (.str "*")) (tCons (tLst (tCons (tC (.int 1)) (tCons (tC (.int 2)) tNil))) tNil)))) :: [])))) (tVar 3)) (gTup g.K 2 (gCons (gName 6) (gCons (gName 7) gNil)))) (tRet (tLst (tCons (tTup (tCons (tC (.str "term")) (tCons (tOp (rIx g.K) (tVar 0) (tC (.int 1))) (tCons (tOp (rIx g.K) (tVar 7) (tC (.int 0))) tNil)))) (tCons (tTup (tCons (tC (.str "token")) (tCons (tVar 6) (tCons (tC (.int 0)) tNil)))) (tCons (tTup (tCons (tC (.str "term")) (tCons (tOp (rIx g.K) (tVar 0) (tC (.int 2))) (tCons (tOp (rIx g.K) (tVar 7) (tC (.int 1))) tNil)))) tNil)))))))))))))
def t_law_s_joined_text (g : G8) : TS := (tSeq (tAsg (tC (.str "")) (gName 2)) (tSeq (tFor (iEnum g.K (tCons (tVar 0) tNil)) (gTup g.K 2 (gCons (gName 3) (gCons (gName 4) gNil))) (tSeq (tAsg (tIf (tTest (tOp rGtI (tVar 3) (tC (.int 0)))) (tOp (rIx g.K) (tVar 0) (tOp rSubI (tVar 3) (tC (.int 1)))) (tC (.str ""))) (gName 5)) (tSeq (tAsg (tAndV (tOp rNe (tVar 5) (tC (.str ""))) (tAndV (tOp rInS (tOp (rIx g.K) (tVar 5) (tUn (rU fun i => .int (-i)) (tC (.int 1)))) (tC (.str "abcdefghijklmnopqrstuvwxyz0123456789"))) (tOp rInS (tOp (rIx g.K) (tVar 4) (tC (.int 0))) (tC (.str "abcdefghijklmnopqrstuvwxyz0123456789"))))) (gName 6)) (tAsg (tOp rCatS (tOp rCatS (tOp rCatS (tVar 2) (tIf (tB (tVar 6)) (tC (.str " ")) (tC (.str "")))) (tCall (sp_law_pick g) [] E0 (tCons (tVar 1) (tCons (tLst (tCons (tC (.str "")) (tCons (tC (.str "")) (tCons (tC (.str " ")) (tCons (tC (.str "\n")) (tCons (tC (.str "  ")) tNil)))))) tNil)))) (tVar 4)) (gName 2))))) (tSeq (tAsg (tOp rCatS (tVar 2) (tCall (sp_law_pick g) [] E0 (tCons (tVar 1) (tCons (tLst (tCons (tC (.str "")) (tCons (tC (.str "")) (tCons (tC (.str " ")) tNil)))) tNil)))) (gName 2)) (tRet (tIf (tTest (tOp rLtI (tCB (rLenA g.K) (tCons (tVar 2) tNil)) (tC (.int 401)))) (tVar 2) (tM1 (rJoinA g.K) (tC (.str " ")) (tVar 0)))))))
def t_law_s_text (g : G8) : TS := (tRet (tCall (sp_law_s_joined_text g) [] E0 (tCons (tCall (sp_law_s_tokens g) [] E0 (tCons (tVar 0) (tCons (tVar 1) tNil))) (tCons (tVar 1) tNil))))
def t_law_known (g : G8) : TS := (tSeq (tAsg (tLst (tCons (tTup (tCons (tC (.str "")) (tCons (tC (.int 0)) tNil))) (tCons (tTup (tCons (tC (.str "x")) (tCons (tC (.int 1)) tNil))) (tCons (tTup (tCons (tC (.str "x =")) (tCons (tC (.int 3)) tNil))) (tCons (tTup (tCons (tC (.str "x = = 1")) (tCons (tC (.int 4)) tNil))) (tCons (tTup (tCons (tC (.str "x + * y = 1")) (tCons (tC (.int 4)) tNil))) (tCons (tTup (tCons (tC (.str "z = 1")) (tCons (tC (.int 0)) tNil))) (tCons (tTup (tCons (tC (.str "x1 = 1")) (tCons (tC (.int 1)) tNil))) (tCons (tTup (tCons (tC (.str "(x = 1")) (tCons (tC (.int 3)) tNil))) (tCons (tTup (tCons (tC (.str "(x + y = 1)")) (tCons (tC (.int 7)) tNil))) (tCons (tTup (tCons (tC (.str "[x = 1")) (tCons (tC (.int 6)) tNil))) (tCons (tTup (tCons (tC (.str "x = 1]")) (tCons (tC (.int 5)) tNil))) (tCons (tTup (tCons (tC (.str "x = 01")) (tCons (tC (.int 5)) tNil))) tNil))))))))))))) (gName 0)) (tSeq (tAsg (tOp rCat (tVar 0) (tLst (tCons (tTup (tCons (tC (.str "x = 1234567")) (tCons (tC (.int 10)) tNil))) (tCons (tTup (tCons (tC (.str "x^12 = 1")) (tCons (tC (.int 3)) tNil))) (tCons (tTup (tCons (tC (.str "x^y = 1")) (tCons (tC (.int 2)) tNil))) (tCons (tTup (tCons (tC (.str "all all: x = 1")) (tCons (tC (.int 7)) tNil))) (tCons (tTup (tCons (tC (.str "all abcdefghi: x = 1")) (tCons (tC (.int 12)) tNil))) (tCons (tTup (tCons (tC (.str "all x x = 1")) (tCons (tC (.int 6)) tNil))) (tCons (tTup (tCons (tC (.str "allx: x = 1")) (tCons (tC (.int 3)) tNil))) (tCons (tTup (tCons (tC (.str "al")) (tCons (tC (.int 2)) tNil))) (tCons (tTup (tCons (tC (.str "al x")) (tCons (tC (.int 2)) tNil))) (tCons (tTup (tCons (tC (.str "xand y = 1")) (tCons (tC (.int 1)) tNil))) tNil)))))))))))) (gName 0)) (tSeq (tAsg (tOp rCat (tVar 0) (tLst (tCons (tTup (tCons (tC (.str "x = 1 an y = 1")) (tCons (tC (.int 8)) tNil))) (tCons (tTup (tCons (tC (.str "x = 1 andy = 1")) (tCons (tC (.int 9)) tNil))) (tCons (tTup (tCons (tC (.str "x ! = 1")) (tCons (tC (.int 3)) tNil))) (tCons (tTup (tCons (tC (.str "x !")) (tCons (tC (.int 3)) tNil))) (tCons (tTup (tCons (tC (.str "not")) (tCons (tC (.int 3)) tNil))) (tCons (tTup (tCons (tC (.str "nots = 1")) (tCons (tC (.int 3)) tNil))) (tCons (tTup (tCons (tC (.str "x = 1 not")) (tCons (tC (.int 6)) tNil))) (tCons (tTup (tCons (tC (.str "x < 1 < y")) (tCons (tC (.int 6)) tNil))) (tCons (tTup (tCons (tC (.str "X = 1")) (tCons (tC (.int 0)) tNil))) (tCons (tTup (tCons (tC (.str "x = 1 or")) (tCons (tC (.int 8)) tNil))) (tCons (tTup (tCons (tC (.str "x = 1 implies")) (tCons (tC (.int 13)) tNil))) (tCons (tTup (tCons (tC (.str "--x = 1")) (tCons (tC (.int 1)) tNil))) tNil)))))))))))))) (gName 0)) (tSeq (tAsg (tOp rCat (tVar 0) (tLst (tCons (tTup (tCons (tC (.str "x = -1")) (tCons (tC (.int 6)) tNil))) (tCons (tTup (tCons (tC (.str "x = y-")) (tCons (tC (.int 6)) tNil))) (tCons (tTup (tCons (tC (.str "x y = 1")) (tCons (tC (.int 2)) tNil))) (tCons (tTup (tCons (tC (.str "2x = 1")) (tCons (tC (.int 1)) tNil))) (tCons (tTup (tCons (tC (.str "x = 2and y = 1 ~ 2")) (tCons (tC (.int 15)) tNil))) (tCons (tTup (tCons (tC (.str "some x, : x = 1")) (tCons (tC (.int 8)) tNil))) (tCons (tTup (tCons (tC (.str "some x:, x = 1")) (tCons (tC (.int 7)) tNil))) (tCons (tTup (tCons (tC (.str "[[x = 1] and y")) (tCons (tC (.int 14)) tNil))) (tCons (tTup (tCons (tC (.str "((x) + y) = (1")) (tCons (tC (.int 14)) tNil))) (tCons (tTup (tCons (tC (.str "x = 1 iff iff")) (tCons (tC (.int 10)) tNil))) (tCons (tTup (tCons (tC (.str "all x: [x = 1] x")) (tCons (tC (.int 15)) tNil))) tNil))))))))))))) (gName 0)) (tRet (tOp rCat (tVar 0) (tLst (tCons (tTup (tCons (tC (.str "x = 1 implie y")) (tCons (tC (.int 12)) tNil))) (tCons (tTup (tCons (tC (.str "x*")) (tCons (tC (.int 2)) tNil))) (tCons (tTup (tCons (tC (.str "x^")) (tCons (tC (.int 2)) tNil))) (tCons (tTup (tCons (tC (.str "1 = 0.5")) (tCons (tC (.int 5)) tNil))) (tCons (tTup (tCons (tC (.str "x == 1")) (tCons (tC (.int 3)) tNil))) (tCons (tTup (tCons (tC (.str "x => 1")) (tCons (tC (.int 3)) tNil))) (tCons (tTup (tCons (tC (.str "x <> 1")) (tCons (tC (.int 3)) tNil))) (tCons (tTup (tCons (tC (.str "x = 1~y")) (tCons (tC (.int 5)) tNil))) (tCons (tTup (tCons (tC (.str "x =1 \n")) (tCons (tC (.int 6)) tNil))) (tCons (tTup (tCons (tC (.str "not [x = 1 and")) (tCons (tC (.int 14)) tNil))) (tCons (tTup (tCons (tC (.str "some 1: x = 1")) (tCons (tC (.int 5)) tNil))) tNil))))))))))))))))))
def t_law_one_right (g : G8) : TS := (tSeq (tAsg (tCall (sp_settle_formula g) [] E0 (tCons (tVar 0) (tCons (tVar 1) tNil))) (gName 3)) (tSeq (tAsg (tMake g.Unread (sp_Unread_init g) [] E0 (tCons (tVar 2) (tCons (tOp rEq (tVar 2) (tCB (rLenA g.K) (tCons (tVar 0) tNil))) tNil))) (gName 4)) (tRet (tAndV (tOp (rEqO g) (tVar 3) (tVar 4)) (tAndV (tNotV (tCB (rIsi g.K) (tCons (tFld g.K (tVar 3) "place") (tCons (tC (.ty "bool")) tNil)))) (tOp rIsN (tCall (sp_reading_fault g) [] E0 (tCons (tVar 0) (tCons (tVar 1) (tCons (tVar 3) tNil)))) (tC .non)))))))
def t_law (g : G8) : TS := (tSeq (tAsg (tCall (sp_law_pen g) [] E0 (tCons (tVar 0) tNil)) (gName 1)) (tSeq (tAsg (tLst (tCons (tC (.str "x")) (tCons (tC (.str "y")) (tCons (tC (.str "z1")) (tCons (tC (.str "n")) (tCons (tC (.str "alls")) (tCons (tC (.str "an")) tNil))))))) (gName 2)) (tSeq (tFor (iRng1 (tCons (tC (.int 2)) tNil)) (gName 3) (tSeq (tAsg (tSl (rSlL g.K) (tVar 2) tNoPart (tPart (tOp rAddI (tC (.int 1)) (tCall (sp_law_draw g) [] E0 (tCons (tVar 1) (tCons (tC (.int 6)) tNil)))))) (gName 4)) (tSeq (tAsg (tCall (sp_law_s_saying g) [] E0 (tCons (tVar 1) (tCons (tVar 4) (tCons (tOp rAddI (tC (.int 2)) (tCall (sp_law_draw g) [] E0 (tCons (tVar 1) (tCons (tC (.int 7)) tNil)))) (tCons (tC (.int 4)) tNil))))) (gName 5)) (tSeq (tPar 6 7 (tCons (tCall (sp_law_s_free g) [] E0 (tCons (tVar 5) tNil)) (tCons (tCall (sp_law_s_text g) [] E0 (tCons (tVar 5) (tCons (tVar 1) tNil))) tNil))) (tSeq (tIfS (tTest (tOp rGtI (tCB (rLenA g.K) (tCons (tVar 7) tNil)) (tC (.int 390)))) tCont tNext) (tFor (iRng1 (tCons (tC (.int 4)) tNil)) (gName 8) (tSeq (tAsg (tCall (sp_law_draw g) [] E0 (tCons (tVar 1) (tCons (tOp rAddI (tCB (rLenA g.K) (tCons (tVar 7) tNil)) (tC (.int 1))) tNil))) (gName 9)) (tSeq (tAsg (tCall (sp_settle_formula g) [] E0 (tCons (tSl rSlS (tVar 7) tNoPart (tPart (tVar 9))) (tCons (tVar 6) tNil))) (gName 10)) (tSeq (tIfS (tAnd (tNot (tB (tCB (rIsi g.K) (tCons (tVar 10) (tCons (tC (.ref g.Read)) tNil))))) (tTest (tOp (rNeO g) (tVar 10) (tMake g.Unread (sp_Unread_init g) [] E0 (tCons (tVar 9) (tCons (tC (.bl true)) tNil)))))) (tRet (tC (.bl false))) tNext) (tSeq (tIfS (tNot (tB (tCall (sp_law_one_right g) [] E0 (tCons (tOp rCatS (tOp rCatS (tSl rSlS (tVar 7) tNoPart (tPart (tVar 9))) (tCall (sp_law_pick g) [] E0 (tCons (tVar 1) (tCons (tLst (tCons (tC (.str "~")) (tCons (tC (.str "X")) (tCons (tC (.str ".")) (tCons (tC (.str "~")) tNil))))) tNil)))) (tSl rSlS (tVar 7) (tPart (tVar 9)) tNoPart)) (tCons (tVar 6) (tCons (tVar 9) tNil)))))) (tRet (tC (.bl false))) tNext) (tSeq (tAsg (tCall (sp_law_pick g) [] E0 (tCons (tVar 1) (tCons (tLst (tCons (tC (.str "(")) (tCons (tC (.str ")")) (tCons (tC (.str "[")) (tCons (tC (.str "]")) (tCons (tC (.str "=")) (tCons (tC (.str "<")) (tCons (tC (.str "!")) (tCons (tC (.str "+")) (tCons (tC (.str "-")) (tCons (tC (.str "*")) (tCons (tC (.str "^")) (tCons (tC (.str ",")) (tCons (tC (.str ":")) (tCons (tC (.str "a")) (tCons (tC (.str "x")) (tCons (tC (.str "0")) (tCons (tC (.str "7")) (tCons (tC (.str " ")) tNil))))))))))))))))))) tNil))) (gName 11)) (tSeq (tAsg (tOp rCatS (tOp rCatS (tSl rSlS (tVar 7) tNoPart (tPart (tVar 9))) (tVar 11)) (tSl rSlS (tVar 7) (tPart (tVar 9)) tNoPart)) (gName 12)) (tSeq (tAsg (tCall (sp_settle_formula g) [] E0 (tCons (tVar 12) (tCons (tVar 6) tNil))) (gName 10)) (tIfS (tB (tCB (rIsi g.K) (tCons (tVar 10) (tCons (tC (.ref g.Unread)) tNil)))) (tSeq (tIfS (tOr (tTest (tOp rLtI (tFld g.K (tVar 10) "place") (tVar 9))) (tTest (tOp (rNeN g.K 200) (tFld g.K (tVar 10) "is_end") (tOp rEq (tFld g.K (tVar 10) "place") (tCB (rLenA g.K) (tCons (tVar 12) tNil)))))) (tRet (tC (.bl false))) tNext) (tSeq (tIfS (tAnd (tNot (tB (tFld g.K (tVar 10) "is_end"))) (tTest (tOp (rNeO g) (tCall (sp_settle_formula g) [] E0 (tCons (tSl rSlS (tVar 12) tNoPart (tPart (tOp rAddI (tFld g.K (tVar 10) "place") (tC (.int 1))))) (tCons (tVar 6) tNil))) (tMake g.Unread (sp_Unread_init g) [] E0 (tCons (tFld g.K (tVar 10) "place") (tCons (tC (.bl false)) tNil)))))) (tRet (tC (.bl false))) tNext) (tSeq (tAsg (tCall (sp_settle_formula g) [] E0 (tCons (tSl rSlS (tVar 12) tNoPart (tPart (tFld g.K (tVar 10) "place"))) (tCons (tVar 6) tNil))) (gName 13)) (tIfS (tAnd (tNot (tB (tCB (rIsi g.K) (tCons (tVar 13) (tCons (tC (.ref g.Read)) tNil))))) (tTest (tOp (rNeO g) (tVar 13) (tMake g.Unread (sp_Unread_init g) [] E0 (tCons (tFld g.K (tVar 10) "place") (tCons (tC (.bl true)) tNil)))))) (tRet (tC (.bl false))) tNext)))) (tIfS (tTest (tOp rNotN (tCall (sp_reading_fault g) [] E0 (tCons (tVar 12) (tCons (tVar 6) (tCons (tVar 10) tNil)))) (tC .non))) (tRet (tC (.bl false))) tNext))))))))))))))) (tSeq (tFor (iRng1 (tCons (tC (.int 6)) tNil)) (gName 3) (tSeq (tAsg (tCall (sp_law_pick g) [] E0 (tCons (tVar 1) (tCons (tCall (sp_law_known g) [] E0 tNil) tNil))) (gTup g.K 2 (gCons (gName 7) (gCons (gName 14) gNil)))) (tSeq (tAsg (tCall (sp_settle_formula g) [] E0 (tCons (tVar 7) (tCons (tLst (tCons (tC (.str "x")) (tCons (tC (.str "y")) tNil))) tNil))) (gName 10)) (tIfS (tB (tCB (rIsi g.K) (tCons (tVar 10) (tCons (tC (.ref g.Read)) tNil)))) (tIfS (tTest (tOp (rIn g.K true) (tVar 7) (tLst (tCons (tC (.str "x = -1")) (tCons (tC (.str "x =1 \n")) tNil))))) (tRet (tC (.bl false))) tNext) (tIfS (tNot (tB (tCall (sp_law_one_right g) [] E0 (tCons (tVar 7) (tCons (tTup (tCons (tC (.str "x")) (tCons (tC (.str "y")) tNil))) (tCons (tVar 14) tNil)))))) (tRet (tC (.bl false))) tNext))))) (tSeq (tAsg (tCall (sp_law_pick g) [] E0 (tCons (tVar 1) (tCons (tLst (tCons (tTup (tCons (tC (.str "x = 1")) (tCons (tC (.int 0)) tNil))) (tCons (tTup (tCons (tC (.str "all x: x = y")) (tCons (tC (.int 11)) tNil))) (tCons (tTup (tCons (tC (.str "some x: x = xy")) (tCons (tC (.int 13)) tNil))) (tCons (tTup (tCons (tC (.str "all ab: a = 1")) (tCons (tC (.int 9)) tNil))) tNil))))) tNil))) (gTup g.K 2 (gCons (gName 7) (gCons (gName 14) gNil)))) (tSeq (tIfS (tTest (tOp (rNeO g) (tCall (sp_settle_text g) [] E0 (tCons (tVar 7) tNil)) (tMake g.Unread (sp_Unread_init g) [] E0 (tCons (tVar 14) (tCons (tOp rEq (tVar 14) (tCB (rLenA g.K) (tCons (tVar 7) tNil))) tNil))))) (tRet (tC (.bl false))) tNext) (tSeq (tFor (iList g.K (tLst (tCons (tTup (tCons (tMake g.Unread (sp_Unread_init g) [] E0 (tCons (tVar 14) (tCons (tC (.bl true)) tNil))) (tCons (tIf (tTest (tOp rEq (tVar 14) (tCB (rLenA g.K) (tCons (tVar 7) tNil)))) (tC .non) (tTup (tCons (tC (.str "end")) tNil))) tNil))) (tCons (tTup (tCons (tMake g.Unread (sp_Unread_init g) [] E0 (tCons (tOp rAddI (tVar 14) (tC (.int 1))) (tCons (tC (.bl false)) tNil))) (tCons (tTup (tCons (tC (.str "place")) tNil)) tNil))) (tCons (tTup (tCons (tMake g.Unread (sp_Unread_init g) [] E0 (tCons (tC .non) (tCons (tC .non) tNil))) (tCons (tTup (tCons (tC (.str "place")) tNil)) tNil))) (tCons (tTup (tCons (tMake g.Unread (sp_Unread_init g) [] E0 (tCons (tVar 14) (tCons (tC .non) tNil))) (tCons (tTup (tCons (tC (.str "end")) tNil)) tNil))) (tCons (tTup (tCons (tMake g.Read (sp_Read_init g) [] E0 (tCons (tC .non) tNil)) (tCons (tTup (tCons (tC (.str "unread")) tNil)) tNil))) (tCons (tTup (tCons (tC (.int 5)) (tCons (tTup (tCons (tC (.str "answer")) tNil)) tNil))) tNil)))))))) (gTup g.K 2 (gCons (gName 15) (gCons (gName 16) gNil))) (tIfS (tTest (tOp (rNeN g.K 200) (tCall (sp_reading_fault g) [] E0 (tCons (tVar 7) (tCons (tTup tNil) (tCons (tVar 15) tNil)))) (tVar 16))) (tRet (tC (.bl false))) tNext)) (tRet (tAndV (tOp (rEqO g) (tCall (sp_settle_text g) [] E0 (tCons (tOp rRepS (tC (.str "((((((((((")) (tC (.int 40))) tNil)) (tMake g.Unread (sp_Unread_init g) [] E0 (tCons (tC (.int 400)) (tCons (tC (.bl true)) tNil)))) (tOp (rEqO g) (tCall (sp_settle_text g) [] E0 (tCons (tOp rRepS (tC (.str "not [")) (tC (.int 60))) tNil)) (tMake g.Unread (sp_Unread_init g) [] E0 (tCons (tC (.int 300)) (tCons (tC (.bl true)) tNil)))))))))))))
end Dy
namespace Dy
open PySem L2 Evl Mi
/-! ### != of own objects by the default __ne__ over an own __eq__ -/
section
variable {prog : Program} {w : World} {A : Around} {E : Value → Shared → Prop} {s : Shared} {K : PySem.W.Frag} {x C f : Addr} {ox : Obj} {od : Option Obj} {b : Value}
theorem ne_find (X : K.In s.heap) (I : PySem.W.InstAt s.heap x ox C od) (hn : PySem.W.findIn K (.ref C) "__ne__" = some (some (.builtin "object.__ne__"))) {M : Model} {args : List Value} {Q : Option Value → Shared → Prop}
    (h : wpAny M A (call (.builtin "object.__ne__") (.ref x :: args)) (fun v => Q (some v)) E s) : wpAny M A (callSpecialIfBound? (.ref x) "__ne__" args) Q E s := by
  have after : wpAny M A (call (.builtin "object.__ne__") ([.ref x] ++ args) >>= fun v => pure (some v)) Q E s := wpAny_bind (wpAny_mono h (fun _ _ q => wpAny_pure q) fun _ _ q => q)
  simp only [callSpecialIfBound?, bindSpecialIfBound?]
  refine wpAny_holding (wpAny_bind (wpAny_bind (wpAny_bind (I.type.here ((PySem.W.looks_findIn X hn).here ?_)))))
  simp only [PySem.F.cmp_object.ne.bind]
  refine wpAny_bind (wpAny_askSetting (wpAny_ite ?_))
  split
  · exact wpAny_bind (wpAny_pure (wpAny_pure after))
  · exact wpAny_tryCatch (wpAny_bind (wpAny_pure (wpAny_pure after)))
theorem ne_check (X : K.In s.heap) (I : PySem.W.InstAt s.heap x ox C od) (hm : PySem.W.mroIn K C (.type "object") = some true) {M : Model} {Q : Unit → Shared → Prop} (h : Q () s) :
    wpAny M A (checkBuiltinCall "object.__ne__" ⟨[.ref x, b], []⟩) Q E s := by
  have ar := PySem.F.cmpArgs_ne (.ref x) b
  simp only [checkBuiltinCall, PySem.F.cmpKind_ne, PySem.F.cmpSplit_ne]
  refine wpAny_bind (wpAny_bind (I.type.here ((PySem.W.looks_mroIn X hm).here ?_)))
  simp only [Bool.not_true, Bool.false_eq_true, if_false]
  cases hs : Manifest.signature? "object.__ne__" with
  | none => exact wpAny_pure h
  | some sg =>
    simp only [argsOk, hs] at ar
    show wpAny M A (Bind.checkArgs "object.__ne__" sg ⟨[.ref x, b], []⟩) Q E s
    rw [show Bind.checkArgs "object.__ne__" sg ⟨[.ref x, b], []⟩ = pure () from ar]
    exact wpAny_pure h
theorem ne_body (X : K.In s.heap) (I : PySem.W.InstAt s.heap x ox C od) (he : PySem.W.findIn K (.ref C) "__eq__" = some (some (.ref f))) (hf : PySem.W.isFn K (.ref f) = true) (hu : A.units < cLine) {Q : PySem.Fin → Shared → Prop}
    (h : wpAny (model prog w) A (call (.ref f) [.ref x, b]) (fun v s' => v = .bool true ∧ Q (.done (.ret (.bool false))) s') E s) : wpAny (model prog w) A (Builtin.«object.__ne__» ⟨[.ref x, b], []⟩) Q E s := by
  unfold Builtin.«object.__ne__»
  refine wpAny_bind (m := slotArgs _ _ _) (wpAny_pure (wpAny_bind (wpAny_cRoomFor hu ?_)))
  refine wpAny_bind (PySem.W.ifBound_K X I he hf (wpAny_mono h (fun v s' q => ?_) fun _ _ q => q))
  obtain ⟨rfl, q⟩ := q
  exact wpAny_bind (wpAny_truthy_bool (wpAny_pure q))
theorem ne_call (X : K.In s.heap) (I : PySem.W.InstAt s.heap x ox C od) (hm : PySem.W.mroIn K C (.type "object") = some true) (he : PySem.W.findIn K (.ref C) "__eq__" = some (some (.ref f))) (hf : PySem.W.isFn K (.ref f) = true)
    (hu : A.units + 1 < cLine) {Q : Value → Shared → Prop} (h : wpAny (model prog w) A.in1 (call (.ref f) [.ref x, b]) (fun v s' => v = .bool true ∧ Q (.bool false) s') E s) : wpAny (model prog w) A (call (.builtin "object.__ne__") [.ref x, b]) Q E s :=
  wpAny_call (codeAny_call_builtin PySem.F.cmp_object.ne.plain PySem.F.cmpEntry_ne (ne_check X I hm (ne_body X I he hf (by first | exact Nat.lt_of_succ_lt hu | (show A.in1.units < cLine; simp [Around.in1]; omega)) (wpAny_mono h (fun v s' q => ⟨q.1, by
    obtain ⟨_, q⟩ := q
    exact q⟩) fun _ _ q => q))))
/-- they are equal: so != is False -/
theorem ne_rich (X : K.In s.heap) (I : PySem.W.InstAt s.heap x ox C od) (hb : PySem.W.Looks (model prog w) s.heap (typeOf b) (.ref C)) (hn : PySem.W.findIn K (.ref C) "__ne__" = some (some (.builtin "object.__ne__"))) (hm : PySem.W.mroIn K C (.type "object") = some true)
    (he : PySem.W.findIn K (.ref C) "__eq__" = some (some (.ref f))) (hf : PySem.W.isFn K (.ref f) = true) (hu : A.units + 1 < cLine) {Q : Value → Shared → Prop}
    (h : wpAny (model prog w) A.in1 (call (.ref f) [.ref x, b]) (fun v s' => v = .bool true ∧ Q (.bool false) s') E s) : wpAny (model prog w) A (richCompare .NotEq (.ref x) b) Q E s := by
  unfold richCompare
  simp only [oneThing_ref]
  refine wpAny_holding (wpAny_bind (wpAny_cRoomFor (Nat.lt_of_succ_lt hu) (wpAny_bind (I.type.here (wpAny_bind (hb.here ?_))))))
  rw [if_neg (by simp)]
  refine wpAny_bind (wpAny_pure ?_)
  simp only [Bool.false_eq_true, if_false]
  unfold tryCompare
  refine wpAny_bind (wpAny_bind (ne_find X I hn (ne_call X I hm he hf hu (wpAny_mono h (fun v s' q => ⟨q.1, wpAny_pure (wpAny_pure q.2)⟩) fun _ _ q => q))))
end
/-- != of own objects that are equal -/
def rNeG (D : Eqv) : R2 := fun x y H Q => D x y H ∧ ∀ H', Ext H H' → Q (.bl false) H'
theorem op_neG {X : Cx} {n : Nat} {CX : CXT} {C f : Addr} {fd : FuncData} {ps : List Str} {R : Addr → Addr → Hp → Prop} {E : XK} (hn : PySem.W.findIn X.K (.ref C) "__ne__" = some (some (.builtin "object.__ne__")))
    (hm : PySem.W.mroIn X.K C (.type "object") = some true) (F : FnOk X.prog X.w X.K X.mg X.base CX n f fd ps (spEq R)) (he : Meth X.K C "__eq__" f) (hb : Binds X.K fd ps []) (hx : Passes CX X E) (hr : Room (n + 1) X.A) :
    OpR X (compareOp .NotEq) (rNeG (DIns C R)) := by
  intro pins s σ H x y v u Q I rx ry hq
  obtain ⟨⟨a, b, dx, dy, fs, gs, rfl, rfl, ha, hb', hR⟩, q⟩ := hq
  cases rx
  cases ry
  obtain ⟨_, J, _⟩ := ins_get I.hok ha
  obtain ⟨_, J', _⟩ := ins_get I.hok hb'
  obtain ⟨_, J, _⟩ := J.look
  obtain ⟨_, J', _⟩ := J'.look
  have said : spEq R [.ref a, .ref b] H (fun v H' => v = .bl true ∧ Ext H H') E := ⟨a, b, rfl, hR, fun H' e => ⟨rfl, e⟩⟩
  have many := F.len _ _ _ _ said
  have two : Vals [V.ref a, V.ref b] [Value.ref a, Value.ref b] := .cons rfl (.cons rfl .nil)
  have around : Env0 X.prog X.w X.K X.mg X.base X.A.in1 X.stack s H := by
    have e := I.env0
    exact ⟨e.frames, e.mod, e.bs, e.bsz, e.funs, e.frf, e.hok, e.bare⟩
  refine ne_rich I.kIn J J'.type hn hm he.at_ he.fn (by have := hr.un; omega) ?_
  refine wpAny_call (codeAny_mono (F.run X.A.in1 X.stack s H ⟨[.ref a, .ref b], []⟩ [.ref a, .ref b] [.ref a, .ref b] _ E hr.in1 around (by
    have e := hb s [.ref a, .ref b] I.kIn (by simpa using many)
    simpa using e) two said) fun r s' hq => ?_)
  cases r with
  | error e => exact hx pins σ H s e s' I hq
  | ok fl =>
    cases fl with
    | ret z =>
      obtain ⟨z', H', I', rz, ez, ex⟩ := I.after hq
      subst ez
      cases rz
      exact ⟨rfl, .bl false, H', I', rfl, q H' ex⟩
    | next => exact False.elim hq
    | brk => exact False.elim hq
    | cont => exact False.elim hq
end Dy
namespace Dy
open PySem L2 Evl Mi
/-! ### set(xs) of unlike texts -/
section
open PySem.Spec PyProof.Rows
variable {prog : Program} {w : World} {A : Around} {R : Result → Shared → Prop} {I : Addr} {fp wr : List Addr} {G : Array GenState → Array GenState → Prop} {n : Nat} {P : Nat → Value → Prop} {St : Nat → Shared → Prop}
/-- what the set has got of the first i texts -/
def gotT (ys : List Str) (i : Nat) : Str → Bool := fun z => decide (z ∈ ys.take i)
theorem gotT_next {ys : List Str} (hd : ys.Nodup) {i : Nat} (hi : i < ys.length) : gotT ys i (ys.getD i Str.empty) = false ∧ ∀ z, (gotT ys i z || decide (z = ys.getD i Str.empty)) = gotT ys (i + 1) z := by
  have e : ys.getD i Str.empty = ys[i] := by rw [List.getD_eq_getElem?_getD, List.getElem?_eq_getElem hi] <;> rfl
  rw [e]
  constructor
  · unfold gotT
    rw [decide_eq_false_iff_not]
    intro m
    obtain ⟨j, hj, q⟩ := List.mem_iff_getElem.mp m
    rw [List.length_take] at hj
    rw [List.getElem_take] at q
    exact List.pairwise_iff_getElem.mp hd j i (by omega) hi (by omega) q
  · intro z
    unfold gotT
    rw [List.take_add_one, List.getElem?_eq_getElem hi]
    simp only [Option.toList_some, List.mem_append, List.mem_singleton, Bool.decide_or]
theorem set_loopT (W : WalksS prog w A.in1 I fp wr G n P St) (S : Addr) (out : S ∉ fp) (ys : List Str) (hd : ys.Nodup) (hl : ys.length = n) (few : n < 1000) (val : ∀ i v, P i v → ∃ t, v = .str (ys.getD i Str.empty) t) :
    ∀ (left i : Nat) (s : Shared), left + i = n → St i s → s.heap.SetOf (PySem.strKind prog w) S (gotT ys i) i →
      (∀ s', Moved (S :: wr) G s s' → s'.heap.SetOf (PySem.strKind prog w) S (gotT ys n) n → R (.ok (.ret .none)) s') → codeAny (model prog w) A (.builtin "set.update.loop" ⟨[.ref S, .ref I], []⟩) R s := by
  have outW : S ∉ wr := fun m => out (W.sub _ m)
  have wider : ∀ b ∈ wr, b ∈ S :: wr := fun _ m => List.mem_cons_of_mem _ m
  have still : ∀ {s s' : Shared} {T : Str → Bool} {i : Nat}, Moved wr G s s' → s.heap.SetOf (PySem.strKind prog w) S T i → s'.heap.SetOf (PySem.strKind prog w) S T i := fun mv q => by
    obtain ⟨o, es, ep, t, ho, r⟩ := q
    exact ⟨o, es, ep, t, mv.heap S _ outW ho, r⟩
  intro left
  induction left with
  | zero =>
    intro i s he st q fin
    obtain rfl : i = n := by omega
    refine codeAny_builtin F.entry_set_update_loop ?_
    rw [Around.under_plainId F.plain_set_update_loop _]
    exact wpAny_bind (m := pyNext (.ref I)) (W.done s _ _ st fun s' mv => wpAny_pure (fin s' (mv.mono wider) (still mv q)))
  | succ left ih =>
    intro i s he st q fin
    have lt : i < n := by omega
    obtain ⟨new, more⟩ := gotT_next hd (show i < ys.length by omega)
    refine codeAny_builtin F.entry_set_update_loop ?_
    rw [Around.under_plainId F.plain_set_update_loop _]
    refine wpAny_bind (m := pyNext (.ref I)) (W.item i s _ _ lt st fun v s' hP st' mv => ?_)
    obtain ⟨t, rfl⟩ := val i v hP
    refine wpAny_bind (m := holding [Value.str (ys.getD i Str.empty) t] (setAdd S (.str (ys.getD i Str.empty) t))) (wpAny_holding ?_)
    unfold setAdd
    refine wpAny_holding (wpAny_bind ((PySem.strKind prog w).pyHash (k := ys.getD i Str.empty) (strKind_is _ _ _ _) ?_))
    have q1 := still mv q
    refine wpAny_setAddHashed_of (knd := PySem.strKind prog w) (s := { s' with toks := s'.toks + 1 }) (strKind_is _ _ _ _) rfl q1 (by unfold scanBound; omega) fun h' sb q2 => ?_
    rw [new] at q2
    have q3 : h'.SetOf (PySem.strKind prog w) S (gotT ys (i + 1)) (i + 1) := SetOf_congr q2 more rfl
    have else' : ∀ b, b ≠ S → h'.get? b = s'.heap.get? b := fun b nb => sb.2 b nb
    refine wpAny_pure ⟨plainId_quiet F.plain_set_update_loop _, ih (i + 1) _ (by omega) (W.frame _ s' _ _ st' (Nat.le_succ _) fun b m o e => ?_) q3 fun s2 mv2 q4 => fin s2 (Moved.trans W.gtrans ((mv.mono wider).then_heap (Nat.le_succ _) fun b o m e => ?_) mv2) q4⟩
    · exact (else' b fun z => out (z ▸ m)).trans e
    · exact (else' b fun z => m (z ▸ List.mem_cons_self)).trans e
end
section
open PySem.Spec PyProof.Rows
variable {prog : Program} {w : World} {A : Around} {E : Value → Shared → Prop} {s : Shared}
/-- a new set as set(..) makes it -/
abbrev emptyS (led : Bool) : Obj := { cls := .type "set", dict := none, data := .set #[] 0 (.fresh 0 0 led) }
abbrev withS (s : Shared) (led : Bool) : Shared := { s with heap := s.heap.push (emptyS led) }
abbrev SetT (prog : Program) (w : World) (s : Shared) (ys : List Str) (h' : Heap) : Prop := h'.SetOf (PySem.strKind prog w) s.heap.objs.size (gotT ys ys.length) ys.length ∧ ∀ b o, b < s.heap.objs.size → s.heap.get? b = some o → h'.get? b = some o
theorem not_two {a b c : Addr} (h1 : a ≠ b) (h2 : a ≠ c) : a ∉ [b, c] := by simp [h1, h2]
/-- the three ends of a body -/
abbrev Done (prog : Program) (w : World) (A : Around) (R : Result → Shared → Prop) : PySem.Fin → Shared → Prop := fun f s' => match f with
  | .done r => R (.ok r) s'
  | .again c => c.quiet = true ∧ codeAny (model prog w) A c R s'
theorem set_iter {l I : Addr} {ys : List Str} {P : Nat → Value → Prop} {St : Nat → Shared → Prop} {led : Bool} {x : Obj} {Q : Result → Shared → Prop} (hI : I = s.heap.objs.size + 1) (hlt : l < s.heap.objs.size)
    (W : WalksS prog w A.in1 I [I, l] [I] (fun a b => b = a) ys.length P St) (start : St 0 { withS s led with heap := (withS s led).heap.push x }) (val : ∀ i v, P i v → ∃ t, v = .str (ys.getD i Str.empty) t) (hd : ys.Nodup) (few : ys.length < 1000)
    (fin : ∀ h' tk, SetT prog w s ys h' → Q (.ok (.ret .none)) { s with heap := h', toks := tk }) :
    codeAny (model prog w) A (.builtin "set.update.loop" ⟨[.ref s.heap.objs.size, .ref I], []⟩) Q { withS s led with heap := (withS s led).heap.push x } := by
  subst hI
  have at' : (withS s led).heap.get? s.heap.objs.size = some (emptyS led) := Heap.get?_push_size _ rfl
  refine set_loopT W s.heap.objs.size (not_two (Nat.ne_of_lt (Nat.lt_succ_self _)) (Nat.ne_of_gt hlt)) ys hd rfl few val ys.length 0 _ rfl start ?_ fun t mv q => ?_
  · exact SetOf_congr ((setObjOf_fresh (knd := PySem.strKind prog w) led).setOf (Heap.get?_push_of_some _ at') (by unfold scanBound; omega)) (fun z => by simp [gotT]) rfl
  · obtain ⟨h', g', d', tk', os'⟩ := t
    obtain rfl : g' = s.gens := mv.gens
    obtain rfl : d' = s.drawn := mv.drawn
    obtain rfl : os' = s.os := mv.os
    exact fin h' tk' ⟨q, fun b o hb e => mv.heap b o (not_two (Nat.ne_of_lt hb) (Nat.ne_of_lt (Nat.lt_succ_of_lt hb))) (Heap.get?_push_of_some _ (Heap.get?_push_of_some _ e))⟩
set_option maxHeartbeats 4000017 in
theorem set_body {l : Addr} {its : Array Value} {ys : List Str} (hh : A.handled = none) (src : s.heap.IsList l its ∨ s.heap.IsTuple l its) (each : StrsAre its.toList ys) (hd : ys.Nodup) (few : ys.length < 1000) (led : Bool) :
    wpAny (model prog w) A.in1.in1 (Builtin.«set.__init__» ⟨[.ref s.heap.objs.size, .ref l], []⟩)
      (Done prog w A.in1 (wants (fun v t => v = .none ∧ ∃ h' tk, t = { s with heap := h', toks := tk } ∧ SetT prog w s ys h') E))
      (fun e t => wants (fun v t => v = .none ∧ ∃ h' tk, t = { s with heap := h', toks := tk } ∧ SetT prog w s ys h') E (.error e) t) (withS s led) := by
  have ne : (Value.type "list" == Value.type "dict") = false := by decide
  have ne2 : (Value.type "tuple" == Value.type "dict") = false := by decide
  have lenE : its.size = ys.length := by rw [← StrsAre.len_eq each, Array.length_toList]
  have val : ∀ (i : Nat) (v : Value), its[i]? = some v → ∃ t, v = .str (ys.getD i Str.empty) t := fun i v q => SS.strs_at each i v (by rw [Array.getElem?_toList]; exact q)
  have h3 : A.in1.in1.in1.handled = none := by simp [hh]
  have sz : (withS s led).heap.objs.size = s.heap.objs.size + 1 := Heap.size_push ..
  rcases src with src | src
  · obtain ⟨⟨oc, od, dat, osl⟩, o1, o2, on, o3⟩ := src
    simp only at o2 o3
    subst o2 o3
    have lt := Heap.lt_size o1
    have o4 : (withS s led).heap.get? l = some ⟨.type "list", od, .seq its on, osl⟩ := Heap.get?_push_of_some _ o1
    have il : (withS s led).heap.IsList l its := ⟨_, o4, rfl, on, rfl⟩
    have f1 := F.sub_list_set
    have f2 := F.sub_list_frozenset
    unfold Builtin.«set.__init__» noKeywords Builtin.Frozenset.updateFrom
    generalize hi : pyIter = pit
    wp_walk
    subst hi
    refine wpAny_pyIter_list il (wpAny_bind (wpAny_runValue ?_))
    rw [sz]
    have W := (Walks.list (prog := prog) (w := w) h3 (s.heap.objs.size + 1) l (Nat.ne_of_lt (Nat.lt_succ_of_lt lt)) its).toS
    rw [lenE] at W
    refine set_iter rfl lt W ⟨⟨_, by rw [← sz]; exact Heap.get?_push_size _ rfl, rfl, rfl⟩, il.push _⟩ val hd few fun h' tk q => ?_
    exact wpAny_pure (wpAny_pure ⟨rfl, h', tk, rfl, q⟩)
  · obtain ⟨⟨oc, od, dat, osl⟩, o1, o2, on, o3⟩ := src
    simp only at o2 o3
    subst o2 o3
    have lt := Heap.lt_size o1
    have o4 : (withS s led).heap.get? l = some ⟨.type "tuple", od, .seq its on, osl⟩ := Heap.get?_push_of_some _ o1
    have il : (withS s led).heap.IsTuple l its := ⟨_, o4, rfl, on, rfl⟩
    have f1 := F.sub_tuple_set
    have f2 := F.sub_tuple_frozenset
    unfold Builtin.«set.__init__» noKeywords Builtin.Frozenset.updateFrom
    generalize hi : pyIter = pit
    wp_walk
    subst hi
    refine wpAny_pyIter_tuple il (wpAny_bind (wpAny_runValue ?_))
    rw [sz]
    have W := (Walks.tuple (prog := prog) (w := w) h3 (s.heap.objs.size + 1) l (Nat.ne_of_lt (Nat.lt_succ_of_lt lt)) its).toS
    rw [lenE] at W
    refine set_iter rfl lt W ⟨⟨_, by rw [← sz]; exact Heap.get?_push_size _ rfl, rfl, rfl⟩, il.push _⟩ val hd few fun h' tk q => ?_
    exact wpAny_pure (wpAny_pure ⟨rfl, h', tk, rfl, q⟩)
theorem set_via {l : Addr} {its : Array Value} {ys : List Str} {Q : Value → Shared → Prop} (hh : A.handled = none) (src : s.heap.IsList l its ∨ s.heap.IsTuple l its) (each : StrsAre its.toList ys) (hd : ys.Nodup) (few : ys.length < 1000)
    (h : ∀ h' tk, SetT prog w s ys h' → Q (.ref s.heap.objs.size) { s with heap := h', toks := tk }) : wpAny (model prog w) A (call (.type "set") [.ref l]) Q E s := by
  obtain ⟨ca, ta, q0⟩ := F.called_set.mro
  have q1 := F.called_set.made
  have q2 := F.called_set.sub
  have q3 := F.called_set.notType
  have q4 := F.called_set.canCreate
  have q5 := F.typeCall_set_1 (.ref l)
  refine wpAny_call (codeAny_of_tree (wpAny_pure (⟨Code.quiet_builtin _ (by decide +kernel), codeAny_builtin F.entry_type_call ?_⟩)))
  rw [Around.under_plain (weight_type_call_type "set" [.ref l] []) rfl]
  repeat any_goals (first | assumption | wp_step)
  refine codeAny_mono (code_set_new_1 (.ref l) (E := E) (Q₁ := fun v t => ∃ led : Bool, v = .ref s.heap.objs.size ∧ t = withS s led) fun led => ⟨led, rfl, rfl⟩) fun r t hr => ?_
  cases r with
  | error e => exact hr
  | ok fl =>
    cases fl with
    | ret v =>
      obtain ⟨led, rfl, rfl⟩ := hr
      have at' : (withS s led).heap.get? s.heap.objs.size = some (emptyS led) := Heap.get?_push_size _ rfl
      have ty : (withS s led).TypeIs (.ref s.heap.objs.size) "set" := ⟨_, at', rfl⟩
      have q6 := F.called_set.init.lookup
      have q7 := F.called_set.init.bind (.ref s.heap.objs.size)
      repeat any_goals (first | assumption | wp_step)
      refine codeAny_mono (codeAny_call_builtin (R := wants (fun v t => v = .none ∧ ∃ h' tk, t = { s with heap := h', toks := tk } ∧ SetT prog w s ys h') E) F.called_set.init.plain F.entry_set_init (check_set_init_1 ty ?_)) fun r t hr => ?_
      · exact set_body hh src each hd few led
      · cases r with
        | error e => exact hr
        | ok fl =>
          cases fl with
          | ret v =>
            obtain ⟨rfl, h', tk, rfl, hS⟩ := hr
            repeat any_goals (first | assumption | wp_step)
            exact h _ _ hS
          | _ => exact hr.elim
    | _ => exact hr.elim
end
end Dy
namespace Dy
open PySem L2 Evl Mi
open PySem.Spec PyProof.Rows in
theorem pe_lenSetS {X : Cx} {a : Expr} {ta : TE} {p p2 q pos : Pos} (hc : X.calm = true) (hg : Gl X "len") (hm : X.mg "len" = none) (hg2 : Gl X "set") (hm2 : X.mg "set" = none) (ha : PE X a ta)
    (na : starEach [a] X.env = (false, eval a X.env) :: starEach [] X.env := by rfl) : PE X (.Call (.Name "len" p) [.Call (.Name "set" p2) [a] [] q] [] pos) (tLenSetS X.K ta) := by
  constructor
  intro pins s σ H Q I h
  refine Call_ (ld_blt I hg hm boot_len (callWith_builtin1 (args_cons (Call_ (ld_blt I hg2 hm2 boot_set ?_)) rfl) rfl rfl))
  refine callWith_type1 (args_cons (thn (ha.run pins s σ H _ I h) fun v t ⟨x, H1, I1, rx, l, ys, ex, at', nd, few, fin⟩ => args_nil ?_) na) na rfl
  subst ex
  cases rx
  have made : ∀ (its : List Value), Vals (ys.map V.str) its → (t.heap.IsList l its.toArray ∨ t.heap.IsTuple l its.toArray) → wpAny (model X.prog X.w) X.A (call (.type "set") [.ref l]) (fun u t2 =>
      wpAny (model X.prog X.w) X.A (spliced (backTo pos (starEach [] X.env))) (fun vs t3 => wpAny (model X.prog X.w) X.A (call (.builtin "len") (u :: vs)) (EP X pins σ Q) X.xe t3) X.xe t2) X.xe t := fun its r src => by
    refine set_via (I1.ok.hd hc) src (by simpa using strsAre_of r) nd (by omega) fun h' tk ⟨q1, q2⟩ => args_nil ?_
    obtain ⟨o, es, ep, tb, ho, hex, hd, _, _, _, hf, hn⟩ := q1
    have I2 : Inv X pins σ H1 { t with heap := h', toks := tk } := I1.kept fun b o e => q2 b o (Heap.lt_size e) e
    exact call_len_set ho hex hd hf (by rw [hn] <;> omega) ⟨.int ys.length, H1, I2.tok _, ⟨_, by rw [hn]⟩, fin⟩
  rcases at' with hq | hq
  · obtain ⟨its, r, pl, _⟩ := I1.list hq
    exact made its r (.inl pl.isList)
  · obtain ⟨its, r, pl, _⟩ := I1.tuple hq
    exact made its r (.inr pl)
theorem op_neO {X : Cx} {g : G8} {k : Nat} {f : Addr} {fd : FuncData} {ps : List Str} (hn : PySem.W.findIn X.K (.ref g.Unread) "__ne__" = some (some (.builtin "object.__ne__"))) (ho : PySem.W.mroIn X.K g.Unread (.type "object") = some true)
    (F : FnOk X.prog X.w X.K X.mg X.base CX0 k f fd ps (sp_Unread_eq g)) (hm : Meth X.K g.Unread "__eq__" f) (hb : Binds X.K fd ps []) (hr : Room (k + 1) X.A) : OpR X (compareOp .NotEq) (rNeO g) :=
  op_neG hn ho F hm hb pass0 hr
end Dy
section
set_option maxHeartbeats 4000019
namespace Dy
open PySem L2 Evl Mi
theorem ok_is_integer {P : Program} {w : World} {g : G8} {mg : Str → Option Value} {base : Heap} (T : Tx g mg) (D : DefF g mg "is_integer" s_is_integer ["value"])  (len : ∀ vs H Q E, sp_is_integer g vs H Q E → vs.length = 1) (pure : ∀ vs H Q E, sp_is_integer g vs H Q E → t_is_integer g { nx := fun _ H' => Q .non H', rt := Q } (start N_is_integer vs) H) : Okf P w g mg base 1 "is_integer" ["value"] (sp_is_integer g) := by
  obtain ⟨f, fd, F, m, b⟩ := D
  refine ⟨f, fd, ?_, m, F.kp, b⟩
  refine F.ok (k := 0) sc_is_integer len (fun cdv A outer s H vs Q E hr h => ?_)
  have hu := hu_of hr
  exact ⟨t_is_integer g, (pss_one (ps_ret (pe_and (pe_callB call_isi (by rfl) T.b_isinstance (by decide +kernel) (pa_cons (pv 0) (pa_cons (pe_bltn (by rfl) T.b_int (by decide +kernel) rfl) pa_nil))) (pe_one (pe_not (pe_callB call_isi (by rfl) T.b_isinstance (by decide +kernel) (pa_cons (pv 0) (pa_cons (pe_bltn (by rfl) T.b_bool (by decide +kernel) rfl) pa_nil)))))))), pure vs H Q E h⟩
theorem ok_is_row {P : Program} {w : World} {g : G8} {mg : Str → Option Value} {base : Heap} (T : Tx g mg) (D : DefF g mg "is_row" s_is_row ["value"])  (len : ∀ vs H Q E, sp_is_row g vs H Q E → vs.length = 1) (pure : ∀ vs H Q E, sp_is_row g vs H Q E → t_is_row g { nx := fun _ H' => Q .non H', rt := Q } (start N_is_row vs) H) : Okf P w g mg base 1 "is_row" ["value"] (sp_is_row g) := by
  obtain ⟨f, fd, F, m, b⟩ := D
  refine ⟨f, fd, ?_, m, F.kp, b⟩
  refine F.ok (k := 0) sc_is_row len (fun cdv A outer s H vs Q E hr h => ?_)
  have hu := hu_of hr
  exact ⟨t_is_row g, (pss_one (ps_ret (pe_callB call_isiT (by rfl) T.b_isinstance (by decide +kernel) (pa_cons (pv 0) (pa_cons (pe_tup (pa_cons (pe_bltn (by rfl) T.b_list (by decide +kernel) rfl) (pa_cons (pe_bltn (by rfl) T.b_tuple (by decide +kernel) rfl) pa_nil))) pa_nil))))), pure vs H Q E h⟩
theorem ok_is_name {P : Program} {w : World} {g : G8} {mg : Str → Option Value} {base : Heap} (T : Tx g mg) (D : DefF g mg "is_name" s_is_name ["value"])  (len : ∀ vs H Q E, sp_is_name g vs H Q E → vs.length = 1) (pure : ∀ vs H Q E, sp_is_name g vs H Q E → t_is_name g { nx := fun _ H' => Q .non H', rt := Q } (start N_is_name vs) H) : Okf P w g mg base 1 "is_name" ["value"] (sp_is_name g) := by
  obtain ⟨f, fd, F, m, b⟩ := D
  refine ⟨f, fd, ?_, m, F.kp, b⟩
  refine F.ok (k := 0) sc_is_name len (fun cdv A outer s H vs Q E hr h => ?_)
  have hu := hu_of hr
  exact ⟨t_is_name g, (pss_cons (ps_if (PW.pt (pw_or (pt_not (pt_val (pe_callB call_isi (by rfl) T.b_isinstance (by decide +kernel) (pa_cons (pv 0) (pa_cons (pe_bltn (by rfl) T.b_str (by decide +kernel) rfl) pa_nil))))) (pw_or (pt_not (pt_chain op_le op_le pe_int (pe_callB call_lenA (by rfl) T.b_len PySem.boot_len (pa_cons (pv 0) pa_nil)) pe_int)) (pw_or1 (pt_cmpR op_in_seq (pv 0) (pe_glob rfl T.m_WORDS rfl) (by rfl)))))) (pss_one (ps_ret pe_bl)) pss_nil) (pss_one (ps_ret (pe_and (pe_cmpR op_inS (pe_ix ix_seq (pv 0) pe_int (fun _ _ => rfl)) (pe_glob rfl T.m_LETTERS ⟨_, rfl⟩) (by rfl)) (pe_one (pe_callB (cr_all rfl) (by rfl) T.b_all (by decide +kernel) (pa_cons (pe_lc (own := [("sign", 1)]) (g := gName 1) (tt := tYes) rfl sc_is_name.nd (pi_str (pv 0)) (blkOk_by (N := N_is_name) (sc := defScope s_is_name) (by decide +kernel)) (fun _ _ _ _ _ => pg_name (i := 1) sc_is_name.nd rfl (Or.inl rfl)) (fun _ _ _ _ _ => pts_nil) (fun _ _ _ _ _ => (pe_or (pe_cmpR op_inS (pv 1) (pe_glob rfl T.m_LETTERS ⟨_, rfl⟩) (by rfl)) (pe_one (pe_cmpR op_inS (pv 1) (pe_glob rfl T.m_FIGURES ⟨_, rfl⟩) (by rfl)))))) pa_nil))))))), pure vs H Q E h⟩
theorem ok_is_head {P : Program} {w : World} {g : G8} {mg : Str → Option Value} {base : Heap} (T : Tx g mg) (D : DefF g mg "is_head" s_is_head ["value", "heads", "length"])  (len : ∀ vs H Q E, sp_is_head g vs H Q E → vs.length = 3) (pure : ∀ vs H Q E, sp_is_head g vs H Q E → t_is_head g { nx := fun _ H' => Q .non H', rt := Q } (start N_is_head vs) H) : Okf P w g mg base 1 "is_head" ["value", "heads", "length"] (sp_is_head g) := by
  obtain ⟨f, fd, F, m, b⟩ := D
  refine ⟨f, fd, ?_, m, F.kp, b⟩
  refine F.ok (k := 0) sc_is_head len (fun cdv A outer s H vs Q E hr h => ?_)
  have hu := hu_of hr
  exact ⟨t_is_head g, (pss_one (ps_ret (pe_and (pe_callB call_isi (by rfl) T.b_isinstance (by decide +kernel) (pa_cons (pv 0) (pa_cons (pe_bltn (by rfl) T.b_tuple (by decide +kernel) rfl) pa_nil))) (pe_and (pe_cmpR op_eq (pe_callB call_lenA (by rfl) T.b_len PySem.boot_len (pa_cons (pv 0) pa_nil)) (pv 2) (nomark _)) (pe_and (pe_callB call_isi (by rfl) T.b_isinstance (by decide +kernel) (pa_cons (pe_ix ix_seq (pv 0) pe_int (fun _ _ => rfl)) (pa_cons (pe_bltn (by rfl) T.b_str (by decide +kernel) rfl) pa_nil))) (pe_one (pe_cmpR op_in_seq (pe_ix ix_seq (pv 0) pe_int (fun _ _ => rfl)) (pv 1) (by rfl)))))))), pure vs H Q E h⟩
theorem ok_term_breach {P : Program} {w : World} {g : G8} {mg : Str → Option Value} {base : Heap} (T : Tx g mg) (D : DefF g mg "term_breach" s_term_breach ["value"]) (O_is_head : Okf P w g mg base 1 "is_head" ["value", "heads", "length"] (sp_is_head g)) (O_is_integer : Okf P w g mg base 1 "is_integer" ["value"] (sp_is_integer g)) (O_is_name : Okf P w g mg base 1 "is_name" ["value"] (sp_is_name g)) (len : ∀ vs H Q E, sp_term_breach g vs H Q E → vs.length = 1) (pure : ∀ vs H Q E, sp_term_breach g vs H Q E → t_term_breach g { nx := fun _ H' => Q .non H', rt := Q } (start N_term_breach vs) H) : Okf P w g mg base 2 "term_breach" ["value"] (sp_term_breach g) := by
  obtain ⟨f_is_head, d_is_head, F_is_head, m_is_head, k_is_head, b_is_head⟩ := O_is_head
  obtain ⟨f_is_integer, d_is_integer, F_is_integer, m_is_integer, k_is_integer, b_is_integer⟩ := O_is_integer
  obtain ⟨f_is_name, d_is_name, F_is_name, m_is_name, k_is_name, b_is_name⟩ := O_is_name
  obtain ⟨f, fd, F, m, b⟩ := D
  refine ⟨f, fd, ?_, m, F.kp, b⟩
  refine F.ok (k := 1) sc_term_breach len (fun cdv A outer s H vs Q E hr h => ?_)
  have hu := hu_of hr
  exact ⟨t_term_breach g, (pss_cons (ps_if (pt_val (pe_call F_is_head (hr.mono (by decide)) rfl m_is_head k_is_head b_is_head .nil pass0 (pa_cons (pv 0) (pa_cons (pe_tup (pa_cons pe_str pa_nil)) (pa_cons pe_int pa_nil))))) (pss_one (ps_ret (pe_ifExp (PW.pt (pw_and (pt_val (pe_call F_is_integer (hr.mono (by decide)) rfl m_is_integer k_is_integer b_is_integer .nil pass0 (pa_cons (pe_ix ix_seq (pv 0) pe_int (fun _ _ => rfl)) pa_nil))) (pw_and1 (pt_chain op_le op_le pe_int (pe_ix ix_seq (pv 0) pe_int (fun _ _ => rfl)) (pe_glob rfl T.m_MOST_NUMBER ⟨_, rfl⟩))))) (pe_lst pa_nil) pe_non))) pss_nil) (pss_cons (ps_if (pt_val (pe_call F_is_head (hr.mono (by decide)) rfl m_is_head k_is_head b_is_head .nil pass0 (pa_cons (pv 0) (pa_cons (pe_tup (pa_cons pe_str pa_nil)) (pa_cons pe_int pa_nil))))) (pss_one (ps_ret (pe_ifExp (pt_val (pe_call F_is_name (hr.mono (by decide)) rfl m_is_name k_is_name b_is_name .nil pass0 (pa_cons (pe_ix ix_seq (pv 0) pe_int (fun _ _ => rfl)) pa_nil))) (pe_lst pa_nil) pe_non))) pss_nil) (pss_cons (ps_if (pt_val (pe_call F_is_head (hr.mono (by decide)) rfl m_is_head k_is_head b_is_head .nil pass0 (pa_cons (pv 0) (pa_cons (pe_tup (pa_cons pe_str pa_nil)) (pa_cons pe_int pa_nil))))) (pss_one (ps_ret (pe_lst (pa_cons (pe_ix ix_seq (pv 0) pe_int (fun _ _ => rfl)) pa_nil)))) pss_nil) (pss_cons (ps_if (pt_val (pe_call F_is_head (hr.mono (by decide)) rfl m_is_head k_is_head b_is_head .nil pass0 (pa_cons (pv 0) (pa_cons (pe_tup (pa_cons pe_str (pa_cons pe_str (pa_cons pe_str pa_nil)))) (pa_cons pe_int pa_nil))))) (pss_one (ps_ret (pe_lst (pa_cons (pe_ix ix_seq (pv 0) pe_int (fun _ _ => rfl)) (pa_cons (pe_ix ix_seq (pv 0) pe_int (fun _ _ => rfl)) pa_nil))))) pss_nil) (pss_cons (ps_if (pt_val (pe_call F_is_head (hr.mono (by decide)) rfl m_is_head k_is_head b_is_head .nil pass0 (pa_cons (pv 0) (pa_cons (pe_tup (pa_cons pe_str pa_nil)) (pa_cons pe_int pa_nil))))) (pss_one (ps_ret (pe_ifExp (PW.pt (pw_and (pt_val (pe_call F_is_integer (hr.mono (by decide)) rfl m_is_integer k_is_integer b_is_integer .nil pass0 (pa_cons (pe_ix ix_seq (pv 0) pe_int (fun _ _ => rfl)) pa_nil))) (pw_and1 (pt_chain op_le op_le pe_int (pe_ix ix_seq (pv 0) pe_int (fun _ _ => rfl)) (pe_glob rfl T.m_MOST_POWER ⟨_, rfl⟩))))) (pe_lst (pa_cons (pe_ix ix_seq (pv 0) pe_int (fun _ _ => rfl)) pa_nil)) pe_non))) pss_nil) (pss_one (ps_ret pe_non))))))), pure vs H Q E h⟩
theorem ok_are_terms {P : Program} {w : World} {g : G8} {mg : Str → Option Value} {base : Heap} (T : Tx g mg) (D : DefF g mg "are_terms" s_are_terms ["values"]) (O_term_breach : Okf P w g mg base 2 "term_breach" ["value"] (sp_term_breach g)) (len : ∀ vs H Q E, sp_are_terms g vs H Q E → vs.length = 1) (pure : ∀ vs H Q E, sp_are_terms g vs H Q E → t_are_terms g { nx := fun _ H' => Q .non H', rt := Q } (start N_are_terms vs) H) : Okf P w g mg base 3 "are_terms" ["values"] (sp_are_terms g) := by
  obtain ⟨f_term_breach, d_term_breach, F_term_breach, m_term_breach, k_term_breach, b_term_breach⟩ := O_term_breach
  obtain ⟨f, fd, F, m, b⟩ := D
  refine ⟨f, fd, ?_, m, F.kp, b⟩
  refine F.ok (k := 2) sc_are_terms len (fun cdv A outer s H vs Q E hr h => ?_)
  have hu := hu_of hr
  exact ⟨t_are_terms g, (pss_cons (ps_set (i := 1) sc_are_terms.nd rfl (by first | exact Or.inl rfl | exact Or.inr rfl) (pe_callTy call_listA (by rfl) T.b_list (by decide +kernel) (pa_cons (pv 0) pa_nil))) (pss_cons (ps_while PassesOwn.never (pt_cmpR op_gt (pe_callB call_lenA (by rfl) T.b_len PySem.boot_len (pa_cons (pv 1) pa_nil)) pe_int (nomark _)) (pss_cons (ps_set (i := 2) sc_are_terms.nd rfl (by first | exact Or.inl rfl | exact Or.inr rfl) (pe_call F_term_breach (hr.mono (by decide)) rfl m_term_breach k_term_breach b_term_breach .nil pass0 (pa_cons (pe_bm0 PySem.F.plainAttrs_list PySem.F.slot_list_pop PySem.F.type_list_pop mt_pop (pv 1)) pa_nil))) (pss_cons (ps_if (pt_cmpR op_isN1 (pv 2) pe_non (nomark _)) (pss_one (ps_ret pe_bl)) pss_nil) (pss_one (ps_expr (pe_bm PySem.F.plainAttrs_list PySem.F.slot_list_extend PySem.F.type_list_extend mt_extend (pv 1) (pa_cons (pv 2) pa_nil))))))) (pss_one (ps_ret pe_bl)))), pure vs H Q E h⟩
theorem ok_saying_parts {P : Program} {w : World} {g : G8} {mg : Str → Option Value} {base : Heap} (T : Tx g mg) (D : DefF g mg "saying_parts" s_saying_parts ["value"]) (O_is_head : Okf P w g mg base 1 "is_head" ["value", "heads", "length"] (sp_is_head g)) (O_is_name : Okf P w g mg base 1 "is_name" ["value"] (sp_is_name g)) (len : ∀ vs H Q E, sp_saying_parts g vs H Q E → vs.length = 1) (pure : ∀ vs H Q E, sp_saying_parts g vs H Q E → t_saying_parts g { nx := fun _ H' => Q .non H', rt := Q } (start N_saying_parts vs) H) : Okf P w g mg base 2 "saying_parts" ["value"] (sp_saying_parts g) := by
  obtain ⟨f_is_head, d_is_head, F_is_head, m_is_head, k_is_head, b_is_head⟩ := O_is_head
  obtain ⟨f_is_name, d_is_name, F_is_name, m_is_name, k_is_name, b_is_name⟩ := O_is_name
  obtain ⟨f, fd, F, m, b⟩ := D
  refine ⟨f, fd, ?_, m, F.kp, b⟩
  refine F.ok (k := 1) sc_saying_parts len (fun cdv A outer s H vs Q E hr h => ?_)
  have hu := hu_of hr
  exact ⟨t_saying_parts g, (pss_cons (ps_if (pt_val (pe_call F_is_head (hr.mono (by decide)) rfl m_is_head k_is_head b_is_head .nil pass0 (pa_cons (pv 0) (pa_cons (pe_glob rfl T.m_RELATIONS rfl) (pa_cons pe_int pa_nil))))) (pss_one (ps_ret (pe_lst pa_nil))) pss_nil) (pss_cons (ps_if (pt_val (pe_call F_is_head (hr.mono (by decide)) rfl m_is_head k_is_head b_is_head .nil pass0 (pa_cons (pv 0) (pa_cons (pe_tup (pa_cons pe_str pa_nil)) (pa_cons pe_int pa_nil))))) (pss_one (ps_ret (pe_lst (pa_cons (pe_ix ix_seq (pv 0) pe_int (fun _ _ => rfl)) pa_nil)))) pss_nil) (pss_cons (ps_if (pt_val (pe_call F_is_head (hr.mono (by decide)) rfl m_is_head k_is_head b_is_head .nil pass0 (pa_cons (pv 0) (pa_cons (pe_glob rfl T.m_PAIRED rfl) (pa_cons pe_int pa_nil))))) (pss_one (ps_ret (pe_lst (pa_cons (pe_ix ix_seq (pv 0) pe_int (fun _ _ => rfl)) (pa_cons (pe_ix ix_seq (pv 0) pe_int (fun _ _ => rfl)) pa_nil))))) pss_nil) (pss_cons (ps_if (PW.pt (pw_and (pt_val (pe_call F_is_head (hr.mono (by decide)) rfl m_is_head k_is_head b_is_head .nil pass0 (pa_cons (pv 0) (pa_cons (pe_tup (pa_cons pe_str (pa_cons pe_str pa_nil))) (pa_cons pe_int pa_nil))))) (pw_and1 (pt_val (pe_call F_is_name (hr.mono (by decide)) rfl m_is_name k_is_name b_is_name .nil pass0 (pa_cons (pe_ix ix_seq (pv 0) pe_int (fun _ _ => rfl)) pa_nil)))))) (pss_one (ps_ret (pe_lst (pa_cons (pe_ix ix_seq (pv 0) pe_int (fun _ _ => rfl)) pa_nil)))) pss_nil) (pss_one (ps_ret pe_non)))))), pure vs H Q E h⟩
theorem ok_is_saying {P : Program} {w : World} {g : G8} {mg : Str → Option Value} {base : Heap} (T : Tx g mg) (D : DefF g mg "is_saying" s_is_saying ["value"]) (O_saying_parts : Okf P w g mg base 2 "saying_parts" ["value"] (sp_saying_parts g)) (O_are_terms : Okf P w g mg base 3 "are_terms" ["values"] (sp_are_terms g)) (len : ∀ vs H Q E, sp_is_saying g vs H Q E → vs.length = 1) (pure : ∀ vs H Q E, sp_is_saying g vs H Q E → t_is_saying g { nx := fun _ H' => Q .non H', rt := Q } (start N_is_saying vs) H) : Okf P w g mg base 4 "is_saying" ["value"] (sp_is_saying g) := by
  obtain ⟨f_saying_parts, d_saying_parts, F_saying_parts, m_saying_parts, k_saying_parts, b_saying_parts⟩ := O_saying_parts
  obtain ⟨f_are_terms, d_are_terms, F_are_terms, m_are_terms, k_are_terms, b_are_terms⟩ := O_are_terms
  obtain ⟨f, fd, F, m, b⟩ := D
  refine ⟨f, fd, ?_, m, F.kp, b⟩
  refine F.ok (k := 3) sc_is_saying len (fun cdv A outer s H vs Q E hr h => ?_)
  have hu := hu_of hr
  exact ⟨t_is_saying g, (pss_cons (ps_set (i := 1) sc_is_saying.nd rfl (by first | exact Or.inl rfl | exact Or.inr rfl) (pe_lst (pa_cons (pv 0) pa_nil))) (pss_cons (ps_while PassesOwn.never (pt_cmpR op_gt (pe_callB call_lenA (by rfl) T.b_len PySem.boot_len (pa_cons (pv 1) pa_nil)) pe_int (nomark _)) (pss_cons (ps_set (i := 2) sc_is_saying.nd rfl (by first | exact Or.inl rfl | exact Or.inr rfl) (pe_bm0 PySem.F.plainAttrs_list PySem.F.slot_list_pop PySem.F.type_list_pop mt_pop (pv 1))) (pss_cons (ps_set (i := 3) sc_is_saying.nd rfl (by first | exact Or.inl rfl | exact Or.inr rfl) (pe_call F_saying_parts (hr.mono (by decide)) rfl m_saying_parts k_saying_parts b_saying_parts .nil pass0 (pa_cons (pv 2) pa_nil))) (pss_cons (ps_if (PW.pt (pw_or (pt_cmpR op_isN1 (pv 3) pe_non (nomark _)) (pw_or1 (PW.pt (pw_and (pt_cmpR op_in_seq (pe_ix ix_seq (pv 2) pe_int (fun _ _ => rfl)) (pe_glob rfl T.m_RELATIONS rfl) (by rfl)) (pw_and1 (pt_not (pt_val (pe_call F_are_terms (hr.mono (by decide)) rfl m_are_terms k_are_terms b_are_terms .nil pass0 (pa_cons (pe_slice sl_tup (pv 2) (po_some pe_int) po_none) pa_nil)))))))))) (pss_one (ps_ret pe_bl)) pss_nil) (pss_one (ps_expr (pe_bm PySem.F.plainAttrs_list PySem.F.slot_list_extend PySem.F.type_list_extend mt_extend (pv 1) (pa_cons (pv 3) pa_nil)))))))) (pss_one (ps_ret pe_bl)))), pure vs H Q E h⟩
theorem ok_Read_init {P : Program} {w : World} {g : G8} {mg : Str → Option Value} {base : Heap} (T : Tx g mg) (D : DefI g g.Read "Read.__init__" s_Read_init ["self", "tree"])  (len : ∀ vs H Q E, sp_Read_init g vs H Q E → vs.length = 2) (pure : ∀ vs H Q E, sp_Read_init g vs H Q E → t_Read_init g { nx := fun _ H' => Q .non H', rt := Q } (start N_Read_init vs) H) : Oki P w g mg base 1 g.Read ["self", "tree"] (sp_Read_init g) := by
  obtain ⟨f, fd, F, m, b⟩ := D
  refine ⟨f, fd, ?_, m, b⟩
  refine F.ok (k := 0) sc_Read_init len (fun cdv A outer s H vs Q E hr h => ?_)
  have hu := hu_of hr
  exact ⟨t_Read_init g, (pss_one (ps_fld (pv 0) (pv 1) rfl)), pure vs H Q E h⟩
end Dy
end
section
set_option maxHeartbeats 4000019
namespace Dy
open PySem L2 Evl Mi
theorem ok_Read_eq {P : Program} {w : World} {g : G8} {mg : Str → Option Value} {base : Heap} (T : Tx g mg) (D : DefM g g.Read "__eq__" "Read.__eq__" s_Read_eq ["self", "other"])  (len : ∀ vs H Q E, sp_Read_eq g vs H Q E → vs.length = 2) (pure : ∀ vs H Q E, sp_Read_eq g vs H Q E → t_Read_eq g { nx := fun _ H' => Q .non H', rt := Q } (start N_Read_eq vs) H) : Okm P w g mg base 120 g.Read "__eq__" ["self", "other"] (sp_Read_eq g) := by
  obtain ⟨f, fd, F, m, b⟩ := D
  refine ⟨f, fd, ?_, m, b⟩
  refine F.ok (k := 119) sc_Read_eq len (fun cdv A outer s H vs Q E hr h => ?_)
  have hu := hu_of hr
  exact ⟨t_Read_eq g, (pss_one (ps_ret (pe_and (pe_callB call_isi (by rfl) T.b_isinstance (by decide +kernel) (pa_cons (pv 1) (pa_cons (pe_glob rfl T.m_Read rfl) pa_nil))) (pe_one (pe_cmpR (op_eqN (N := 2000) (un_of2 hr)) (pe_fld (pv 0) rfl) (pe_fld (pv 1) rfl) (nomark _)))))), pure vs H Q E h⟩
theorem ok_Unread_init {P : Program} {w : World} {g : G8} {mg : Str → Option Value} {base : Heap} (T : Tx g mg) (D : DefI g g.Unread "Unread.__init__" s_Unread_init ["self", "place", "is_end"])  (len : ∀ vs H Q E, sp_Unread_init g vs H Q E → vs.length = 3) (pure : ∀ vs H Q E, sp_Unread_init g vs H Q E → t_Unread_init g { nx := fun _ H' => Q .non H', rt := Q } (start N_Unread_init vs) H) : Oki P w g mg base 1 g.Unread ["self", "place", "is_end"] (sp_Unread_init g) := by
  obtain ⟨f, fd, F, m, b⟩ := D
  refine ⟨f, fd, ?_, m, b⟩
  refine F.ok (k := 0) sc_Unread_init len (fun cdv A outer s H vs Q E hr h => ?_)
  have hu := hu_of hr
  exact ⟨t_Unread_init g, (pss_cons (ps_fld (pv 0) (pv 1) rfl) (pss_one (ps_fld (pv 0) (pv 2) rfl))), pure vs H Q E h⟩
theorem ok_Unread_eq {P : Program} {w : World} {g : G8} {mg : Str → Option Value} {base : Heap} (T : Tx g mg) (D : DefM g g.Unread "__eq__" "Unread.__eq__" s_Unread_eq ["self", "other"])  (len : ∀ vs H Q E, sp_Unread_eq g vs H Q E → vs.length = 2) (pure : ∀ vs H Q E, sp_Unread_eq g vs H Q E → t_Unread_eq g { nx := fun _ H' => Q .non H', rt := Q } (start N_Unread_eq vs) H) : Okm P w g mg base 1 g.Unread "__eq__" ["self", "other"] (sp_Unread_eq g) := by
  obtain ⟨f, fd, F, m, b⟩ := D
  refine ⟨f, fd, ?_, m, b⟩
  refine F.ok (k := 0) sc_Unread_eq len (fun cdv A outer s H vs Q E hr h => ?_)
  have hu := hu_of hr
  exact ⟨t_Unread_eq g, (pss_one (ps_ret (pe_and (pe_callB call_isi (by rfl) T.b_isinstance (by decide +kernel) (pa_cons (pv 1) (pa_cons (pe_glob rfl T.m_Unread rfl) pa_nil))) (pe_one (pe_cmpR (op_eqN (N := 200) (un_of hr)) (pe_tup (pa_cons (pe_fld (pv 0) rfl) (pa_cons (pe_fld (pv 0) rfl) pa_nil))) (pe_tup (pa_cons (pe_fld (pv 1) rfl) (pa_cons (pe_fld (pv 1) rfl) pa_nil))) (nomark _)))))), pure vs H Q E h⟩
theorem ok_run_end {P : Program} {w : World} {g : G8} {mg : Str → Option Value} {base : Heap} (T : Tx g mg) (D : DefF g mg "run_end" s_run_end ["text", "at", "signs"])  (len : ∀ vs H Q E, sp_run_end g vs H Q E → vs.length = 3) (pure : ∀ vs H Q E, sp_run_end g vs H Q E → t_run_end g { nx := fun _ H' => Q .non H', rt := Q } (start N_run_end vs) H) : Okf P w g mg base 1 "run_end" ["text", "at", "signs"] (sp_run_end g) := by
  obtain ⟨f, fd, F, m, b⟩ := D
  refine ⟨f, fd, ?_, m, F.kp, b⟩
  refine F.ok (k := 0) sc_run_end len (fun cdv A outer s H vs Q E hr h => ?_)
  have hu := hu_of hr
  exact ⟨t_run_end g, (pss_cons (ps_while PassesOwn.never (PW.pt (pw_and (pt_cmpR op_lt (pv 1) (pe_callB call_lenA (by rfl) T.b_len PySem.boot_len (pa_cons (pv 0) pa_nil)) (nomark _)) (pw_and1 (pt_cmpR op_inS (pe_ix ix_seq (pv 0) (pv 1) (fun _ _ => rfl)) (pv 2) (by rfl))))) (pss_one (ps_aug (i := 1) sc_run_end.nd rfl (by first | exact Or.inl rfl | exact Or.inr rfl) pe_int ip_add))) (pss_one (ps_ret (pv 1)))), pure vs H Q E h⟩
theorem ok_token_at {P : Program} {w : World} {g : G8} {mg : Str → Option Value} {base : Heap} (T : Tx g mg) (D : DefF g mg "token_at" s_token_at ["text", "at"]) (O_run_end : Okf P w g mg base 1 "run_end" ["text", "at", "signs"] (sp_run_end g)) (len : ∀ vs H Q E, sp_token_at g vs H Q E → vs.length = 2) (pure : ∀ vs H Q E, sp_token_at g vs H Q E → t_token_at g { nx := fun _ H' => Q .non H', rt := Q } (start N_token_at vs) H) : Okf P w g mg base 2 "token_at" ["text", "at"] (sp_token_at g) := by
  obtain ⟨f_run_end, d_run_end, F_run_end, m_run_end, k_run_end, b_run_end⟩ := O_run_end
  obtain ⟨f, fd, F, m, b⟩ := D
  refine ⟨f, fd, ?_, m, F.kp, b⟩
  refine F.ok (k := 1) sc_token_at len (fun cdv A outer s H vs Q E hr h => ?_)
  have hu := hu_of hr
  exact ⟨t_token_at g, (pss_cons (ps_set (i := 1) sc_token_at.nd rfl (by first | exact Or.inl rfl | exact Or.inr rfl) (pe_call F_run_end (hr.mono (by decide)) rfl m_run_end k_run_end b_run_end .nil pass0 (pa_cons (pv 0) (pa_cons (pv 1) (pa_cons pe_str pa_nil))))) (pss_cons (ps_if (pt_cmpR op_eq (pv 1) (pe_callB call_lenA (by rfl) T.b_len PySem.boot_len (pa_cons (pv 0) pa_nil)) (nomark _)) (pss_one (ps_ret (pe_tup (pa_cons pe_str (pa_cons pe_str (pa_cons (pv 1) pa_nil)))))) pss_nil) (pss_cons (ps_if (pt_cmpR op_inS (pe_ix ix_seq (pv 0) (pv 1) (fun _ _ => rfl)) (pe_glob rfl T.m_LETTERS ⟨_, rfl⟩) (by rfl)) (pss_one (ps_ret (pe_tup (pa_cons pe_str (pa_cons (pe_slice sl_str (pv 0) (po_some (pv 1)) (po_some (pe_call F_run_end (hr.mono (by decide)) rfl m_run_end k_run_end b_run_end .nil pass0 (pa_cons (pv 0) (pa_cons (pv 1) (pa_cons (pe_op op_catS (pe_glob rfl T.m_LETTERS ⟨_, rfl⟩) (pe_glob rfl T.m_FIGURES ⟨_, rfl⟩)) pa_nil)))))) (pa_cons (pv 1) pa_nil)))))) pss_nil) (pss_cons (ps_if (pt_cmpR op_inS (pe_ix ix_seq (pv 0) (pv 1) (fun _ _ => rfl)) (pe_glob rfl T.m_FIGURES ⟨_, rfl⟩) (by rfl)) (pss_one (ps_ret (pe_tup (pa_cons pe_str (pa_cons (pe_slice sl_str (pv 0) (po_some (pv 1)) (po_some (pe_call F_run_end (hr.mono (by decide)) rfl m_run_end k_run_end b_run_end .nil pass0 (pa_cons (pv 0) (pa_cons (pv 1) (pa_cons (pe_glob rfl T.m_FIGURES ⟨_, rfl⟩) pa_nil)))))) (pa_cons (pv 1) pa_nil)))))) pss_nil) (pss_cons (ps_for PassesOwn.never rfl (pi_tup (pe_glob rfl T.m_SIGNS rfl)) (pg_name (i := 2) sc_token_at.nd rfl (by first | exact Or.inl rfl | exact Or.inr rfl)) (pss_one (ps_if (pt_cmpR op_eq (pe_slice sl_str (pv 0) (po_some (pv 1)) (po_some (pe_op op_add (pv 1) (pe_callB call_lenA (by rfl) T.b_len PySem.boot_len (pa_cons (pv 2) pa_nil))))) (pv 2) (nomark _)) (pss_one (ps_ret (pe_tup (pa_cons pe_str (pa_cons (pv 2) (pa_cons (pv 1) pa_nil)))))) pss_nil))) (pss_one (ps_ret (pe_tup (pa_cons pe_str (pa_cons (pe_ix ix_seq (pv 0) (pv 1) (fun _ _ => rfl)) (pa_cons (pv 1) pa_nil))))))))))), pure vs H Q E h⟩
theorem ok_Reader_init {P : Program} {w : World} {g : G8} {mg : Str → Option Value} {base : Heap} (T : Tx g mg) (D : DefI g g.Reader "Reader.__init__" s_Reader_init ["self", "text", "free"]) (O_token_at : Okf P w g mg base 2 "token_at" ["text", "at"] (sp_token_at g)) (len : ∀ vs H Q E, sp_Reader_init g vs H Q E → vs.length = 3) (pure : ∀ vs H Q E, sp_Reader_init g vs H Q E → t_Reader_init g { nx := fun _ H' => Q .non H', rt := Q } (start N_Reader_init vs) H) : Oki P w g mg base 3 g.Reader ["self", "text", "free"] (sp_Reader_init g) := by
  obtain ⟨f_token_at, d_token_at, F_token_at, m_token_at, k_token_at, b_token_at⟩ := O_token_at
  obtain ⟨f, fd, F, m, b⟩ := D
  refine ⟨f, fd, ?_, m, b⟩
  refine F.ok (k := 2) sc_Reader_init len (fun cdv A outer s H vs Q E hr h => ?_)
  have hu := hu_of hr
  exact ⟨t_Reader_init g, (pss_cons (ps_fld (pv 0) (pv 1) rfl) (pss_cons (ps_asg (pe_call F_token_at (hr.mono (by decide)) rfl m_token_at k_token_at b_token_at .nil pass0 (pa_cons (pv 1) (pa_cons pe_int pa_nil))) (pg_tup (by rfl) (pgs_cons (pg_attr (pv 0)) (pgs_cons (pg_attr (pv 0)) (pgs_cons (pg_attr (pv 0)) pgs_nil))))) (pss_cons (ps_fld (pv 0) (pe_callTy call_listA (by rfl) T.b_list (by decide +kernel) (pa_cons (pv 2) pa_nil)) rfl) (pss_cons (ps_fld (pv 0) (pe_lst pa_nil) rfl) (pss_cons (ps_fld (pv 0) pe_str rfl) (pss_cons (ps_fld (pv 0) pe_non rfl) (pss_cons (ps_fld (pv 0) (pe_tup pa_nil) rfl) (pss_cons (ps_fld (pv 0) pe_bl rfl) (pss_one (ps_fld (pv 0) pe_non rfl)))))))))), pure vs H Q E h⟩
theorem ok_Reader_step {P : Program} {w : World} {g : G8} {mg : Str → Option Value} {base : Heap} (T : Tx g mg) (D : DefM g g.Reader "step" "Reader.step" s_Reader_step ["self"]) (O_token_at : Okf P w g mg base 2 "token_at" ["text", "at"] (sp_token_at g)) (len : ∀ vs H Q E, sp_Reader_step g vs H Q E → vs.length = 1) (pure : ∀ vs H Q E, sp_Reader_step g vs H Q E → t_Reader_step g { nx := fun _ H' => Q .non H', rt := Q } (start N_Reader_step vs) H) : Okm P w g mg base 3 g.Reader "step" ["self"] (sp_Reader_step g) := by
  obtain ⟨f_token_at, d_token_at, F_token_at, m_token_at, k_token_at, b_token_at⟩ := O_token_at
  obtain ⟨f, fd, F, m, b⟩ := D
  refine ⟨f, fd, ?_, m, b⟩
  refine F.ok (k := 2) sc_Reader_step len (fun cdv A outer s H vs Q E hr h => ?_)
  have hu := hu_of hr
  exact ⟨t_Reader_step g, (pss_cons (ps_set (i := 1) sc_Reader_step.nd rfl (by first | exact Or.inl rfl | exact Or.inr rfl) (pe_fld (pv 0) rfl)) (pss_cons (ps_asg (pe_call F_token_at (hr.mono (by decide)) rfl m_token_at k_token_at b_token_at .nil pass0 (pa_cons (pe_fld (pv 0) rfl) (pa_cons (pe_op op_add (pe_fld (pv 0) rfl) (pe_callB call_lenA (by rfl) T.b_len PySem.boot_len (pa_cons (pv 1) pa_nil))) pa_nil))) (pg_tup (by rfl) (pgs_cons (pg_attr (pv 0)) (pgs_cons (pg_attr (pv 0)) (pgs_cons (pg_attr (pv 0)) pgs_nil))))) (pss_one (ps_ret (pv 1))))), pure vs H Q E h⟩
theorem ok_Reader_at {P : Program} {w : World} {g : G8} {mg : Str → Option Value} {base : Heap} (T : Tx g mg) (D : DefM g g.Reader "at" "Reader.at" s_Reader_at ["self", "kind", "tokens"])  (len : ∀ vs H Q E, sp_Reader_at g vs H Q E → vs.length = 3) (pure : ∀ vs H Q E, sp_Reader_at g vs H Q E → t_Reader_at g { nx := fun _ H' => Q .non H', rt := Q } (start N_Reader_at vs) H) : Okm P w g mg base 1 g.Reader "at" ["self", "kind", "tokens"] (sp_Reader_at g) := by
  obtain ⟨f, fd, F, m, b⟩ := D
  refine ⟨f, fd, ?_, m, b⟩
  refine F.ok (k := 0) sc_Reader_at len (fun cdv A outer s H vs Q E hr h => ?_)
  have hu := hu_of hr
  exact ⟨t_Reader_at g, (pss_one (ps_ret (pe_and (pe_cmpR op_eq (pe_fld (pv 0) rfl) (pv 1) (nomark _)) (pe_one (pe_cmpR op_in_seq (pe_fld (pv 0) rfl) (pv 2) (by rfl)))))), pure vs H Q E h⟩
theorem ok_Reader_top {P : Program} {w : World} {g : G8} {mg : Str → Option Value} {base : Heap} (T : Tx g mg) (D : DefM g g.Reader "top" "Reader.top" s_Reader_top ["self"])  (len : ∀ vs H Q E, sp_Reader_top g vs H Q E → vs.length = 1) (pure : ∀ vs H Q E, sp_Reader_top g vs H Q E → t_Reader_top g { nx := fun _ H' => Q .non H', rt := Q } (start N_Reader_top vs) H) : Okm P w g mg base 1 g.Reader "top" ["self"] (sp_Reader_top g) := by
  obtain ⟨f, fd, F, m, b⟩ := D
  refine ⟨f, fd, ?_, m, b⟩
  refine F.ok (k := 0) sc_Reader_top len (fun cdv A outer s H vs Q E hr h => ?_)
  have hu := hu_of hr
  exact ⟨t_Reader_top g, (pss_one (ps_ret (pe_ifExp (pt_cmpR op_gt (pe_callB call_lenA (by rfl) T.b_len PySem.boot_len (pa_cons (pe_fld (pv 0) rfl) pa_nil)) pe_int (nomark _)) (pe_ix ix_seq (pe_ix ix_seq (pe_fld (pv 0) rfl) (pe_un un_neg pe_int) (fun _ _ => rfl)) pe_int (fun _ _ => rfl)) pe_str))), pure vs H Q E h⟩
end Dy
end
section
set_option maxHeartbeats 4000019
namespace Dy
open PySem L2 Evl Mi
theorem ok_Reader_stop {P : Program} {w : World} {g : G8} {mg : Str → Option Value} {base : Heap} (T : Tx g mg) (D : DefM g g.Reader "stop" "Reader.stop" s_Reader_stop ["self", "words", "signs"]) (O_longest_shared : Okf P w g mg base 1 "longest_shared" ["token", "words"] (sp_longest_shared g)) (len : ∀ vs H Q E, sp_Reader_stop g vs H Q E → vs.length = 3) (pure : ∀ vs H Q E, sp_Reader_stop g vs H Q E → t_Reader_stop g { nx := fun _ H' => Q .non H', rt := Q } (start N_Reader_stop vs) H) : Okm P w g mg base 2 g.Reader "stop" ["self", "words", "signs"] (sp_Reader_stop g) := by
  obtain ⟨f_longest_shared, d_longest_shared, F_longest_shared, m_longest_shared, k_longest_shared, b_longest_shared⟩ := O_longest_shared
  obtain ⟨f, fd, F, m, b⟩ := D
  refine ⟨f, fd, ?_, m, b⟩
  refine F.ok (k := 1) sc_Reader_stop len (fun cdv A outer s H vs Q E hr h => ?_)
  have hu := hu_of hr
  exact ⟨t_Reader_stop g, (pss_cons (ps_fld (pv 0) (pe_fld (pv 0) rfl) rfl) (pss_cons (ps_if (pt_cmpR op_eq (pe_fld (pv 0) rfl) pe_str (nomark _)) (pss_one (ps_fld (pv 0) (pe_op op_add (pe_fld (pv 0) rfl) (pe_call F_longest_shared (hr.mono (by decide)) rfl m_longest_shared k_longest_shared b_longest_shared .nil pass0 (pa_cons (pe_fld (pv 0) rfl) (pa_cons (pv 1) pa_nil)))) rfl)) pss_nil) (pss_one (ps_if (PW.pt (pw_and (pt_cmpR op_eq (pe_fld (pv 0) rfl) pe_str (nomark _)) (pw_and (pt_cmpR op_eq (pe_fld (pv 0) rfl) pe_str (nomark _)) (pw_and1 (pt_cmpR op_in_seq pe_str (pv 2) (by rfl)))))) (pss_one (ps_fld (pv 0) (pe_op op_add (pe_fld (pv 0) rfl) pe_int) rfl)) pss_nil)))), pure vs H Q E h⟩
theorem ok_longest_shared {P : Program} {w : World} {g : G8} {mg : Str → Option Value} {base : Heap} (T : Tx g mg) (D : DefF g mg "longest_shared" s_longest_shared ["token", "words"])  (len : ∀ vs H Q E, sp_longest_shared g vs H Q E → vs.length = 2) (pure : ∀ vs H Q E, sp_longest_shared g vs H Q E → t_longest_shared g { nx := fun _ H' => Q .non H', rt := Q } (start N_longest_shared vs) H) : Okf P w g mg base 1 "longest_shared" ["token", "words"] (sp_longest_shared g) := by
  obtain ⟨f, fd, F, m, b⟩ := D
  refine ⟨f, fd, ?_, m, F.kp, b⟩
  refine F.ok (k := 0) sc_longest_shared len (fun cdv A outer s H vs Q E hr h => ?_)
  have hu := hu_of hr
  exact ⟨t_longest_shared g, (pss_cons (ps_set (i := 2) sc_longest_shared.nd rfl (by first | exact Or.inl rfl | exact Or.inr rfl) pe_int) (pss_cons (ps_for PassesOwn.never rfl (pi_tup (pv 1)) (pg_name (i := 3) sc_longest_shared.nd rfl (by first | exact Or.inl rfl | exact Or.inr rfl)) (pss_cons (ps_set (i := 4) sc_longest_shared.nd rfl (by first | exact Or.inl rfl | exact Or.inr rfl) pe_int) (pss_cons (ps_while PassesOwn.never (PW.pt (pw_and (pt_cmpR op_lt (pv 4) (pe_callB (call_minA rfl) (by rfl) T.b_min (by decide +kernel) (pa_cons (pe_callB call_lenA (by rfl) T.b_len PySem.boot_len (pa_cons (pv 3) pa_nil)) (pa_cons (pe_callB call_lenA (by rfl) T.b_len PySem.boot_len (pa_cons (pv 0) pa_nil)) pa_nil))) (nomark _)) (pw_and1 (pt_cmpR op_eq (pe_ix ix_seq (pv 3) (pv 4) (fun _ _ => rfl)) (pe_ix ix_seq (pv 0) (pv 4) (fun _ _ => rfl)) (nomark _))))) (pss_one (ps_aug (i := 4) sc_longest_shared.nd rfl (by first | exact Or.inl rfl | exact Or.inr rfl) pe_int ip_add))) (pss_one (ps_set (i := 2) sc_longest_shared.nd rfl (by first | exact Or.inl rfl | exact Or.inr rfl) (pe_callB (call_maxA rfl) (by rfl) T.b_max (by decide +kernel) (pa_cons (pv 2) (pa_cons (pv 4) pa_nil)))))))) (pss_one (ps_ret (pv 2))))), pure vs H Q E h⟩
theorem ok_read_name {P : Program} {w : World} {g : G8} {mg : Str → Option Value} {base : Heap} (T : Tx g mg) (D : DefF g mg "read_name" s_read_name ["reader"]) (O_Reader_stop : Okm P w g mg base 2 g.Reader "stop" ["self", "words", "signs"] (sp_Reader_stop g)) (O_Reader_step : Okm P w g mg base 3 g.Reader "step" ["self"] (sp_Reader_step g)) (len : ∀ vs H Q E, sp_read_name g vs H Q E → vs.length = 1) (pure : ∀ vs H Q E, sp_read_name g vs H Q E → t_read_name g { nx := fun _ H' => Q .non H', rt := Q } (start N_read_name vs) H) : Okf P w g mg base 4 "read_name" ["reader"] (sp_read_name g) := by
  obtain ⟨f_Reader_stop, d_Reader_stop, F_Reader_stop, me_Reader_stop, b_Reader_stop⟩ := O_Reader_stop
  obtain ⟨f_Reader_step, d_Reader_step, F_Reader_step, me_Reader_step, b_Reader_step⟩ := O_Reader_step
  obtain ⟨f, fd, F, m, b⟩ := D
  refine ⟨f, fd, ?_, m, F.kp, b⟩
  refine F.ok (k := 3) sc_read_name len (fun cdv A outer s H vs Q E hr h => ?_)
  have hu := hu_of hr
  exact ⟨t_read_name g, (pss_cons (ps_if (pt_cmpR op_ne (pe_fld (pv 0) rfl) pe_str (nomark _)) (pss_cons (ps_expr (pe_meth (pv 0) T.cl_Reader me_Reader_stop F_Reader_stop (hr.mono (by decide)) b_Reader_stop .nil pass0 (pa_cons (pe_tup pa_nil) (pa_cons (pe_tup pa_nil) pa_nil)))) (pss_one (ps_ret pe_non))) pss_nil) (pss_cons (ps_if (pt_cmpR op_gt (pe_callB call_lenA (by rfl) T.b_len PySem.boot_len (pa_cons (pe_fld (pv 0) rfl) pa_nil)) (pe_glob rfl T.m_MOST_SIGNS ⟨_, rfl⟩) (nomark _)) (pss_cons (ps_fld (pv 0) (pe_op op_add (pe_fld (pv 0) rfl) (pe_glob rfl T.m_MOST_SIGNS ⟨_, rfl⟩)) rfl) (pss_one (ps_ret pe_non))) pss_nil) (pss_cons (ps_if (pt_cmpR op_in_seq (pe_fld (pv 0) rfl) (pe_glob rfl T.m_WORDS rfl) (by rfl)) (pss_cons (ps_fld (pv 0) (pe_op op_add (pe_fld (pv 0) rfl) (pe_callB call_lenA (by rfl) T.b_len PySem.boot_len (pa_cons (pe_fld (pv 0) rfl) pa_nil))) rfl) (pss_one (ps_ret pe_non))) pss_nil) (pss_one (ps_ret (pe_meth0 (pv 0) T.cl_Reader me_Reader_step F_Reader_step (hr.mono (by decide)) b_Reader_step .nil pass0)))))), pure vs H Q E h⟩
theorem ok_read_number {P : Program} {w : World} {g : G8} {mg : Str → Option Value} {base : Heap} (T : Tx g mg) (D : DefF g mg "read_number" s_read_number ["reader", "most"]) (O_Reader_stop : Okm P w g mg base 2 g.Reader "stop" ["self", "words", "signs"] (sp_Reader_stop g)) (O_Reader_step : Okm P w g mg base 3 g.Reader "step" ["self"] (sp_Reader_step g)) (len : ∀ vs H Q E, sp_read_number g vs H Q E → vs.length = 2) (pure : ∀ vs H Q E, sp_read_number g vs H Q E → t_read_number g { nx := fun _ H' => Q .non H', rt := Q } (start N_read_number vs) H) : Okf P w g mg base 4 "read_number" ["reader", "most"] (sp_read_number g) := by
  obtain ⟨f_Reader_stop, d_Reader_stop, F_Reader_stop, me_Reader_stop, b_Reader_stop⟩ := O_Reader_stop
  obtain ⟨f_Reader_step, d_Reader_step, F_Reader_step, me_Reader_step, b_Reader_step⟩ := O_Reader_step
  obtain ⟨f, fd, F, m, b⟩ := D
  refine ⟨f, fd, ?_, m, F.kp, b⟩
  refine F.ok (k := 3) sc_read_number len (fun cdv A outer s H vs Q E hr h => ?_)
  have hu := hu_of hr
  exact ⟨t_read_number g, (pss_cons (ps_set (i := 2) sc_read_number.nd rfl (by first | exact Or.inl rfl | exact Or.inr rfl) (pe_fld (pv 0) rfl)) (pss_cons (ps_if (pt_cmpR op_ne (pe_fld (pv 0) rfl) pe_str (nomark _)) (pss_one (ps_expr (pe_meth (pv 0) T.cl_Reader me_Reader_stop F_Reader_stop (hr.mono (by decide)) b_Reader_stop .nil pass0 (pa_cons (pe_tup pa_nil) (pa_cons (pe_tup pa_nil) pa_nil))))) (pss_one (ps_if (PW.pt (pw_and (pt_cmpR op_eq (pe_ix ix_seq (pv 2) pe_int (fun _ _ => rfl)) pe_str (nomark _)) (pw_and1 (pt_cmpR op_gt (pe_callB call_lenA (by rfl) T.b_len PySem.boot_len (pa_cons (pv 2) pa_nil)) pe_int (nomark _))))) (pss_one (ps_fld (pv 0) (pe_op op_add (pe_fld (pv 0) rfl) pe_int) rfl)) (pss_one (ps_if (pt_cmpR op_gt (pe_callB call_lenA (by rfl) T.b_len PySem.boot_len (pa_cons (pv 2) pa_nil)) (pv 1) (nomark _)) (pss_one (ps_fld (pv 0) (pe_op op_add (pe_fld (pv 0) rfl) (pv 1)) rfl)) (pss_one (ps_ret (pe_callTy call_intS (by rfl) T.b_int (by decide +kernel) (pa_cons (pe_meth0 (pv 0) T.cl_Reader me_Reader_step F_Reader_step (hr.mono (by decide)) b_Reader_step .nil pass0) pa_nil))))))))) (pss_one (ps_ret pe_non)))), pure vs H Q E h⟩
theorem ok_read_bound {P : Program} {w : World} {g : G8} {mg : Str → Option Value} {base : Heap} (T : Tx g mg) (D : DefF g mg "read_bound" s_read_bound ["reader"]) (O_Reader_step : Okm P w g mg base 3 g.Reader "step" ["self"] (sp_Reader_step g)) (O_read_name : Okf P w g mg base 4 "read_name" ["reader"] (sp_read_name g)) (O_Reader_at : Okm P w g mg base 1 g.Reader "at" ["self", "kind", "tokens"] (sp_Reader_at g)) (O_Reader_stop : Okm P w g mg base 2 g.Reader "stop" ["self", "words", "signs"] (sp_Reader_stop g)) (len : ∀ vs H Q E, sp_read_bound g vs H Q E → vs.length = 1) (pure : ∀ vs H Q E, sp_read_bound g vs H Q E → t_read_bound g { nx := fun _ H' => Q .non H', rt := Q } (start N_read_bound vs) H) : Okf P w g mg base 5 "read_bound" ["reader"] (sp_read_bound g) := by
  obtain ⟨f_Reader_step, d_Reader_step, F_Reader_step, me_Reader_step, b_Reader_step⟩ := O_Reader_step
  obtain ⟨f_read_name, d_read_name, F_read_name, m_read_name, k_read_name, b_read_name⟩ := O_read_name
  obtain ⟨f_Reader_at, d_Reader_at, F_Reader_at, me_Reader_at, b_Reader_at⟩ := O_Reader_at
  obtain ⟨f_Reader_stop, d_Reader_stop, F_Reader_stop, me_Reader_stop, b_Reader_stop⟩ := O_Reader_stop
  obtain ⟨f, fd, F, m, b⟩ := D
  refine ⟨f, fd, ?_, m, F.kp, b⟩
  refine F.ok (k := 4) sc_read_bound len (fun cdv A outer s H vs Q E hr h => ?_)
  have hu := hu_of hr
  exact ⟨t_read_bound g, (pss_cons (ps_par (by rfl) sc_read_bound.nd rfl rfl (by decide) rfl rfl (pa_cons (pe_meth0 (pv 0) T.cl_Reader me_Reader_step F_Reader_step (hr.mono (by decide)) b_Reader_step .nil pass0) (pa_cons (pe_lst pa_nil) pa_nil)) (by rfl)) (pss_cons (ps_while PassesOwn.never (pt_val pe_bl) (pss_cons (ps_set (i := 3) sc_read_bound.nd rfl (by first | exact Or.inl rfl | exact Or.inr rfl) (pe_call F_read_name (hr.mono (by decide)) rfl m_read_name k_read_name b_read_name .nil pass0 (pa_cons (pv 0) pa_nil))) (pss_cons (ps_if (pt_cmpR op_isN1 (pv 3) pe_non (nomark _)) (pss_one ps_retN) pss_nil) (pss_cons (ps_expr (pe_bm PySem.F.plainAttrs_list PySem.F.slot_list_append PySem.F.type_list_append mt_append (pv 2) (pa_cons (pv 3) pa_nil))) (pss_cons (ps_if (pt_not (pt_val (pe_meth (pv 0) T.cl_Reader me_Reader_at F_Reader_at (hr.mono (by decide)) b_Reader_at .nil pass0 (pa_cons pe_str (pa_cons (pe_tup (pa_cons pe_str pa_nil)) pa_nil))))) (pss_one ps_break) pss_nil) (pss_one (ps_expr (pe_meth0 (pv 0) T.cl_Reader me_Reader_step F_Reader_step (hr.mono (by decide)) b_Reader_step .nil pass0)))))))) (pss_cons (ps_if (pt_not (pt_val (pe_meth (pv 0) T.cl_Reader me_Reader_at F_Reader_at (hr.mono (by decide)) b_Reader_at .nil pass0 (pa_cons pe_str (pa_cons (pe_tup (pa_cons pe_str pa_nil)) pa_nil))))) (pss_cons (ps_expr (pe_meth (pv 0) T.cl_Reader me_Reader_stop F_Reader_stop (hr.mono (by decide)) b_Reader_stop .nil pass0 (pa_cons (pe_tup pa_nil) (pa_cons (pe_tup pa_nil) pa_nil)))) (pss_one ps_retN)) pss_nil) (pss_cons (ps_expr (pe_meth0 (pv 0) T.cl_Reader me_Reader_step F_Reader_step (hr.mono (by decide)) b_Reader_step .nil pass0)) (pss_cons (ps_expr (pe_bm PySem.F.plainAttrs_list PySem.F.slot_list_append PySem.F.type_list_append mt_append (pe_fld (pv 0) rfl) (pa_cons (pe_tup (pa_cons (pv 1) (pa_cons (pv 2) (pa_cons (pe_callB call_lenA (by rfl) T.b_len PySem.boot_len (pa_cons (pe_fld (pv 0) rfl) pa_nil)) pa_nil)))) pa_nil))) (pss_one (ps_fld (pv 0) (pe_op op_cat (pe_fld (pv 0) rfl) (pv 2)) rfl))))))), pure vs H Q E h⟩
theorem ok_read_unit {P : Program} {w : World} {g : G8} {mg : Str → Option Value} {base : Heap} (T : Tx g mg) (D : DefF g mg "read_unit" s_read_unit ["reader"]) (O_Reader_at : Okm P w g mg base 1 g.Reader "at" ["self", "kind", "tokens"] (sp_Reader_at g)) (O_Reader_step : Okm P w g mg base 3 g.Reader "step" ["self"] (sp_Reader_step g)) (O_read_bound : Okf P w g mg base 5 "read_bound" ["reader"] (sp_read_bound g)) (len : ∀ vs H Q E, sp_read_unit g vs H Q E → vs.length = 1) (pure : ∀ vs H Q E, sp_read_unit g vs H Q E → t_read_unit g { nx := fun _ H' => Q .non H', rt := Q } (start N_read_unit vs) H) : Okf P w g mg base 6 "read_unit" ["reader"] (sp_read_unit g) := by
  obtain ⟨f_Reader_at, d_Reader_at, F_Reader_at, me_Reader_at, b_Reader_at⟩ := O_Reader_at
  obtain ⟨f_Reader_step, d_Reader_step, F_Reader_step, me_Reader_step, b_Reader_step⟩ := O_Reader_step
  obtain ⟨f_read_bound, d_read_bound, F_read_bound, m_read_bound, k_read_bound, b_read_bound⟩ := O_read_bound
  obtain ⟨f, fd, F, m, b⟩ := D
  refine ⟨f, fd, ?_, m, F.kp, b⟩
  refine F.ok (k := 5) sc_read_unit len (fun cdv A outer s H vs Q E hr h => ?_)
  have hu := hu_of hr
  exact ⟨t_read_unit g, (pss_one (ps_if (PW.pt (pw_or (pt_val (pe_meth (pv 0) T.cl_Reader me_Reader_at F_Reader_at (hr.mono (by decide)) b_Reader_at .nil pass0 (pa_cons pe_str (pa_cons (pe_tup (pa_cons pe_str pa_nil)) pa_nil)))) (pw_or1 (pt_val (pe_meth (pv 0) T.cl_Reader me_Reader_at F_Reader_at (hr.mono (by decide)) b_Reader_at .nil pass0 (pa_cons pe_str (pa_cons (pe_tup (pa_cons pe_str pa_nil)) pa_nil))))))) (pss_one (ps_expr (pe_bm PySem.F.plainAttrs_list PySem.F.slot_list_append PySem.F.type_list_append mt_append (pe_fld (pv 0) rfl) (pa_cons (pe_tup (pa_cons (pe_meth0 (pv 0) T.cl_Reader me_Reader_step F_Reader_step (hr.mono (by decide)) b_Reader_step .nil pass0) pa_nil)) pa_nil)))) (pss_one (ps_if (pt_val (pe_meth (pv 0) T.cl_Reader me_Reader_at F_Reader_at (hr.mono (by decide)) b_Reader_at .nil pass0 (pa_cons pe_str (pa_cons (pe_tup (pa_cons pe_str (pa_cons pe_str pa_nil))) pa_nil)))) (pss_one (ps_expr (pe_call F_read_bound (hr.mono (by decide)) rfl m_read_bound k_read_bound b_read_bound .nil pass0 (pa_cons (pv 0) pa_nil)))) (pss_one (ps_asg (pe_tup (pa_cons pe_str (pa_cons (pe_tup (pa_cons pe_str (pa_cons pe_str (pa_cons pe_str pa_nil)))) pa_nil))) (pg_tup (by rfl) (pgs_cons (pg_attr (pv 0)) (pgs_cons (pg_attr (pv 0)) pgs_nil))))))))), pure vs H Q E h⟩
theorem ok_read_term {P : Program} {w : World} {g : G8} {mg : Str → Option Value} {base : Heap} (T : Tx g mg) (D : DefF g mg "read_term" s_read_term ["reader"]) (O_Reader_at : Okm P w g mg base 1 g.Reader "at" ["self", "kind", "tokens"] (sp_Reader_at g)) (O_Reader_step : Okm P w g mg base 3 g.Reader "step" ["self"] (sp_Reader_step g)) (len : ∀ vs H Q E, sp_read_term g vs H Q E → vs.length = 1) (pure : ∀ vs H Q E, sp_read_term g vs H Q E → t_read_term g { nx := fun _ H' => Q .non H', rt := Q } (start N_read_term vs) H) : Okf P w g mg base 4 "read_term" ["reader"] (sp_read_term g) := by
  obtain ⟨f_Reader_at, d_Reader_at, F_Reader_at, me_Reader_at, b_Reader_at⟩ := O_Reader_at
  obtain ⟨f_Reader_step, d_Reader_step, F_Reader_step, me_Reader_step, b_Reader_step⟩ := O_Reader_step
  obtain ⟨f, fd, F, m, b⟩ := D
  refine ⟨f, fd, ?_, m, F.kp, b⟩
  refine F.ok (k := 3) sc_read_term len (fun cdv A outer s H vs Q E hr h => ?_)
  have hu := hu_of hr
  exact ⟨t_read_term g, (pss_cons (ps_fld (pv 0) pe_str rfl) (pss_one (ps_if (pt_val (pe_meth (pv 0) T.cl_Reader me_Reader_at F_Reader_at (hr.mono (by decide)) b_Reader_at .nil pass0 (pa_cons pe_str (pa_cons (pe_tup (pa_cons pe_str pa_nil)) pa_nil)))) (pss_cons (ps_expr (pe_meth0 (pv 0) T.cl_Reader me_Reader_step F_Reader_step (hr.mono (by decide)) b_Reader_step .nil pass0)) (pss_cons (ps_expr (pe_bm PySem.F.plainAttrs_list PySem.F.slot_list_append PySem.F.type_list_append mt_append (pe_fld (pv 0) rfl) (pa_cons (pe_tup (pa_cons pe_str pa_nil)) pa_nil))) (pss_one (ps_fld (pv 0) (pe_tup pa_nil) rfl)))) pss_nil))), pure vs H Q E h⟩
theorem ok_read_base {P : Program} {w : World} {g : G8} {mg : Str → Option Value} {base : Heap} (T : Tx g mg) (D : DefF g mg "read_base" s_read_base ["reader"]) (O_Reader_at : Okm P w g mg base 1 g.Reader "at" ["self", "kind", "tokens"] (sp_Reader_at g)) (O_Reader_step : Okm P w g mg base 3 g.Reader "step" ["self"] (sp_Reader_step g)) (O_read_number : Okf P w g mg base 4 "read_number" ["reader", "most"] (sp_read_number g)) (O_Reader_stop : Okm P w g mg base 2 g.Reader "stop" ["self", "words", "signs"] (sp_Reader_stop g)) (len : ∀ vs H Q E, sp_read_base g vs H Q E → vs.length = 1) (pure : ∀ vs H Q E, sp_read_base g vs H Q E → t_read_base g { nx := fun _ H' => Q .non H', rt := Q } (start N_read_base vs) H) : Okf P w g mg base 5 "read_base" ["reader"] (sp_read_base g) := by
  obtain ⟨f_Reader_at, d_Reader_at, F_Reader_at, me_Reader_at, b_Reader_at⟩ := O_Reader_at
  obtain ⟨f_Reader_step, d_Reader_step, F_Reader_step, me_Reader_step, b_Reader_step⟩ := O_Reader_step
  obtain ⟨f_read_number, d_read_number, F_read_number, m_read_number, k_read_number, b_read_number⟩ := O_read_number
  obtain ⟨f_Reader_stop, d_Reader_stop, F_Reader_stop, me_Reader_stop, b_Reader_stop⟩ := O_Reader_stop
  obtain ⟨f, fd, F, m, b⟩ := D
  refine ⟨f, fd, ?_, m, F.kp, b⟩
  refine F.ok (k := 4) sc_read_base len (fun cdv A outer s H vs Q E hr h => ?_)
  have hu := hu_of hr
  exact ⟨t_read_base g, (pss_cons (ps_if (pt_val (pe_meth (pv 0) T.cl_Reader me_Reader_at F_Reader_at (hr.mono (by decide)) b_Reader_at .nil pass0 (pa_cons pe_str (pa_cons (pe_tup (pa_cons pe_str pa_nil)) pa_nil)))) (pss_cons (ps_expr (pe_bm PySem.F.plainAttrs_list PySem.F.slot_list_append PySem.F.type_list_append mt_append (pe_fld (pv 0) rfl) (pa_cons (pe_tup (pa_cons (pe_meth0 (pv 0) T.cl_Reader me_Reader_step F_Reader_step (hr.mono (by decide)) b_Reader_step .nil pass0) pa_nil)) pa_nil))) (pss_cons (ps_asg (pe_tup (pa_cons pe_str (pa_cons (pe_tup pa_nil) pa_nil))) (pg_tup (by rfl) (pgs_cons (pg_attr (pv 0)) (pgs_cons (pg_attr (pv 0)) pgs_nil)))) (pss_one ps_retN))) pss_nil) (pss_cons (ps_if (pt_cmpR op_eq (pe_fld (pv 0) rfl) pe_str (nomark _)) (pss_cons (ps_set (i := 1) sc_read_base.nd rfl (by first | exact Or.inl rfl | exact Or.inr rfl) (pe_call F_read_number (hr.mono (by decide)) rfl m_read_number k_read_number b_read_number .nil pass0 (pa_cons (pv 0) (pa_cons (pe_glob rfl T.m_MOST_FIGURES ⟨_, rfl⟩) pa_nil)))) (pss_one (ps_fld (pv 0) (pe_tup (pa_cons pe_str (pa_cons (pv 1) pa_nil))) rfl))) (pss_one (ps_if (PW.pt (pw_and (pt_cmpR op_eq (pe_fld (pv 0) rfl) pe_str (nomark _)) (pw_and1 (pt_cmpR op_in_seq (pe_fld (pv 0) rfl) (pe_fld (pv 0) rfl) (by rfl))))) (pss_one (ps_fld (pv 0) (pe_tup (pa_cons pe_str (pa_cons (pe_meth0 (pv 0) T.cl_Reader me_Reader_step F_Reader_step (hr.mono (by decide)) b_Reader_step .nil pass0) pa_nil))) rfl)) (pss_one (ps_expr (pe_meth (pv 0) T.cl_Reader me_Reader_stop F_Reader_stop (hr.mono (by decide)) b_Reader_stop .nil pass0 (pa_cons (pe_op op_catA (pe_callTy call_tupA (by rfl) T.b_tuple (by decide +kernel) (pa_cons (pe_fld (pv 0) rfl) pa_nil)) (pe_fld (pv 0) rfl)) (pa_cons (pe_tup pa_nil) pa_nil)))))))) (pss_one (ps_asg (pe_tup (pa_cons pe_str (pa_cons (pe_tup pa_nil) (pa_cons pe_bl pa_nil)))) (pg_tup (by rfl) (pgs_cons (pg_attr (pv 0)) (pgs_cons (pg_attr (pv 0)) (pgs_cons (pg_attr (pv 0)) pgs_nil)))))))), pure vs H Q E h⟩
theorem ok_join_open {P : Program} {w : World} {g : G8} {mg : Str → Option Value} {base : Heap} (T : Tx g mg) (D : DefF g mg "join_open" s_join_open ["reader", "heads"]) (O_Reader_top : Okm P w g mg base 1 g.Reader "top" ["self"] (sp_Reader_top g)) (len : ∀ vs H Q E, sp_join_open g vs H Q E → vs.length = 2) (pure : ∀ vs H Q E, sp_join_open g vs H Q E → t_join_open g { nx := fun _ H' => Q .non H', rt := Q } (start N_join_open vs) H) : Okf P w g mg base 2 "join_open" ["reader", "heads"] (sp_join_open g) := by
  obtain ⟨f_Reader_top, d_Reader_top, F_Reader_top, me_Reader_top, b_Reader_top⟩ := O_Reader_top
  obtain ⟨f, fd, F, m, b⟩ := D
  refine ⟨f, fd, ?_, m, F.kp, b⟩
  refine F.ok (k := 1) sc_join_open len (fun cdv A outer s H vs Q E hr h => ?_)
  have hu := hu_of hr
  exact ⟨t_join_open g, (pss_cons (ps_if (pt_cmpR op_notIn_seq (pe_meth0 (pv 0) T.cl_Reader me_Reader_top F_Reader_top (hr.mono (by decide)) b_Reader_top .nil pass0) (pv 1) (by rfl)) (pss_one (ps_ret pe_bl)) pss_nil) (pss_cons (ps_set (i := 2) sc_join_open.nd rfl (by first | exact Or.inl rfl | exact Or.inr rfl) (pe_bm0 PySem.F.plainAttrs_list PySem.F.slot_list_pop PySem.F.type_list_pop mt_pop (pe_fld (pv 0) rfl))) (pss_cons (ps_fld (pv 0) (pe_op op_catA (pe_op op_catA (pe_tup (pa_cons (pe_ix ix_seq (pv 2) pe_int (fun _ _ => rfl)) pa_nil)) (pe_slice sl_tup (pv 2) (po_some pe_int) po_none)) (pe_tup (pa_cons (pe_fld (pv 0) rfl) pa_nil))) rfl) (pss_one (ps_ret pe_bl))))), pure vs H Q E h⟩
end Dy
end
section
set_option maxHeartbeats 4000019
namespace Dy
open PySem L2 Evl Mi
theorem ok_go_on {P : Program} {w : World} {g : G8} {mg : Str → Option Value} {base : Heap} (T : Tx g mg) (D : DefF g mg "go_on" s_go_on ["reader", "kind", "tokens", "head", "wanted"]) (O_Reader_at : Okm P w g mg base 1 g.Reader "at" ["self", "kind", "tokens"] (sp_Reader_at g)) (O_Reader_step : Okm P w g mg base 3 g.Reader "step" ["self"] (sp_Reader_step g)) (len : ∀ vs H Q E, sp_go_on g vs H Q E → vs.length = 5) (pure : ∀ vs H Q E, sp_go_on g vs H Q E → t_go_on g { nx := fun _ H' => Q .non H', rt := Q } (start N_go_on vs) H) : Okf P w g mg base 4 "go_on" ["reader", "kind", "tokens", "head", "wanted"] (sp_go_on g) := by
  obtain ⟨f_Reader_at, d_Reader_at, F_Reader_at, me_Reader_at, b_Reader_at⟩ := O_Reader_at
  obtain ⟨f_Reader_step, d_Reader_step, F_Reader_step, me_Reader_step, b_Reader_step⟩ := O_Reader_step
  obtain ⟨f, fd, F, m, b⟩ := D
  refine ⟨f, fd, ?_, m, F.kp, b⟩
  refine F.ok (k := 3) sc_go_on len (fun cdv A outer s H vs Q E hr h => ?_)
  have hu := hu_of hr
  exact ⟨t_go_on g, (pss_cons (ps_if (pt_not (pt_val (pe_meth (pv 0) T.cl_Reader me_Reader_at F_Reader_at (hr.mono (by decide)) b_Reader_at .nil pass0 (pa_cons (pv 1) (pa_cons (pv 2) pa_nil))))) (pss_one (ps_ret pe_bl)) pss_nil) (pss_cons (ps_expr (pe_meth0 (pv 0) T.cl_Reader me_Reader_step F_Reader_step (hr.mono (by decide)) b_Reader_step .nil pass0)) (pss_cons (ps_expr (pe_bm PySem.F.plainAttrs_list PySem.F.slot_list_append PySem.F.type_list_append mt_append (pe_fld (pv 0) rfl) (pa_cons (pe_tup (pa_cons (pv 3) (pa_cons (pe_fld (pv 0) rfl) pa_nil))) pa_nil))) (pss_cons (ps_fld (pv 0) (pv 4) rfl) (pss_one (ps_ret pe_bl)))))), pure vs H Q E h⟩
theorem ok_read_more {P : Program} {w : World} {g : G8} {mg : Str → Option Value} {base : Heap} (T : Tx g mg) (D : DefF g mg "read_more" s_read_more ["reader"]) (O_Reader_at : Okm P w g mg base 1 g.Reader "at" ["self", "kind", "tokens"] (sp_Reader_at g)) (O_Reader_step : Okm P w g mg base 3 g.Reader "step" ["self"] (sp_Reader_step g)) (O_read_number : Okf P w g mg base 4 "read_number" ["reader", "most"] (sp_read_number g)) (O_join_open : Okf P w g mg base 2 "join_open" ["reader", "heads"] (sp_join_open g)) (O_go_on : Okf P w g mg base 4 "go_on" ["reader", "kind", "tokens", "head", "wanted"] (sp_go_on g)) (O_Reader_top : Okm P w g mg base 1 g.Reader "top" ["self"] (sp_Reader_top g)) (O_close_bracket : Okf P w g mg base 4 "close_bracket" ["reader"] (sp_close_bracket g)) (O_Reader_stop : Okm P w g mg base 2 g.Reader "stop" ["self", "words", "signs"] (sp_Reader_stop g)) (len : ∀ vs H Q E, sp_read_more g vs H Q E → vs.length = 1) (pure : ∀ vs H Q E, sp_read_more g vs H Q E → t_read_more g { nx := fun _ H' => Q .non H', rt := Q } (start N_read_more vs) H) : Okf P w g mg base 5 "read_more" ["reader"] (sp_read_more g) := by
  obtain ⟨f_Reader_at, d_Reader_at, F_Reader_at, me_Reader_at, b_Reader_at⟩ := O_Reader_at
  obtain ⟨f_Reader_step, d_Reader_step, F_Reader_step, me_Reader_step, b_Reader_step⟩ := O_Reader_step
  obtain ⟨f_read_number, d_read_number, F_read_number, m_read_number, k_read_number, b_read_number⟩ := O_read_number
  obtain ⟨f_join_open, d_join_open, F_join_open, m_join_open, k_join_open, b_join_open⟩ := O_join_open
  obtain ⟨f_go_on, d_go_on, F_go_on, m_go_on, k_go_on, b_go_on⟩ := O_go_on
  obtain ⟨f_Reader_top, d_Reader_top, F_Reader_top, me_Reader_top, b_Reader_top⟩ := O_Reader_top
  obtain ⟨f_close_bracket, d_close_bracket, F_close_bracket, m_close_bracket, k_close_bracket, b_close_bracket⟩ := O_close_bracket
  obtain ⟨f_Reader_stop, d_Reader_stop, F_Reader_stop, me_Reader_stop, b_Reader_stop⟩ := O_Reader_stop
  obtain ⟨f, fd, F, m, b⟩ := D
  refine ⟨f, fd, ?_, m, F.kp, b⟩
  refine F.ok (k := 4) sc_read_more len (fun cdv A outer s H vs Q E hr h => ?_)
  have hu := hu_of hr
  exact ⟨t_read_more g, (pss_cons (ps_if (PW.pt (pw_and (pt_val (pe_fld (pv 0) rfl)) (pw_and1 (pt_val (pe_meth (pv 0) T.cl_Reader me_Reader_at F_Reader_at (hr.mono (by decide)) b_Reader_at .nil pass0 (pa_cons pe_str (pa_cons (pe_tup (pa_cons pe_str pa_nil)) pa_nil))))))) (pss_cons (ps_expr (pe_meth0 (pv 0) T.cl_Reader me_Reader_step F_Reader_step (hr.mono (by decide)) b_Reader_step .nil pass0)) (pss_cons (ps_fld (pv 0) (pe_tup (pa_cons pe_str (pa_cons (pe_fld (pv 0) rfl) (pa_cons (pe_call F_read_number (hr.mono (by decide)) rfl m_read_number k_read_number b_read_number .nil pass0 (pa_cons (pv 0) (pa_cons pe_int pa_nil))) pa_nil)))) rfl) (pss_cons (ps_fld (pv 0) pe_bl rfl) (pss_one ps_retN)))) pss_nil) (pss_cons (ps_expr (pe_call F_join_open (hr.mono (by decide)) rfl m_join_open k_join_open b_join_open .nil pass0 (pa_cons (pv 0) (pa_cons (pe_tup (pa_cons pe_str pa_nil)) pa_nil)))) (pss_cons (ps_if (pt_val (pe_call F_go_on (hr.mono (by decide)) rfl m_go_on k_go_on b_go_on .nil pass0 (pa_cons (pv 0) (pa_cons pe_str (pa_cons (pe_tup (pa_cons pe_str pa_nil)) (pa_cons pe_str (pa_cons pe_str pa_nil))))))) (pss_one ps_retN) pss_nil) (pss_cons (ps_expr (pe_call F_join_open (hr.mono (by decide)) rfl m_join_open k_join_open b_join_open .nil pass0 (pa_cons (pv 0) (pa_cons (pe_tup (pa_cons pe_str (pa_cons pe_str (pa_cons pe_str pa_nil)))) pa_nil)))) (pss_cons (ps_if (PW.pt (pw_or (pt_val (pe_call F_go_on (hr.mono (by decide)) rfl m_go_on k_go_on b_go_on .nil pass0 (pa_cons (pv 0) (pa_cons pe_str (pa_cons (pe_tup (pa_cons pe_str pa_nil)) (pa_cons pe_str (pa_cons pe_str pa_nil))))))) (pw_or1 (pt_val (pe_call F_go_on (hr.mono (by decide)) rfl m_go_on k_go_on b_go_on .nil pass0 (pa_cons (pv 0) (pa_cons pe_str (pa_cons (pe_tup (pa_cons pe_str pa_nil)) (pa_cons pe_str (pa_cons pe_str pa_nil)))))))))) (pss_one ps_retN) pss_nil) (pss_one (ps_if (pt_cmpR op_eq (pe_meth0 (pv 0) T.cl_Reader me_Reader_top F_Reader_top (hr.mono (by decide)) b_Reader_top .nil pass0) pe_str (nomark _)) (pss_one (ps_expr (pe_call F_close_bracket (hr.mono (by decide)) rfl m_close_bracket k_close_bracket b_close_bracket .nil pass0 (pa_cons (pv 0) pa_nil)))) (pss_one (ps_if (pt_val (pe_call F_join_open (hr.mono (by decide)) rfl m_join_open k_join_open b_join_open .nil pass0 (pa_cons (pv 0) (pa_cons (pe_glob rfl T.m_RELATIONS rfl) pa_nil)))) (pss_one (ps_fld (pv 0) pe_str rfl)) (pss_one (ps_if (PW.pt (pw_and (pt_cmpR op_eq (pe_fld (pv 0) rfl) pe_str (nomark _)) (pw_and1 (pt_cmpR op_in_seq (pe_fld (pv 0) rfl) (pe_glob rfl T.m_RELATIONS rfl) (by rfl))))) (pss_one (ps_expr (pe_call F_go_on (hr.mono (by decide)) rfl m_go_on k_go_on b_go_on .nil pass0 (pa_cons (pv 0) (pa_cons pe_str (pa_cons (pe_glob rfl T.m_RELATIONS rfl) (pa_cons (pe_fld (pv 0) rfl) (pa_cons pe_str pa_nil)))))))) (pss_one (ps_expr (pe_meth (pv 0) T.cl_Reader me_Reader_stop F_Reader_stop (hr.mono (by decide)) b_Reader_stop .nil pass0 (pa_cons (pe_tup pa_nil) (pa_cons (pe_glob rfl T.m_RELATIONS rfl) pa_nil)))))))))))))))), pure vs H Q E h⟩
theorem ok_close_bracket {P : Program} {w : World} {g : G8} {mg : Str → Option Value} {base : Heap} (T : Tx g mg) (D : DefF g mg "close_bracket" s_close_bracket ["reader"]) (O_Reader_at : Okm P w g mg base 1 g.Reader "at" ["self", "kind", "tokens"] (sp_Reader_at g)) (O_Reader_step : Okm P w g mg base 3 g.Reader "step" ["self"] (sp_Reader_step g)) (O_Reader_stop : Okm P w g mg base 2 g.Reader "stop" ["self", "words", "signs"] (sp_Reader_stop g)) (len : ∀ vs H Q E, sp_close_bracket g vs H Q E → vs.length = 1) (pure : ∀ vs H Q E, sp_close_bracket g vs H Q E → t_close_bracket g { nx := fun _ H' => Q .non H', rt := Q } (start N_close_bracket vs) H) : Okf P w g mg base 4 "close_bracket" ["reader"] (sp_close_bracket g) := by
  obtain ⟨f_Reader_at, d_Reader_at, F_Reader_at, me_Reader_at, b_Reader_at⟩ := O_Reader_at
  obtain ⟨f_Reader_step, d_Reader_step, F_Reader_step, me_Reader_step, b_Reader_step⟩ := O_Reader_step
  obtain ⟨f_Reader_stop, d_Reader_stop, F_Reader_stop, me_Reader_stop, b_Reader_stop⟩ := O_Reader_stop
  obtain ⟨f, fd, F, m, b⟩ := D
  refine ⟨f, fd, ?_, m, F.kp, b⟩
  refine F.ok (k := 3) sc_close_bracket len (fun cdv A outer s H vs Q E hr h => ?_)
  have hu := hu_of hr
  exact ⟨t_close_bracket g, (pss_one (ps_if (pt_val (pe_meth (pv 0) T.cl_Reader me_Reader_at F_Reader_at (hr.mono (by decide)) b_Reader_at .nil pass0 (pa_cons pe_str (pa_cons (pe_tup (pa_cons pe_str pa_nil)) pa_nil)))) (pss_cons (ps_expr (pe_meth0 (pv 0) T.cl_Reader me_Reader_step F_Reader_step (hr.mono (by decide)) b_Reader_step .nil pass0)) (pss_cons (ps_expr (pe_bm0 PySem.F.plainAttrs_list PySem.F.slot_list_pop PySem.F.type_list_pop mt_pop (pe_fld (pv 0) rfl))) (pss_one (ps_fld (pv 0) pe_bl rfl)))) (pss_one (ps_expr (pe_meth (pv 0) T.cl_Reader me_Reader_stop F_Reader_stop (hr.mono (by decide)) b_Reader_stop .nil pass0 (pa_cons (pe_tup pa_nil) (pa_cons (pe_tup pa_nil) pa_nil))))))), pure vs H Q E h⟩
theorem ok_read_joined {P : Program} {w : World} {g : G8} {mg : Str → Option Value} {base : Heap} (T : Tx g mg) (D : DefF g mg "read_joined" s_read_joined ["reader"]) (O_join_open : Okf P w g mg base 2 "join_open" ["reader", "heads"] (sp_join_open g)) (O_go_on : Okf P w g mg base 4 "go_on" ["reader", "kind", "tokens", "head", "wanted"] (sp_go_on g)) (O_Reader_top : Okm P w g mg base 1 g.Reader "top" ["self"] (sp_Reader_top g)) (O_Reader_at : Okm P w g mg base 1 g.Reader "at" ["self", "kind", "tokens"] (sp_Reader_at g)) (O_Reader_step : Okm P w g mg base 3 g.Reader "step" ["self"] (sp_Reader_step g)) (O_Reader_stop : Okm P w g mg base 2 g.Reader "stop" ["self", "words", "signs"] (sp_Reader_stop g)) (len : ∀ vs H Q E, sp_read_joined g vs H Q E → vs.length = 1) (pure : ∀ vs H Q E, sp_read_joined g vs H Q E → t_read_joined g { nx := fun _ H' => Q .non H', rt := Q } (start N_read_joined vs) H) : Okf P w g mg base 5 "read_joined" ["reader"] (sp_read_joined g) := by
  obtain ⟨f_join_open, d_join_open, F_join_open, m_join_open, k_join_open, b_join_open⟩ := O_join_open
  obtain ⟨f_go_on, d_go_on, F_go_on, m_go_on, k_go_on, b_go_on⟩ := O_go_on
  obtain ⟨f_Reader_top, d_Reader_top, F_Reader_top, me_Reader_top, b_Reader_top⟩ := O_Reader_top
  obtain ⟨f_Reader_at, d_Reader_at, F_Reader_at, me_Reader_at, b_Reader_at⟩ := O_Reader_at
  obtain ⟨f_Reader_step, d_Reader_step, F_Reader_step, me_Reader_step, b_Reader_step⟩ := O_Reader_step
  obtain ⟨f_Reader_stop, d_Reader_stop, F_Reader_stop, me_Reader_stop, b_Reader_stop⟩ := O_Reader_stop
  obtain ⟨f, fd, F, m, b⟩ := D
  refine ⟨f, fd, ?_, m, F.kp, b⟩
  refine F.ok (k := 4) sc_read_joined len (fun cdv A outer s H vs Q E hr h => ?_)
  have hu := hu_of hr
  exact ⟨t_read_joined g, (pss_cons (ps_while PassesOwn.never (pt_val (pe_call F_join_open (hr.mono (by decide)) rfl m_join_open k_join_open b_join_open .nil pass0 (pa_cons (pv 0) (pa_cons (pe_tup (pa_cons pe_str pa_nil)) pa_nil)))) (pss_one ps_pass)) (pss_cons (ps_expr (pe_call F_join_open (hr.mono (by decide)) rfl m_join_open k_join_open b_join_open .nil pass0 (pa_cons (pv 0) (pa_cons (pe_tup (pa_cons pe_str pa_nil)) pa_nil)))) (pss_cons (ps_if (pt_val (pe_call F_go_on (hr.mono (by decide)) rfl m_go_on k_go_on b_go_on .nil pass0 (pa_cons (pv 0) (pa_cons pe_str (pa_cons (pe_tup (pa_cons pe_str pa_nil)) (pa_cons pe_str (pa_cons pe_str pa_nil))))))) (pss_one ps_retN) pss_nil) (pss_cons (ps_expr (pe_call F_join_open (hr.mono (by decide)) rfl m_join_open k_join_open b_join_open .nil pass0 (pa_cons (pv 0) (pa_cons (pe_tup (pa_cons pe_str pa_nil)) pa_nil)))) (pss_cons (ps_if (pt_val (pe_call F_go_on (hr.mono (by decide)) rfl m_go_on k_go_on b_go_on .nil pass0 (pa_cons (pv 0) (pa_cons pe_str (pa_cons (pe_tup (pa_cons pe_str pa_nil)) (pa_cons pe_str (pa_cons pe_str pa_nil))))))) (pss_one ps_retN) pss_nil) (pss_cons (ps_for PassesOwn.never rfl (pi_tup (pe_tup (pa_cons pe_str (pa_cons pe_str pa_nil)))) (pg_name (i := 1) sc_read_joined.nd rfl (by first | exact Or.inl rfl | exact Or.inr rfl)) (pss_one (ps_if (pt_val (pe_call F_go_on (hr.mono (by decide)) rfl m_go_on k_go_on b_go_on .nil pass0 (pa_cons (pv 0) (pa_cons pe_str (pa_cons (pe_tup (pa_cons (pv 1) pa_nil)) (pa_cons (pv 1) (pa_cons pe_str pa_nil))))))) (pss_one ps_retN) pss_nil))) (pss_cons (ps_while PassesOwn.never (pt_val (pe_call F_join_open (hr.mono (by decide)) rfl m_join_open k_join_open b_join_open .nil pass0 (pa_cons (pv 0) (pa_cons (pe_tup (pa_cons pe_str (pa_cons pe_str pa_nil))) pa_nil)))) (pss_one ps_pass)) (pss_one (ps_if (pt_cmpR op_in_seq (pe_meth0 (pv 0) T.cl_Reader me_Reader_top F_Reader_top (hr.mono (by decide)) b_Reader_top .nil pass0) (pe_tup (pa_cons pe_str (pa_cons pe_str pa_nil))) (by rfl)) (pss_cons (ps_asg (pe_bm0 PySem.F.plainAttrs_list PySem.F.slot_list_pop PySem.F.type_list_pop mt_pop (pe_fld (pv 0) rfl)) (pg_tup (by rfl) (pgs_cons (pg_name (i := 1) sc_read_joined.nd rfl (by first | exact Or.inl rfl | exact Or.inr rfl)) (pgs_cons (pg_name (i := 2) sc_read_joined.nd rfl (by first | exact Or.inl rfl | exact Or.inr rfl)) (pgs_cons (pg_name (i := 3) sc_read_joined.nd rfl (by first | exact Or.inl rfl | exact Or.inr rfl)) pgs_nil))))) (pss_cons (ps_fld (pv 0) (pe_slice sl_list (pe_fld (pv 0) rfl) po_none (po_some (pv 3))) rfl) (pss_one (ps_for PassesOwn.never rfl (pi_list (pe_revL (pv 2))) (pg_name (i := 4) sc_read_joined.nd rfl (by first | exact Or.inl rfl | exact Or.inr rfl)) (pss_one (ps_fld (pv 0) (pe_tup (pa_cons (pv 1) (pa_cons (pv 4) (pa_cons (pe_fld (pv 0) rfl) pa_nil)))) rfl)))))) (pss_one (ps_if (PW.pt (pw_and (pt_cmpR op_eq (pe_meth0 (pv 0) T.cl_Reader me_Reader_top F_Reader_top (hr.mono (by decide)) b_Reader_top .nil pass0) pe_str (nomark _)) (pw_and1 (pt_val (pe_meth (pv 0) T.cl_Reader me_Reader_at F_Reader_at (hr.mono (by decide)) b_Reader_at .nil pass0 (pa_cons pe_str (pa_cons (pe_tup (pa_cons pe_str pa_nil)) pa_nil))))))) (pss_cons (ps_expr (pe_meth0 (pv 0) T.cl_Reader me_Reader_step F_Reader_step (hr.mono (by decide)) b_Reader_step .nil pass0)) (pss_one (ps_expr (pe_bm0 PySem.F.plainAttrs_list PySem.F.slot_list_pop PySem.F.type_list_pop mt_pop (pe_fld (pv 0) rfl))))) (pss_one (ps_if (PW.pt (pw_and (pt_cmpR op_eq (pe_meth0 (pv 0) T.cl_Reader me_Reader_top F_Reader_top (hr.mono (by decide)) b_Reader_top .nil pass0) pe_str (nomark _)) (pw_and1 (pt_cmpR op_eq (pe_fld (pv 0) rfl) pe_str (nomark _))))) (pss_one (ps_fld (pv 0) pe_str rfl)) (pss_one (ps_expr (pe_meth (pv 0) T.cl_Reader me_Reader_stop F_Reader_stop (hr.mono (by decide)) b_Reader_stop .nil pass0 (pa_cons (pe_tup (pa_cons pe_str (pa_cons pe_str (pa_cons pe_str (pa_cons pe_str pa_nil))))) (pa_cons (pe_tup pa_nil) pa_nil)))))))))))))))))), pure vs H Q E h⟩
theorem ok_read_next {P : Program} {w : World} {g : G8} {mg : Str → Option Value} {base : Heap} (T : Tx g mg) (D : DefF g mg "read_next" s_read_next ["reader"]) (O_read_unit : Okf P w g mg base 6 "read_unit" ["reader"] (sp_read_unit g)) (O_read_term : Okf P w g mg base 4 "read_term" ["reader"] (sp_read_term g)) (O_read_base : Okf P w g mg base 5 "read_base" ["reader"] (sp_read_base g)) (O_read_more : Okf P w g mg base 5 "read_more" ["reader"] (sp_read_more g)) (O_read_joined : Okf P w g mg base 5 "read_joined" ["reader"] (sp_read_joined g)) (len : ∀ vs H Q E, sp_read_next g vs H Q E → vs.length = 1) (pure : ∀ vs H Q E, sp_read_next g vs H Q E → t_read_next g { nx := fun _ H' => Q .non H', rt := Q } (start N_read_next vs) H) : Okf P w g mg base 7 "read_next" ["reader"] (sp_read_next g) := by
  obtain ⟨f_read_unit, d_read_unit, F_read_unit, m_read_unit, k_read_unit, b_read_unit⟩ := O_read_unit
  obtain ⟨f_read_term, d_read_term, F_read_term, m_read_term, k_read_term, b_read_term⟩ := O_read_term
  obtain ⟨f_read_base, d_read_base, F_read_base, m_read_base, k_read_base, b_read_base⟩ := O_read_base
  obtain ⟨f_read_more, d_read_more, F_read_more, m_read_more, k_read_more, b_read_more⟩ := O_read_more
  obtain ⟨f_read_joined, d_read_joined, F_read_joined, m_read_joined, k_read_joined, b_read_joined⟩ := O_read_joined
  obtain ⟨f, fd, F, m, b⟩ := D
  refine ⟨f, fd, ?_, m, F.kp, b⟩
  refine F.ok (k := 6) sc_read_next len (fun cdv A outer s H vs Q E hr h => ?_)
  have hu := hu_of hr
  exact ⟨t_read_next g, (pss_one (ps_if (pt_cmpR op_eq (pe_fld (pv 0) rfl) pe_str (nomark _)) (pss_one (ps_expr (pe_call F_read_unit (hr.mono (by decide)) rfl m_read_unit k_read_unit b_read_unit .nil pass0 (pa_cons (pv 0) pa_nil)))) (pss_one (ps_if (pt_cmpR op_eq (pe_fld (pv 0) rfl) pe_str (nomark _)) (pss_one (ps_expr (pe_call F_read_term (hr.mono (by decide)) rfl m_read_term k_read_term b_read_term .nil pass0 (pa_cons (pv 0) pa_nil)))) (pss_one (ps_if (pt_cmpR op_eq (pe_fld (pv 0) rfl) pe_str (nomark _)) (pss_one (ps_expr (pe_call F_read_base (hr.mono (by decide)) rfl m_read_base k_read_base b_read_base .nil pass0 (pa_cons (pv 0) pa_nil)))) (pss_one (ps_if (pt_cmpR op_eq (pe_fld (pv 0) rfl) pe_str (nomark _)) (pss_one (ps_expr (pe_call F_read_more (hr.mono (by decide)) rfl m_read_more k_read_more b_read_more .nil pass0 (pa_cons (pv 0) pa_nil)))) (pss_one (ps_expr (pe_call F_read_joined (hr.mono (by decide)) rfl m_read_joined k_read_joined b_read_joined .nil pass0 (pa_cons (pv 0) pa_nil)))))))))))), pure vs H Q E h⟩
theorem ok_need_text {P : Program} {w : World} {g : G8} {mg : Str → Option Value} {base : Heap} (T : Tx g mg) (D : DefF g mg "need_text" s_need_text ["text", "free"]) (O_is_row : Okf P w g mg base 1 "is_row" ["value"] (sp_is_row g)) (O_is_name : Okf P w g mg base 1 "is_name" ["value"] (sp_is_name g)) (len : ∀ vs H Q E, sp_need_text g vs H Q E → vs.length = 2) (pure : ∀ vs H Q E, sp_need_text g vs H Q E → t_need_text g { nx := fun _ H' => Q .non H', rt := Q } (start N_need_text vs) H) : Okf P w g mg base 2 "need_text" ["text", "free"] (sp_need_text g) := by
  obtain ⟨f_is_row, d_is_row, F_is_row, m_is_row, k_is_row, b_is_row⟩ := O_is_row
  obtain ⟨f_is_name, d_is_name, F_is_name, m_is_name, k_is_name, b_is_name⟩ := O_is_name
  obtain ⟨f, fd, F, m, b⟩ := D
  refine ⟨f, fd, ?_, m, F.kp, b⟩
  refine F.ok (k := 1) sc_need_text len (fun cdv A outer s H vs Q E hr h => ?_)
  have hu := hu_of hr
  exact ⟨t_need_text g, (pss_cons (ps_if (pt_not (pt_val (pe_callB call_isi (by rfl) T.b_isinstance (by decide +kernel) (pa_cons (pv 0) (pa_cons (pe_bltn (by rfl) T.b_str (by decide +kernel) rfl) pa_nil))))) (pss_one ps_never) pss_nil) (pss_cons (ps_if (PW.pt (pw_or (pt_not (pt_val (pe_call F_is_row (hr.mono (by decide)) rfl m_is_row k_is_row b_is_row .nil pass0 (pa_cons (pv 1) pa_nil)))) (pw_or (pt_cmpR op_gt (pe_callB call_lenA (by rfl) T.b_len PySem.boot_len (pa_cons (pv 1) pa_nil)) (pe_glob rfl T.m_MOST_FREE ⟨_, rfl⟩) (nomark _)) (pw_or1 (pt_not (pt_val (pe_callB (cr_all rfl) (by rfl) T.b_all (by decide +kernel) (pa_cons (pe_lc (own := [("name", 2)]) (g := gName 2) (tt := tYes) rfl sc_need_text.nd (pi_seq (pv 1)) (blkOk_by (N := N_need_text) (sc := defScope s_need_text) (by decide +kernel)) (fun _ _ _ _ _ => pg_name (i := 2) sc_need_text.nd rfl (Or.inl rfl)) (fun _ _ _ _ _ => pts_nil) (fun _ _ _ _ _ => (pe_call F_is_name (hr.mono (by decide)) rfl m_is_name k_is_name b_is_name .nil pass0 (pa_cons (pv 2) pa_nil)))) pa_nil)))))))) (pss_one ps_never) pss_nil) (pss_one (ps_if (pt_cmpR op_ne (pe_lenSetS rfl (by rfl) T.b_len (by rfl) T.b_set (pv 1)) (pe_callB call_lenA (by rfl) T.b_len PySem.boot_len (pa_cons (pv 1) pa_nil)) (nomark _)) (pss_one ps_never) pss_nil)))), pure vs H Q E h⟩
theorem ok_settled_formula {P : Program} {w : World} {g : G8} {mg : Str → Option Value} {base : Heap} (T : Tx g mg) (D : DefF g mg "settled_formula" s_settled_formula ["text", "free"]) (O_Reader_init : Oki P w g mg base 3 g.Reader ["self", "text", "free"] (sp_Reader_init g)) (O_read_next : Okf P w g mg base 7 "read_next" ["reader"] (sp_read_next g)) (O_Unread_init : Oki P w g mg base 1 g.Unread ["self", "place", "is_end"] (sp_Unread_init g)) (O_Read_init : Oki P w g mg base 1 g.Read ["self", "tree"] (sp_Read_init g)) (len : ∀ vs H Q E, sp_settled_formula g vs H Q E → vs.length = 2) (pure : ∀ vs H Q E, sp_settled_formula g vs H Q E → t_settled_formula g { nx := fun _ H' => Q .non H', rt := Q } (start N_settled_formula vs) H) : Okf P w g mg base 8 "settled_formula" ["text", "free"] (sp_settled_formula g) := by
  obtain ⟨f_Reader_init, d_Reader_init, F_Reader_init, M_Reader, b_Reader_init⟩ := O_Reader_init
  obtain ⟨f_read_next, d_read_next, F_read_next, m_read_next, k_read_next, b_read_next⟩ := O_read_next
  obtain ⟨f_Unread_init, d_Unread_init, F_Unread_init, M_Unread, b_Unread_init⟩ := O_Unread_init
  obtain ⟨f_Read_init, d_Read_init, F_Read_init, M_Read, b_Read_init⟩ := O_Read_init
  obtain ⟨f, fd, F, m, b⟩ := D
  refine ⟨f, fd, ?_, m, F.kp, b⟩
  refine F.ok (k := 7) sc_settled_formula len (fun cdv A outer s H vs Q E hr h => ?_)
  have hu := hu_of hr
  exact ⟨t_settled_formula g, (pss_cons (ps_set (i := 2) sc_settled_formula.nd rfl (by first | exact Or.inl rfl | exact Or.inr rfl) (pe_make M_Reader F_Reader_init (hr.mono (by decide)) rfl T.m_Reader b_Reader_init .nil pass0 (pa_cons (pv 0) (pa_cons (pv 1) pa_nil)))) (pss_cons (ps_while PassesOwn.never (pt_cmpR op_ne (pe_fld (pv 2) rfl) pe_str (nomark _)) (pss_cons (ps_expr (pe_call F_read_next (hr.mono (by decide)) rfl m_read_next k_read_next b_read_next .nil pass0 (pa_cons (pv 2) pa_nil))) (pss_one (ps_if (pt_cmpR op_notN1 (pe_fld (pv 2) rfl) pe_non (nomark _)) (pss_one (ps_ret (pe_make M_Unread F_Unread_init (hr.mono (by decide)) rfl T.m_Unread b_Unread_init .nil pass0 (pa_cons (pe_fld (pv 2) rfl) (pa_cons (pe_cmpR op_eq (pe_fld (pv 2) rfl) (pe_callB call_lenA (by rfl) T.b_len PySem.boot_len (pa_cons (pv 0) pa_nil)) (nomark _)) pa_nil))))) pss_nil)))) (pss_one (ps_ret (pe_make M_Read F_Read_init (hr.mono (by decide)) rfl T.m_Read b_Read_init .nil pass0 (pa_cons (pe_fld (pv 2) rfl) pa_nil)))))), pure vs H Q E h⟩
theorem ok_settle_formula {P : Program} {w : World} {g : G8} {mg : Str → Option Value} {base : Heap} (T : Tx g mg) (D : DefF g mg "settle_formula" s_settle_formula ["text", "free"]) (O_need_text : Okf P w g mg base 2 "need_text" ["text", "free"] (sp_need_text g)) (O_settled_formula : Okf P w g mg base 8 "settled_formula" ["text", "free"] (sp_settled_formula g)) (len : ∀ vs H Q E, sp_settle_formula g vs H Q E → vs.length = 2) (pure : ∀ vs H Q E, sp_settle_formula g vs H Q E → t_settle_formula g { nx := fun _ H' => Q .non H', rt := Q } (start N_settle_formula vs) H) : Okf P w g mg base 9 "settle_formula" ["text", "free"] (sp_settle_formula g) := by
  obtain ⟨f_need_text, d_need_text, F_need_text, m_need_text, k_need_text, b_need_text⟩ := O_need_text
  obtain ⟨f_settled_formula, d_settled_formula, F_settled_formula, m_settled_formula, k_settled_formula, b_settled_formula⟩ := O_settled_formula
  obtain ⟨f, fd, F, m, b⟩ := D
  refine ⟨f, fd, ?_, m, F.kp, b⟩
  refine F.ok (k := 8) sc_settle_formula len (fun cdv A outer s H vs Q E hr h => ?_)
  have hu := hu_of hr
  exact ⟨t_settle_formula g, (pss_cons (ps_expr (pe_call F_need_text (hr.mono (by decide)) rfl m_need_text k_need_text b_need_text .nil pass0 (pa_cons (pv 0) (pa_cons (pv 1) pa_nil)))) (pss_one (ps_ret (pe_call F_settled_formula (hr.mono (by decide)) rfl m_settled_formula k_settled_formula b_settled_formula .nil pass0 (pa_cons (pv 0) (pa_cons (pv 1) pa_nil)))))), pure vs H Q E h⟩
theorem ok_settle_text {P : Program} {w : World} {g : G8} {mg : Str → Option Value} {base : Heap} (T : Tx g mg) (D : DefF g mg "settle_text" s_settle_text ["text"]) (O_need_text : Okf P w g mg base 2 "need_text" ["text", "free"] (sp_need_text g)) (O_settled_formula : Okf P w g mg base 8 "settled_formula" ["text", "free"] (sp_settled_formula g)) (len : ∀ vs H Q E, sp_settle_text g vs H Q E → vs.length = 1) (pure : ∀ vs H Q E, sp_settle_text g vs H Q E → t_settle_text g { nx := fun _ H' => Q .non H', rt := Q } (start N_settle_text vs) H) : Okf P w g mg base 9 "settle_text" ["text"] (sp_settle_text g) := by
  obtain ⟨f_need_text, d_need_text, F_need_text, m_need_text, k_need_text, b_need_text⟩ := O_need_text
  obtain ⟨f_settled_formula, d_settled_formula, F_settled_formula, m_settled_formula, k_settled_formula, b_settled_formula⟩ := O_settled_formula
  obtain ⟨f, fd, F, m, b⟩ := D
  refine ⟨f, fd, ?_, m, F.kp, b⟩
  refine F.ok (k := 8) sc_settle_text len (fun cdv A outer s H vs Q E hr h => ?_)
  have hu := hu_of hr
  exact ⟨t_settle_text g, (pss_cons (ps_expr (pe_call F_need_text (hr.mono (by decide)) rfl m_need_text k_need_text b_need_text .nil pass0 (pa_cons (pv 0) (pa_cons (pe_tup pa_nil) pa_nil)))) (pss_one (ps_ret (pe_call F_settled_formula (hr.mono (by decide)) rfl m_settled_formula k_settled_formula b_settled_formula .nil pass0 (pa_cons (pv 0) (pa_cons (pe_tup pa_nil) pa_nil)))))), pure vs H Q E h⟩
end Dy
end
section
set_option maxHeartbeats 4000019
namespace Dy
open PySem L2 Evl Mi
theorem ok_reading_fault {P : Program} {w : World} {g : G8} {mg : Str → Option Value} {base : Heap} (T : Tx g mg) (D : DefF g mg "reading_fault" s_reading_fault ["text", "free", "answer"]) (O_need_text : Okf P w g mg base 2 "need_text" ["text", "free"] (sp_need_text g)) (O_settled_formula : Okf P w g mg base 8 "settled_formula" ["text", "free"] (sp_settled_formula g)) (O_is_saying : Okf P w g mg base 4 "is_saying" ["value"] (sp_is_saying g)) (O_Read_eq : Okm P w g mg base 120 g.Read "__eq__" ["self", "other"] (sp_Read_eq g)) (O_Unread_eq : Okm P w g mg base 1 g.Unread "__eq__" ["self", "other"] (sp_Unread_eq g)) (O_is_integer : Okf P w g mg base 1 "is_integer" ["value"] (sp_is_integer g)) (len : ∀ vs H Q E, sp_reading_fault g vs H Q E → vs.length = 3) (pure : ∀ vs H Q E, sp_reading_fault g vs H Q E → t_reading_fault g { nx := fun _ H' => Q .non H', rt := Q } (start N_reading_fault vs) H) : Okf P w g mg base 122 "reading_fault" ["text", "free", "answer"] (sp_reading_fault g) := by
  obtain ⟨f_need_text, d_need_text, F_need_text, m_need_text, k_need_text, b_need_text⟩ := O_need_text
  obtain ⟨f_settled_formula, d_settled_formula, F_settled_formula, m_settled_formula, k_settled_formula, b_settled_formula⟩ := O_settled_formula
  obtain ⟨f_is_saying, d_is_saying, F_is_saying, m_is_saying, k_is_saying, b_is_saying⟩ := O_is_saying
  obtain ⟨f_Read_eq, d_Read_eq, F_Read_eq, me_Read_eq, b_Read_eq⟩ := O_Read_eq
  obtain ⟨f_Unread_eq, d_Unread_eq, F_Unread_eq, me_Unread_eq, b_Unread_eq⟩ := O_Unread_eq
  obtain ⟨f_is_integer, d_is_integer, F_is_integer, m_is_integer, k_is_integer, b_is_integer⟩ := O_is_integer
  obtain ⟨f, fd, F, m, b⟩ := D
  refine ⟨f, fd, ?_, m, F.kp, b⟩
  refine F.ok (k := 121) sc_reading_fault len (fun cdv A outer s H vs Q E hr h => ?_)
  have hu := hu_of hr
  exact ⟨t_reading_fault g, (pss_cons (ps_expr (pe_call F_need_text (hr.mono (by decide)) rfl m_need_text k_need_text b_need_text .nil pass0 (pa_cons (pv 0) (pa_cons (pv 1) pa_nil)))) (pss_cons (ps_set (i := 3) sc_reading_fault.nd rfl (by first | exact Or.inl rfl | exact Or.inr rfl) (pe_call F_settled_formula (hr.mono (by decide)) rfl m_settled_formula k_settled_formula b_settled_formula .nil pass0 (pa_cons (pv 0) (pa_cons (pv 1) pa_nil)))) (pss_cons (ps_if (pt_val (pe_callB call_isi (by rfl) T.b_isinstance (by decide +kernel) (pa_cons (pv 2) (pa_cons (pe_glob rfl T.m_Read rfl) pa_nil)))) (pss_cons (ps_if (pt_val (pe_callB call_isi (by rfl) T.b_isinstance (by decide +kernel) (pa_cons (pv 3) (pa_cons (pe_glob rfl T.m_Unread rfl) pa_nil)))) (pss_one (ps_ret (pe_tup (pa_cons pe_str pa_nil)))) pss_nil) (pss_one (ps_ret (pe_ifExp (PW.pt (pw_and (pt_val (pe_call F_is_saying (hr.mono (by decide)) rfl m_is_saying k_is_saying b_is_saying .nil pass0 (pa_cons (pe_fld (pv 2) rfl) pa_nil))) (pw_and1 (pt_cmpR (OpR.or (op_eqG (rcG_ins F_Unread_eq me_Unread_eq.at_ me_Unread_eq.fn b_Unread_eq pass0) (hr.mono (by decide))) (op_eqG (rcG_ins F_Read_eq me_Read_eq.at_ me_Read_eq.fn b_Read_eq pass0) (hr.mono (by decide)))) (pv 2) (pv 3) (nomark _))))) pe_non (pe_tup (pa_cons pe_str pa_nil)))))) pss_nil) (pss_cons (ps_if (pt_not (pt_val (pe_callB call_isi (by rfl) T.b_isinstance (by decide +kernel) (pa_cons (pv 2) (pa_cons (pe_glob rfl T.m_Unread rfl) pa_nil))))) (pss_one (ps_ret (pe_tup (pa_cons pe_str pa_nil)))) pss_nil) (pss_cons (ps_if (pt_val (pe_callB call_isi (by rfl) T.b_isinstance (by decide +kernel) (pa_cons (pv 3) (pa_cons (pe_glob rfl T.m_Read rfl) pa_nil)))) (pss_one (ps_ret (pe_tup (pa_cons pe_str pa_nil)))) pss_nil) (pss_cons (ps_if (PW.pt (pw_or (pt_not (pt_val (pe_call F_is_integer (hr.mono (by decide)) rfl m_is_integer k_is_integer b_is_integer .nil pass0 (pa_cons (pe_fld (pv 2) rfl) pa_nil)))) (pw_or1 (pt_cmpR op_ne (pe_fld (pv 2) rfl) (pe_fld (pv 3) rfl) (nomark _))))) (pss_one (ps_ret (pe_tup (pa_cons pe_str pa_nil)))) pss_nil) (pss_one (ps_ret (pe_ifExp (PW.pt (pw_and (pt_val (pe_callB call_isi (by rfl) T.b_isinstance (by decide +kernel) (pa_cons (pe_fld (pv 2) rfl) (pa_cons (pe_bltn (by rfl) T.b_bool (by decide +kernel) rfl) pa_nil)))) (pw_and1 (pt_cmpR (op_eqN (N := 200) (un_of hr)) (pe_fld (pv 2) rfl) (pe_fld (pv 3) rfl) (nomark _))))) pe_non (pe_tup (pa_cons pe_str pa_nil))))))))))), pure vs H Q E h⟩
theorem ok_law_pen {P : Program} {w : World} {g : G8} {mg : Str → Option Value} {base : Heap} (T : Tx g mg) (D : DefF g mg "_law_pen" s_law_pen ["script"])  (len : ∀ vs H Q E, sp_law_pen g vs H Q E → vs.length = 1) (pure : ∀ vs H Q E, sp_law_pen g vs H Q E → t_law_pen g { nx := fun _ H' => Q .non H', rt := Q } (start N_law_pen vs) H) : Okf P w g mg base 1 "_law_pen" ["script"] (sp_law_pen g) := by
  obtain ⟨f, fd, F, m, b⟩ := D
  refine ⟨f, fd, ?_, m, F.kp, b⟩
  refine F.ok (k := 0) sc_law_pen len (fun cdv A outer s H vs Q E hr h => ?_)
  have hu := hu_of hr
  exact ⟨t_law_pen g, (pss_cons (ps_set (i := 1) sc_law_pen.nd rfl (by first | exact Or.inl rfl | exact Or.inr rfl) pe_int) (pss_cons (ps_for PassesOwn.never rfl (pi_list (pv 0)) (pg_name (i := 2) sc_law_pen.nd rfl (by first | exact Or.inl rfl | exact Or.inr rfl)) (pss_one (ps_set (i := 1) sc_law_pen.nd rfl (by first | exact Or.inl rfl | exact Or.inr rfl) (pe_op op_mod (pe_callTy call_intA (by rfl) T.b_int (by decide +kernel) (pa_cons (pe_op op_add (pe_op op_mulW (pv 1) pe_int) (pv 2)) pa_nil)) pe_int)))) (pss_one (ps_ret (pe_disp (pps_cons pe_str (pe_callTy call_listA (by rfl) T.b_list (by decide +kernel) (pa_cons (pv 0) pa_nil)) (pps_cons pe_str pe_int (pps_cons pe_str pe_int (pps_cons pe_str pe_int (pps_cons pe_str (pv 1) pps_nil))))) (by rfl) (by rfl) (fun z => by cases z) (by decide)))))), pure vs H Q E h⟩
theorem ok_law_draw {P : Program} {w : World} {g : G8} {mg : Str → Option Value} {base : Heap} (T : Tx g mg) (D : DefF g mg "_law_draw" s_law_draw ["pen", "many"])  (len : ∀ vs H Q E, sp_law_draw g vs H Q E → vs.length = 2) (pure : ∀ vs H Q E, sp_law_draw g vs H Q E → t_law_draw g { nx := fun _ H' => Q .non H', rt := Q } (start N_law_draw vs) H) : Okf P w g mg base 1 "_law_draw" ["pen", "many"] (sp_law_draw g) := by
  obtain ⟨f, fd, F, m, b⟩ := D
  refine ⟨f, fd, ?_, m, F.kp, b⟩
  refine F.ok (k := 0) sc_law_draw len (fun cdv A outer s H vs Q E hr h => ?_)
  have hu := hu_of hr
  exact ⟨t_law_draw g, (pss_cons (ps_dput hu (pv 0) pe_str (pe_op op_add (pe_dget hu (pv 0) pe_str (fun _ _ => rfl)) pe_int) rfl) (pss_cons (ps_if (PW.pt (pw_and (pt_cmpR op_eq (pe_dget hu (pv 0) pe_str (fun _ _ => rfl)) pe_int (nomark _)) (pw_and1 (pt_cmpR op_lt (pe_dget hu (pv 0) pe_str (fun _ _ => rfl)) (pe_callB call_lenA (by rfl) T.b_len PySem.boot_len (pa_cons (pe_dget hu (pv 0) pe_str (fun _ _ => rfl)) pa_nil)) (nomark _))))) (pss_cons (ps_set (i := 2) sc_law_draw.nd rfl (by first | exact Or.inl rfl | exact Or.inr rfl) (pe_ix ix_seq (pe_dget hu (pv 0) pe_str (fun _ _ => rfl)) (pe_dget hu (pv 0) pe_str (fun _ _ => rfl)) (fun _ _ => rfl))) (pss_cons (ps_dput hu (pv 0) pe_str (pe_op op_add (pe_dget hu (pv 0) pe_str (fun _ _ => rfl)) pe_int) rfl) (pss_one (ps_if (pt_cmpR op_ge (pv 2) (pe_op op_pow pe_int pe_int) (nomark _)) (pss_one (ps_dput hu (pv 0) pe_str (pe_op op_sub (pv 2) (pe_op op_pow pe_int pe_int)) rfl)) (pss_one (ps_dput hu (pv 0) pe_str (pe_op op_mod (pe_callTy call_intA (by rfl) T.b_int (by decide +kernel) (pa_cons (pe_op op_add (pe_op op_mulW (pe_dget hu (pv 0) pe_str (fun _ _ => rfl)) pe_int) (pv 2)) pa_nil)) pe_int) rfl)))))) pss_nil) (pss_cons (ps_if (pt_cmpR op_gt (pe_dget hu (pv 0) pe_str (fun _ _ => rfl)) pe_int (nomark _)) (pss_cons (ps_set (i := 3) sc_law_draw.nd rfl (by first | exact Or.inl rfl | exact Or.inr rfl) (pe_op op_mod (pe_callTy call_intA (by rfl) T.b_int (by decide +kernel) (pa_cons (pe_dget hu (pv 0) pe_str (fun _ _ => rfl)) pa_nil)) (pv 1))) (pss_cons (ps_dput hu (pv 0) pe_str (pe_op op_fdivW (pe_dget hu (pv 0) pe_str (fun _ _ => rfl)) (pv 1)) rfl) (pss_one (ps_ret (pv 3))))) pss_nil) (pss_cons (ps_set (i := 4) sc_law_draw.nd rfl (by first | exact Or.inl rfl | exact Or.inr rfl) (pe_op op_add (pe_op op_add (pe_dget hu (pv 0) pe_str (fun _ _ => rfl)) (pe_op op_mulW (pe_dget hu (pv 0) pe_str (fun _ _ => rfl)) pe_int)) pe_int)) (pss_one (ps_ret (pe_op op_mod (pe_op op_fdivW (pe_callTy call_intA (by rfl) T.b_int (by decide +kernel) (pa_cons (pe_op op_mod (pe_op op_pow (pv 4) pe_int) pe_int) pa_nil)) pe_int) (pv 1)))))))), pure vs H Q E h⟩
theorem ok_law_pick {P : Program} {w : World} {g : G8} {mg : Str → Option Value} {base : Heap} (T : Tx g mg) (D : DefF g mg "_law_pick" s_law_pick ["pen", "some"]) (O_law_draw : Okf P w g mg base 1 "_law_draw" ["pen", "many"] (sp_law_draw g)) (len : ∀ vs H Q E, sp_law_pick g vs H Q E → vs.length = 2) (pure : ∀ vs H Q E, sp_law_pick g vs H Q E → t_law_pick g { nx := fun _ H' => Q .non H', rt := Q } (start N_law_pick vs) H) : Okf P w g mg base 2 "_law_pick" ["pen", "some"] (sp_law_pick g) := by
  obtain ⟨f_law_draw, d_law_draw, F_law_draw, m_law_draw, k_law_draw, b_law_draw⟩ := O_law_draw
  obtain ⟨f, fd, F, m, b⟩ := D
  refine ⟨f, fd, ?_, m, F.kp, b⟩
  refine F.ok (k := 1) sc_law_pick len (fun cdv A outer s H vs Q E hr h => ?_)
  have hu := hu_of hr
  exact ⟨t_law_pick g, (pss_one (ps_ret (pe_ix ix_seq (pv 1) (pe_call F_law_draw (hr.mono (by decide)) rfl m_law_draw k_law_draw b_law_draw .nil pass0 (pa_cons (pv 0) (pa_cons (pe_callB call_lenA (by rfl) T.b_len PySem.boot_len (pa_cons (pv 1) pa_nil)) pa_nil))) (fun _ _ => rfl)))), pure vs H Q E h⟩
theorem ok_law_s_term {P : Program} {w : World} {g : G8} {mg : Str → Option Value} {base : Heap} (T : Tx g mg) (D : DefF g mg "_law_s_term" s_law_s_term ["pen", "names", "size"]) (O_law_draw : Okf P w g mg base 1 "_law_draw" ["pen", "many"] (sp_law_draw g)) (O_law_pick : Okf P w g mg base 2 "_law_pick" ["pen", "some"] (sp_law_pick g)) (len : ∀ vs H Q E, sp_law_s_term g vs H Q E → vs.length = 3) (pure : ∀ vs H Q E, sp_law_s_term g vs H Q E → t_law_s_term g { nx := fun _ H' => Q .non H', rt := Q } (start N_law_s_term vs) H) : Okf P w g mg base 3 "_law_s_term" ["pen", "names", "size"] (sp_law_s_term g) := by
  obtain ⟨f_law_draw, d_law_draw, F_law_draw, m_law_draw, k_law_draw, b_law_draw⟩ := O_law_draw
  obtain ⟨f_law_pick, d_law_pick, F_law_pick, m_law_pick, k_law_pick, b_law_pick⟩ := O_law_pick
  obtain ⟨f, fd, F, m, b⟩ := D
  refine ⟨f, fd, ?_, m, F.kp, b⟩
  refine F.ok (k := 2) sc_law_s_term len (fun cdv A outer s H vs Q E hr h => ?_)
  have hu := hu_of hr
  exact ⟨t_law_s_term g, (pss_cons (ps_set (i := 3) sc_law_s_term.nd rfl (by first | exact Or.inl rfl | exact Or.inr rfl) (pe_lst pa_nil)) (pss_cons (ps_for PassesOwn.never rfl (pi_range1 rfl T.b_range (pa_cons (pv 2) pa_nil)) (pg_name (i := 4) sc_law_s_term.nd rfl (by first | exact Or.inl rfl | exact Or.inr rfl)) (pss_cons (ps_set (i := 5) sc_law_s_term.nd rfl (by first | exact Or.inl rfl | exact Or.inr rfl) (pe_ifExp (pt_cmpR op_gt (pe_callB call_lenA (by rfl) T.b_len PySem.boot_len (pa_cons (pv 3) pa_nil)) pe_int (nomark _)) (pe_call F_law_draw (hr.mono (by decide)) rfl m_law_draw k_law_draw b_law_draw .nil pass0 (pa_cons (pv 0) (pa_cons pe_int pa_nil))) (pe_call F_law_draw (hr.mono (by decide)) rfl m_law_draw k_law_draw b_law_draw .nil pass0 (pa_cons (pv 0) (pa_cons pe_int pa_nil))))) (pss_one (ps_if (PW.pt (pw_and (pt_cmpR op_eq (pv 5) pe_int (nomark _)) (pw_and1 (pt_cmpR (op_neN (N := 200) (un_of hr)) (pv 1) (pe_lst pa_nil) (nomark _))))) (pss_one (ps_expr (pe_bm PySem.F.plainAttrs_list PySem.F.slot_list_append PySem.F.type_list_append mt_append (pv 3) (pa_cons (pe_tup (pa_cons pe_str (pa_cons (pe_call F_law_pick (hr.mono (by decide)) rfl m_law_pick k_law_pick b_law_pick .nil pass0 (pa_cons (pv 0) (pa_cons (pv 1) pa_nil))) pa_nil))) pa_nil)))) (pss_one (ps_if (pt_cmpR op_lt (pv 5) pe_int (nomark _)) (pss_one (ps_expr (pe_bm PySem.F.plainAttrs_list PySem.F.slot_list_append PySem.F.type_list_append mt_append (pv 3) (pa_cons (pe_tup (pa_cons pe_str (pa_cons (pe_call F_law_pick (hr.mono (by decide)) rfl m_law_pick k_law_pick b_law_pick .nil pass0 (pa_cons (pv 0) (pa_cons (pe_lst (pa_cons pe_int (pa_cons pe_int (pa_cons pe_int (pa_cons pe_int (pa_cons pe_int pa_nil)))))) pa_nil))) pa_nil))) pa_nil)))) (pss_one (ps_if (pt_cmpR op_eq (pv 5) pe_int (nomark _)) (pss_one (ps_expr (pe_bm PySem.F.plainAttrs_list PySem.F.slot_list_append PySem.F.type_list_append mt_append (pv 3) (pa_cons (pe_tup (pa_cons pe_str (pa_cons (pe_bm0 PySem.F.plainAttrs_list PySem.F.slot_list_pop PySem.F.type_list_pop mt_pop (pv 3)) pa_nil))) pa_nil)))) (pss_one (ps_if (pt_cmpR op_eq (pv 5) pe_int (nomark _)) (pss_one (ps_expr (pe_bm PySem.F.plainAttrs_list PySem.F.slot_list_append PySem.F.type_list_append mt_append (pv 3) (pa_cons (pe_tup (pa_cons pe_str (pa_cons (pe_bm0 PySem.F.plainAttrs_list PySem.F.slot_list_pop PySem.F.type_list_pop mt_pop (pv 3)) (pa_cons (pe_call F_law_draw (hr.mono (by decide)) rfl m_law_draw k_law_draw b_law_draw .nil pass0 (pa_cons (pv 0) (pa_cons pe_int pa_nil))) pa_nil)))) pa_nil)))) (pss_cons (ps_set (i := 6) sc_law_s_term.nd rfl (by first | exact Or.inl rfl | exact Or.inr rfl) (pe_bm0 PySem.F.plainAttrs_list PySem.F.slot_list_pop PySem.F.type_list_pop mt_pop (pv 3))) (pss_one (ps_expr (pe_bm PySem.F.plainAttrs_list PySem.F.slot_list_append PySem.F.type_list_append mt_append (pv 3) (pa_cons (pe_tup (pa_cons (pe_ix ix_seq (pe_lst (pa_cons pe_str (pa_cons pe_str (pa_cons pe_str pa_nil)))) (pe_op op_sub (pv 5) pe_int) (fun _ _ => rfl)) (pa_cons (pe_bm0 PySem.F.plainAttrs_list PySem.F.slot_list_pop PySem.F.type_list_pop mt_pop (pv 3)) (pa_cons (pv 6) pa_nil)))) pa_nil))))))))))))))) (pss_one (ps_ret (pe_ix ix_seq (pv 3) (pe_un un_neg pe_int) (fun _ _ => rfl)))))), pure vs H Q E h⟩
theorem ok_law_s_atom {P : Program} {w : World} {g : G8} {mg : Str → Option Value} {base : Heap} (T : Tx g mg) (D : DefF g mg "_law_s_atom" s_law_s_atom ["pen", "names", "size"]) (O_law_pick : Okf P w g mg base 2 "_law_pick" ["pen", "some"] (sp_law_pick g)) (O_law_s_term : Okf P w g mg base 3 "_law_s_term" ["pen", "names", "size"] (sp_law_s_term g)) (O_law_draw : Okf P w g mg base 1 "_law_draw" ["pen", "many"] (sp_law_draw g)) (len : ∀ vs H Q E, sp_law_s_atom g vs H Q E → vs.length = 3) (pure : ∀ vs H Q E, sp_law_s_atom g vs H Q E → t_law_s_atom g { nx := fun _ H' => Q .non H', rt := Q } (start N_law_s_atom vs) H) : Okf P w g mg base 4 "_law_s_atom" ["pen", "names", "size"] (sp_law_s_atom g) := by
  obtain ⟨f_law_pick, d_law_pick, F_law_pick, m_law_pick, k_law_pick, b_law_pick⟩ := O_law_pick
  obtain ⟨f_law_s_term, d_law_s_term, F_law_s_term, m_law_s_term, k_law_s_term, b_law_s_term⟩ := O_law_s_term
  obtain ⟨f_law_draw, d_law_draw, F_law_draw, m_law_draw, k_law_draw, b_law_draw⟩ := O_law_draw
  obtain ⟨f, fd, F, m, b⟩ := D
  refine ⟨f, fd, ?_, m, F.kp, b⟩
  refine F.ok (k := 3) sc_law_s_atom len (fun cdv A outer s H vs Q E hr h => ?_)
  have hu := hu_of hr
  exact ⟨t_law_s_atom g, (pss_cons (ps_set (i := 3) sc_law_s_atom.nd rfl (by first | exact Or.inl rfl | exact Or.inr rfl) (pe_call F_law_pick (hr.mono (by decide)) rfl m_law_pick k_law_pick b_law_pick .nil pass0 (pa_cons (pv 0) (pa_cons (pe_lst (pa_cons pe_str (pa_cons pe_str (pa_cons pe_str (pa_cons pe_str (pa_cons pe_str (pa_cons pe_str pa_nil))))))) pa_nil)))) (pss_one (ps_ret (pe_tup (pa_cons (pv 3) (pa_cons (pe_call F_law_s_term (hr.mono (by decide)) rfl m_law_s_term k_law_s_term b_law_s_term .nil pass0 (pa_cons (pv 0) (pa_cons (pv 1) (pa_cons (pe_op op_add pe_int (pe_call F_law_draw (hr.mono (by decide)) rfl m_law_draw k_law_draw b_law_draw .nil pass0 (pa_cons (pv 0) (pa_cons (pv 2) pa_nil)))) pa_nil)))) (pa_cons (pe_call F_law_s_term (hr.mono (by decide)) rfl m_law_s_term k_law_s_term b_law_s_term .nil pass0 (pa_cons (pv 0) (pa_cons (pv 1) (pa_cons (pe_op op_add pe_int (pe_call F_law_draw (hr.mono (by decide)) rfl m_law_draw k_law_draw b_law_draw .nil pass0 (pa_cons (pv 0) (pa_cons (pv 2) pa_nil)))) pa_nil)))) pa_nil))))))), pure vs H Q E h⟩
theorem ok_law_s_saying {P : Program} {w : World} {g : G8} {mg : Str → Option Value} {base : Heap} (T : Tx g mg) (D : DefF g mg "_law_s_saying" s_law_s_saying ["pen", "names", "size", "term"]) (O_law_draw : Okf P w g mg base 1 "_law_draw" ["pen", "many"] (sp_law_draw g)) (O_law_s_atom : Okf P w g mg base 4 "_law_s_atom" ["pen", "names", "size"] (sp_law_s_atom g)) (O_law_pick : Okf P w g mg base 2 "_law_pick" ["pen", "some"] (sp_law_pick g)) (len : ∀ vs H Q E, sp_law_s_saying g vs H Q E → vs.length = 4) (pure : ∀ vs H Q E, sp_law_s_saying g vs H Q E → t_law_s_saying g { nx := fun _ H' => Q .non H', rt := Q } (start N_law_s_saying vs) H) : Okf P w g mg base 5 "_law_s_saying" ["pen", "names", "size", "term"] (sp_law_s_saying g) := by
  obtain ⟨f_law_draw, d_law_draw, F_law_draw, m_law_draw, k_law_draw, b_law_draw⟩ := O_law_draw
  obtain ⟨f_law_s_atom, d_law_s_atom, F_law_s_atom, m_law_s_atom, k_law_s_atom, b_law_s_atom⟩ := O_law_s_atom
  obtain ⟨f_law_pick, d_law_pick, F_law_pick, m_law_pick, k_law_pick, b_law_pick⟩ := O_law_pick
  obtain ⟨f, fd, F, m, b⟩ := D
  refine ⟨f, fd, ?_, m, F.kp, b⟩
  refine F.ok (k := 4) sc_law_s_saying len (fun cdv A outer s H vs Q E hr h => ?_)
  have hu := hu_of hr
  exact ⟨t_law_s_saying g, (pss_cons (ps_set (i := 4) sc_law_s_saying.nd rfl (by first | exact Or.inl rfl | exact Or.inr rfl) (pe_lst pa_nil)) (pss_cons (ps_for PassesOwn.never rfl (pi_range1 rfl T.b_range (pa_cons (pv 2) pa_nil)) (pg_name (i := 5) sc_law_s_saying.nd rfl (by first | exact Or.inl rfl | exact Or.inr rfl)) (pss_cons (ps_set (i := 6) sc_law_s_saying.nd rfl (by first | exact Or.inl rfl | exact Or.inr rfl) (pe_ifExp (pt_cmpR op_gt (pe_callB call_lenA (by rfl) T.b_len PySem.boot_len (pa_cons (pv 4) pa_nil)) pe_int (nomark _)) (pe_call F_law_draw (hr.mono (by decide)) rfl m_law_draw k_law_draw b_law_draw .nil pass0 (pa_cons (pv 0) (pa_cons pe_int pa_nil))) (pe_call F_law_draw (hr.mono (by decide)) rfl m_law_draw k_law_draw b_law_draw .nil pass0 (pa_cons (pv 0) (pa_cons pe_int pa_nil))))) (pss_one (ps_if (PW.pt (pw_or (pt_cmpR op_lt (pv 6) pe_int (nomark _)) (pw_or1 (pt_cmpR (op_eqN (N := 200) (un_of hr)) (pv 4) (pe_lst pa_nil) (nomark _))))) (pss_one (ps_expr (pe_bm PySem.F.plainAttrs_list PySem.F.slot_list_append PySem.F.type_list_append mt_append (pv 4) (pa_cons (pe_call F_law_s_atom (hr.mono (by decide)) rfl m_law_s_atom k_law_s_atom b_law_s_atom .nil pass0 (pa_cons (pv 0) (pa_cons (pv 1) (pa_cons (pv 3) pa_nil)))) pa_nil)))) (pss_one (ps_if (pt_cmpR op_eq (pv 6) pe_int (nomark _)) (pss_one (ps_expr (pe_bm PySem.F.plainAttrs_list PySem.F.slot_list_append PySem.F.type_list_append mt_append (pv 4) (pa_cons (pe_tup (pa_cons pe_str (pa_cons (pe_bm0 PySem.F.plainAttrs_list PySem.F.slot_list_pop PySem.F.type_list_pop mt_pop (pv 4)) pa_nil))) pa_nil)))) (pss_one (ps_if (PW.pt (pw_or (pt_cmpR op_eq (pv 6) pe_int (nomark _)) (pw_or1 (pt_cmpR op_eq (pv 6) pe_int (nomark _))))) (pss_one (ps_expr (pe_bm PySem.F.plainAttrs_list PySem.F.slot_list_append PySem.F.type_list_append mt_append (pv 4) (pa_cons (pe_tup (pa_cons (pe_call F_law_pick (hr.mono (by decide)) rfl m_law_pick k_law_pick b_law_pick .nil pass0 (pa_cons (pv 0) (pa_cons (pe_lst (pa_cons pe_str (pa_cons pe_str pa_nil))) pa_nil))) (pa_cons (pe_call F_law_pick (hr.mono (by decide)) rfl m_law_pick k_law_pick b_law_pick .nil pass0 (pa_cons (pv 0) (pa_cons (pv 1) pa_nil))) (pa_cons (pe_bm0 PySem.F.plainAttrs_list PySem.F.slot_list_pop PySem.F.type_list_pop mt_pop (pv 4)) pa_nil)))) pa_nil)))) (pss_cons (ps_set (i := 7) sc_law_s_saying.nd rfl (by first | exact Or.inl rfl | exact Or.inr rfl) (pe_bm0 PySem.F.plainAttrs_list PySem.F.slot_list_pop PySem.F.type_list_pop mt_pop (pv 4))) (pss_one (ps_expr (pe_bm PySem.F.plainAttrs_list PySem.F.slot_list_append PySem.F.type_list_append mt_append (pv 4) (pa_cons (pe_tup (pa_cons (pe_ix ix_seq (pe_lst (pa_cons pe_str (pa_cons pe_str (pa_cons pe_str (pa_cons pe_str pa_nil))))) (pe_op op_sub (pv 6) pe_int) (fun _ _ => rfl)) (pa_cons (pe_bm0 PySem.F.plainAttrs_list PySem.F.slot_list_pop PySem.F.type_list_pop mt_pop (pv 4)) (pa_cons (pv 7) pa_nil)))) pa_nil))))))))))))) (pss_one (ps_ret (pe_ix ix_seq (pv 4) (pe_un un_neg pe_int) (fun _ _ => rfl)))))), pure vs H Q E h⟩
theorem ok_law_s_parts {P : Program} {w : World} {g : G8} {mg : Str → Option Value} {base : Heap} (T : Tx g mg) (D : DefF g mg "_law_s_parts" s_law_s_parts ["tree"])  (len : ∀ vs H Q E, sp_law_s_parts g vs H Q E → vs.length = 1) (pure : ∀ vs H Q E, sp_law_s_parts g vs H Q E → t_law_s_parts g { nx := fun _ H' => Q .non H', rt := Q } (start N_law_s_parts vs) H) : Okf P w g mg base 1 "_law_s_parts" ["tree"] (sp_law_s_parts g) := by
  obtain ⟨f, fd, F, m, b⟩ := D
  refine ⟨f, fd, ?_, m, F.kp, b⟩
  refine F.ok (k := 0) sc_law_s_parts len (fun cdv A outer s H vs Q E hr h => ?_)
  have hu := hu_of hr
  exact ⟨t_law_s_parts g, (pss_cons (ps_if (pt_cmpR op_in_seq (pe_ix ix_seq (pv 0) pe_int (fun _ _ => rfl)) (pe_lst (pa_cons pe_str (pa_cons pe_str (pa_cons pe_str (pa_cons pe_str (pa_cons pe_str (pa_cons pe_str pa_nil))))))) (by rfl)) (pss_one (ps_ret (pe_lst pa_nil))) pss_nil) (pss_one (ps_ret (pe_ifExp (pt_cmpR op_in_seq (pe_ix ix_seq (pv 0) pe_int (fun _ _ => rfl)) (pe_lst (pa_cons pe_str (pa_cons pe_str pa_nil))) (by rfl)) (pe_lst (pa_cons (pe_ix ix_seq (pv 0) pe_int (fun _ _ => rfl)) pa_nil)) (pe_callTy call_listA (by rfl) T.b_list (by decide +kernel) (pa_cons (pe_slice sl_tup (pv 0) (po_some pe_int) po_none) pa_nil)))))), pure vs H Q E h⟩
theorem ok_law_s_in_terms {P : Program} {w : World} {g : G8} {mg : Str → Option Value} {base : Heap} (T : Tx g mg) (D : DefF g mg "_law_s_in_terms" s_law_s_in_terms ["terms"])  (len : ∀ vs H Q E, sp_law_s_in_terms g vs H Q E → vs.length = 1) (pure : ∀ vs H Q E, sp_law_s_in_terms g vs H Q E → t_law_s_in_terms g { nx := fun _ H' => Q .non H', rt := Q } (start N_law_s_in_terms vs) H) : Okf P w g mg base 1 "_law_s_in_terms" ["terms"] (sp_law_s_in_terms g) := by
  obtain ⟨f, fd, F, m, b⟩ := D
  refine ⟨f, fd, ?_, m, F.kp, b⟩
  refine F.ok (k := 0) sc_law_s_in_terms len (fun cdv A outer s H vs Q E hr h => ?_)
  have hu := hu_of hr
  exact ⟨t_law_s_in_terms g, (pss_cons (ps_par (by rfl) sc_law_s_in_terms.nd rfl rfl (by decide) rfl rfl (pa_cons (pe_lst pa_nil) (pa_cons (pe_callTy call_listA (by rfl) T.b_list (by decide +kernel) (pa_cons (pv 0) pa_nil)) pa_nil)) (by rfl)) (pss_cons (ps_while PassesOwn.never (pt_cmpR (op_neN (N := 200) (un_of hr)) (pv 2) (pe_lst pa_nil) (nomark _)) (pss_cons (ps_set (i := 3) sc_law_s_in_terms.nd rfl (by first | exact Or.inl rfl | exact Or.inr rfl) (pe_bm0 PySem.F.plainAttrs_list PySem.F.slot_list_pop PySem.F.type_list_pop mt_pop (pv 2))) (pss_one (ps_if (pt_cmpR op_eq (pe_ix ix_seq (pv 3) pe_int (fun _ _ => rfl)) pe_str (nomark _)) (pss_one (ps_expr (pe_bm PySem.F.plainAttrs_list PySem.F.slot_list_append PySem.F.type_list_append mt_append (pv 1) (pa_cons (pe_ix ix_seq (pv 3) pe_int (fun _ _ => rfl)) pa_nil)))) (pss_one (ps_if (pt_cmpR op_ne (pe_ix ix_seq (pv 3) pe_int (fun _ _ => rfl)) pe_str (nomark _)) (pss_one (ps_set (i := 2) sc_law_s_in_terms.nd rfl (by first | exact Or.inl rfl | exact Or.inr rfl) (pe_op op_cat (pv 2) (pe_lc (own := [("part", 4)]) (g := gName 4) (tt := (tB (tCB (rIsi g.K) (tCons (tVar 4) (tCons (tC (.ty "tuple")) tNil))))) rfl sc_law_s_in_terms.nd (pi_tup (pe_slice sl_tup (pv 3) (po_some pe_int) po_none)) (blkOk_by (N := N_law_s_in_terms) (sc := defScope s_law_s_in_terms) (by decide +kernel)) (fun _ _ _ _ _ => pg_name (i := 4) sc_law_s_in_terms.nd rfl (Or.inl rfl)) (fun _ _ _ _ _ => (pts_one (pt_val (pe_callB call_isi (by rfl) T.b_isinstance (by decide +kernel) (pa_cons (pv 4) (pa_cons (pe_bltn (by rfl) T.b_tuple (by decide +kernel) rfl) pa_nil)))))) (fun _ _ _ _ _ => (pv 4)))))) pss_nil)))))) (pss_one (ps_ret (pv 1))))), pure vs H Q E h⟩
end Dy
end
section
set_option maxHeartbeats 4000019
namespace Dy
open PySem L2 Evl Mi
theorem ok_law_s_free {P : Program} {w : World} {g : G8} {mg : Str → Option Value} {base : Heap} (T : Tx g mg) (D : DefF g mg "_law_s_free" s_law_s_free ["tree"]) (O_law_s_parts : Okf P w g mg base 1 "_law_s_parts" ["tree"] (sp_law_s_parts g)) (O_law_s_in_terms : Okf P w g mg base 1 "_law_s_in_terms" ["terms"] (sp_law_s_in_terms g)) (len : ∀ vs H Q E, sp_law_s_free g vs H Q E → vs.length = 1) (pure : ∀ vs H Q E, sp_law_s_free g vs H Q E → t_law_s_free g { nx := fun _ H' => Q .non H', rt := Q } (start N_law_s_free vs) H) : Okf P w g mg base 2 "_law_s_free" ["tree"] (sp_law_s_free g) := by
  obtain ⟨f_law_s_parts, d_law_s_parts, F_law_s_parts, m_law_s_parts, k_law_s_parts, b_law_s_parts⟩ := O_law_s_parts
  obtain ⟨f_law_s_in_terms, d_law_s_in_terms, F_law_s_in_terms, m_law_s_in_terms, k_law_s_in_terms, b_law_s_in_terms⟩ := O_law_s_in_terms
  obtain ⟨f, fd, F, m, b⟩ := D
  refine ⟨f, fd, ?_, m, F.kp, b⟩
  refine F.ok (k := 1) sc_law_s_free len (fun cdv A outer s H vs Q E hr h => ?_)
  have hu := hu_of hr
  exact ⟨t_law_s_free g, (pss_cons (ps_par (by rfl) sc_law_s_free.nd rfl rfl (by decide) rfl rfl (pa_cons pe_dnewK (pa_cons (pe_lst (pa_cons (pe_tup (pa_cons (pv 0) (pa_cons (pe_lst pa_nil) pa_nil))) pa_nil)) pa_nil)) (by rfl)) (pss_cons (ps_while PassesOwn.never (pt_cmpR (op_neN (N := 200) (un_of hr)) (pv 2) (pe_lst pa_nil) (nomark _)) (pss_cons (ps_asg (pe_bm0 PySem.F.plainAttrs_list PySem.F.slot_list_pop PySem.F.type_list_pop mt_pop (pv 2)) (pg_tup (by rfl) (pgs_cons (pg_name (i := 3) sc_law_s_free.nd rfl (by first | exact Or.inl rfl | exact Or.inr rfl)) (pgs_cons (pg_name (i := 4) sc_law_s_free.nd rfl (by first | exact Or.inl rfl | exact Or.inr rfl)) pgs_nil)))) (pss_cons (ps_if (pt_cmpR (op_eqN (N := 200) (un_of hr)) (pe_call F_law_s_parts (hr.mono (by decide)) rfl m_law_s_parts k_law_s_parts b_law_s_parts .nil pass0 (pa_cons (pv 3) pa_nil)) (pe_lst pa_nil) (nomark _)) (pss_one (ps_for PassesOwn.never rfl (pi_list (pe_call F_law_s_in_terms (hr.mono (by decide)) rfl m_law_s_in_terms k_law_s_in_terms b_law_s_in_terms .nil pass0 (pa_cons (pe_slice sl_tup (pv 3) (po_some pe_int) po_none) pa_nil))) (pg_name (i := 5) sc_law_s_free.nd rfl (by first | exact Or.inl rfl | exact Or.inr rfl)) (pss_one (ps_if (pt_cmpR op_notIn_seq (pv 5) (pv 4) (by rfl)) (pss_one (ps_dput hu (pv 1) (pv 5) pe_bl rfl)) pss_nil)))) pss_nil) (pss_cons (ps_set (i := 6) sc_law_s_free.nd rfl (by first | exact Or.inl rfl | exact Or.inr rfl) (pe_ifExp (pt_cmpR op_in_seq (pe_ix ix_seq (pv 3) pe_int (fun _ _ => rfl)) (pe_lst (pa_cons pe_str (pa_cons pe_str pa_nil))) (by rfl)) (pe_op op_cat (pv 4) (pe_lst (pa_cons (pe_ix ix_seq (pv 3) pe_int (fun _ _ => rfl)) pa_nil))) (pv 4))) (pss_one (ps_set (i := 2) sc_law_s_free.nd rfl (by first | exact Or.inl rfl | exact Or.inr rfl) (pe_op op_cat (pv 2) (pe_lc (own := [("part", 7)]) (g := gName 7) (tt := tYes) rfl sc_law_s_free.nd (pi_list (pe_call F_law_s_parts (hr.mono (by decide)) rfl m_law_s_parts k_law_s_parts b_law_s_parts .nil pass0 (pa_cons (pv 3) pa_nil))) (blkOk_by (N := N_law_s_free) (sc := defScope s_law_s_free) (by decide +kernel)) (fun _ _ _ _ _ => pg_name (i := 7) sc_law_s_free.nd rfl (Or.inl rfl)) (fun _ _ _ _ _ => pts_nil) (fun _ _ _ _ _ => (pe_tup (pa_cons (pv 7) (pa_cons (pv 6) pa_nil)))))))))))) (pss_one (ps_ret (pe_callB cr_sortedS (by rfl) T.b_sorted (by decide +kernel) (pa_cons (pe_callTy call_listD (by rfl) T.b_list (by decide +kernel) (pa_cons (pv 1) pa_nil)) pa_nil)))))), pure vs H Q E h⟩
theorem ok_law_s_tokens {P : Program} {w : World} {g : G8} {mg : Str → Option Value} {base : Heap} (T : Tx g mg) (D : DefF g mg "_law_s_tokens" s_law_s_tokens ["tree", "pen"]) (O_law_draw : Okf P w g mg base 1 "_law_draw" ["pen", "many"] (sp_law_draw g)) (O_law_s_spread : Okf P w g mg base 4 "_law_s_spread" ["tree", "level", "more"] (sp_law_s_spread g)) (O_law_s_spread_term : Okf P w g mg base 3 "_law_s_spread_term" ["term", "level", "more"] (sp_law_s_spread_term g)) (len : ∀ vs H Q E, sp_law_s_tokens g vs H Q E → vs.length = 2) (pure : ∀ vs H Q E, sp_law_s_tokens g vs H Q E → t_law_s_tokens g { nx := fun _ H' => Q .non H', rt := Q } (start N_law_s_tokens vs) H) : Okf P w g mg base 5 "_law_s_tokens" ["tree", "pen"] (sp_law_s_tokens g) := by
  obtain ⟨f_law_draw, d_law_draw, F_law_draw, m_law_draw, k_law_draw, b_law_draw⟩ := O_law_draw
  obtain ⟨f_law_s_spread, d_law_s_spread, F_law_s_spread, m_law_s_spread, k_law_s_spread, b_law_s_spread⟩ := O_law_s_spread
  obtain ⟨f_law_s_spread_term, d_law_s_spread_term, F_law_s_spread_term, m_law_s_spread_term, k_law_s_spread_term, b_law_s_spread_term⟩ := O_law_s_spread_term
  obtain ⟨f, fd, F, m, b⟩ := D
  refine ⟨f, fd, ?_, m, F.kp, b⟩
  refine F.ok (k := 4) sc_law_s_tokens len (fun cdv A outer s H vs Q E hr h => ?_)
  have hu := hu_of hr
  exact ⟨t_law_s_tokens g, (pss_cons (ps_par (by rfl) sc_law_s_tokens.nd rfl rfl (by decide) rfl rfl (pa_cons (pe_lst pa_nil) (pa_cons (pe_lst (pa_cons (pe_tup (pa_cons pe_str (pa_cons (pv 0) (pa_cons pe_int pa_nil)))) pa_nil)) pa_nil)) (by rfl)) (pss_cons (ps_while PassesOwn.never (pt_cmpR (op_neN (N := 200) (un_of hr)) (pv 3) (pe_lst pa_nil) (nomark _)) (pss_cons (ps_asg (pe_bm0 PySem.F.plainAttrs_list PySem.F.slot_list_pop PySem.F.type_list_pop mt_pop (pv 3)) (pg_tup (by rfl) (pgs_cons (pg_name (i := 4) sc_law_s_tokens.nd rfl (by first | exact Or.inl rfl | exact Or.inr rfl)) (pgs_cons (pg_name (i := 5) sc_law_s_tokens.nd rfl (by first | exact Or.inl rfl | exact Or.inr rfl)) (pgs_cons (pg_name (i := 6) sc_law_s_tokens.nd rfl (by first | exact Or.inl rfl | exact Or.inr rfl)) pgs_nil))))) (pss_cons (ps_if (pt_cmpR op_eq (pv 4) pe_str (nomark _)) (pss_cons (ps_expr (pe_bm PySem.F.plainAttrs_list PySem.F.slot_list_append PySem.F.type_list_append mt_append (pv 2) (pa_cons (pv 5) pa_nil))) (pss_one ps_continue)) pss_nil) (pss_cons (ps_set (i := 7) sc_law_s_tokens.nd rfl (by first | exact Or.inl rfl | exact Or.inr rfl) (pe_cmpR op_eq (pe_call F_law_draw (hr.mono (by decide)) rfl m_law_draw k_law_draw b_law_draw .nil pass0 (pa_cons (pv 1) (pa_cons pe_int pa_nil))) pe_int (nomark _))) (pss_one (ps_if (pt_cmpR op_eq (pv 4) pe_str (nomark _)) (pss_one (ps_set (i := 3) sc_law_s_tokens.nd rfl (by first | exact Or.inl rfl | exact Or.inr rfl) (pe_op op_cat (pv 3) (pe_revL (pe_call F_law_s_spread (hr.mono (by decide)) rfl m_law_s_spread k_law_s_spread b_law_s_spread .nil pass0 (pa_cons (pv 5) (pa_cons (pv 6) (pa_cons (pv 7) pa_nil)))))))) (pss_one (ps_set (i := 3) sc_law_s_tokens.nd rfl (by first | exact Or.inl rfl | exact Or.inr rfl) (pe_op op_cat (pv 3) (pe_revL (pe_call F_law_s_spread_term (hr.mono (by decide)) rfl m_law_s_spread_term k_law_s_spread_term b_law_s_spread_term .nil pass0 (pa_cons (pv 5) (pa_cons (pv 6) (pa_cons (pv 7) pa_nil)))))))))))))) (pss_one (ps_ret (pv 2))))), pure vs H Q E h⟩
theorem okr_law_s_spread {P : Program} {w : World} {g : G8} {mg : Str → Option Value} {base : Heap} {k : Nat} {sp spr : Sp} (T : Tx g mg) (D : DefF g mg "_law_s_spread" s_law_s_spread ["tree", "level", "more"]) (O_law_s_parts : Okf P w g mg base 1 "_law_s_parts" ["tree"] (sp_law_s_parts g)) (O_law_s_spread : Okf P w g mg base k "_law_s_spread" ["tree", "level", "more"] spr) (len : ∀ vs H Q E, sp vs H Q E → vs.length = 3) (hk : k + 1 ≤ 4) (pure : ∀ vs H Q E, sp vs H Q E → t_law_s_spread g spr { nx := fun _ H' => Q .non H', rt := Q } (start N_law_s_spread vs) H) : Okf P w g mg base 4 "_law_s_spread" ["tree", "level", "more"] sp := by
  obtain ⟨f_law_s_parts, d_law_s_parts, F_law_s_parts, m_law_s_parts, k_law_s_parts, b_law_s_parts⟩ := O_law_s_parts
  obtain ⟨f_law_s_spread, d_law_s_spread, F_law_s_spread, m_law_s_spread, k_law_s_spread, b_law_s_spread⟩ := O_law_s_spread
  obtain ⟨f, fd, F, m, b⟩ := D
  refine ⟨f, fd, ?_, m, F.kp, b⟩
  refine F.ok (k := 3) sc_law_s_spread len (fun cdv A outer s H vs Q E hr h => ?_)
  have hu := hu_of hr
  exact ⟨t_law_s_spread g spr, (pss_cons (ps_set (i := 3) sc_law_s_spread.nd rfl (by first | exact Or.inl rfl | exact Or.inr rfl) (pe_ix ix_seq (pv 0) pe_int (fun _ _ => rfl))) (pss_cons (ps_set (i := 4) sc_law_s_spread.nd rfl (by first | exact Or.inl rfl | exact Or.inr rfl) (pe_dget2 hu (pe_disp (pps_cons pe_str pe_int (pps_cons pe_str pe_int (pps_cons pe_str pe_int (pps_cons pe_str pe_int (pps_cons pe_str pe_int (pps_cons pe_str pe_int (pps_cons pe_str pe_int pps_nil))))))) (by rfl) (by rfl) (fun z => by cases z) (by decide)) (pv 3) pe_int ⟨rfl, rfl, rfl, rfl⟩)) (pss_cons (ps_if (PW.pt (pw_or (pt_cmpR op_lt (pv 4) (pv 1) (nomark _)) (pw_or1 (pt_val (pv 2))))) (pss_one (ps_ret (pe_ifExp (pt_cmpR op_lt (pv 4) (pv 1) (nomark _)) (pe_lst (pa_cons (pe_tup (pa_cons pe_str (pa_cons pe_str (pa_cons pe_int pa_nil)))) (pa_cons (pe_tup (pa_cons pe_str (pa_cons (pv 0) (pa_cons pe_int pa_nil)))) (pa_cons (pe_tup (pa_cons pe_str (pa_cons pe_str (pa_cons pe_int pa_nil)))) pa_nil)))) (pe_op op_cat (pe_op op_cat (pe_lst (pa_cons (pe_tup (pa_cons pe_str (pa_cons pe_str (pa_cons pe_int pa_nil)))) pa_nil)) (pe_call F_law_s_spread (hr.mono (by omega)) rfl m_law_s_spread k_law_s_spread b_law_s_spread .nil pass0 (pa_cons (pv 0) (pa_cons pe_int (pa_cons pe_bl pa_nil))))) (pe_lst (pa_cons (pe_tup (pa_cons pe_str (pa_cons pe_str (pa_cons pe_int pa_nil)))) pa_nil)))))) pss_nil) (pss_cons (ps_if (pt_cmpR (op_eqN (N := 200) (un_of hr)) (pe_call F_law_s_parts (hr.mono (by decide)) rfl m_law_s_parts k_law_s_parts b_law_s_parts .nil pass0 (pa_cons (pv 0) pa_nil)) (pe_lst pa_nil) (nomark _)) (pss_one (ps_ret (pe_lst (pa_cons (pe_tup (pa_cons pe_str (pa_cons (pe_ix ix_seq (pv 0) pe_int (fun _ _ => rfl)) (pa_cons pe_int pa_nil)))) (pa_cons (pe_tup (pa_cons pe_str (pa_cons (pv 3) (pa_cons pe_int pa_nil)))) (pa_cons (pe_tup (pa_cons pe_str (pa_cons (pe_ix ix_seq (pv 0) pe_int (fun _ _ => rfl)) (pa_cons pe_int pa_nil)))) pa_nil)))))) pss_nil) (pss_cons (ps_if (pt_cmpR op_eq (pv 3) pe_str (nomark _)) (pss_one (ps_ret (pe_lst (pa_cons (pe_tup (pa_cons pe_str (pa_cons pe_str (pa_cons pe_int pa_nil)))) (pa_cons (pe_tup (pa_cons pe_str (pa_cons (pe_ix ix_seq (pv 0) pe_int (fun _ _ => rfl)) (pa_cons pe_int pa_nil)))) pa_nil))))) pss_nil) (pss_cons (ps_if (pt_cmpR op_in_seq (pv 3) (pe_lst (pa_cons pe_str (pa_cons pe_str pa_nil))) (by rfl)) (pss_one (ps_ret (pe_lst (pa_cons (pe_tup (pa_cons pe_str (pa_cons (pv 3) (pa_cons pe_int pa_nil)))) (pa_cons (pe_tup (pa_cons pe_str (pa_cons (pe_ix ix_seq (pv 0) pe_int (fun _ _ => rfl)) (pa_cons pe_int pa_nil)))) (pa_cons (pe_tup (pa_cons pe_str (pa_cons pe_str (pa_cons pe_int pa_nil)))) (pa_cons (pe_tup (pa_cons pe_str (pa_cons (pe_ix ix_seq (pv 0) pe_int (fun _ _ => rfl)) (pa_cons pe_int pa_nil)))) pa_nil))))))) pss_nil) (pss_cons (ps_set (i := 5) sc_law_s_spread.nd rfl (by first | exact Or.inl rfl | exact Or.inr rfl) (pe_dget hu (pe_disp (pps_cons pe_str (pe_lst (pa_cons pe_int (pa_cons pe_int pa_nil))) (pps_cons pe_str (pe_lst (pa_cons pe_int (pa_cons pe_int pa_nil))) (pps_cons pe_str (pe_lst (pa_cons pe_int (pa_cons pe_int pa_nil))) (pps_cons pe_str (pe_lst (pa_cons pe_int (pa_cons pe_int pa_nil))) pps_nil)))) (by rfl) (by rfl) (fun z => by cases z) (by decide)) (pv 3) (fun _ _ => rfl))) (pss_one (ps_ret (pe_lst (pa_cons (pe_tup (pa_cons pe_str (pa_cons (pe_ix ix_seq (pv 0) pe_int (fun _ _ => rfl)) (pa_cons (pe_ix ix_seq (pv 5) pe_int (fun _ _ => rfl)) pa_nil)))) (pa_cons (pe_tup (pa_cons pe_str (pa_cons (pv 3) (pa_cons pe_int pa_nil)))) (pa_cons (pe_tup (pa_cons pe_str (pa_cons (pe_ix ix_seq (pv 0) pe_int (fun _ _ => rfl)) (pa_cons (pe_ix ix_seq (pv 5) pe_int (fun _ _ => rfl)) pa_nil)))) pa_nil))))))))))))), pure vs H Q E h⟩
theorem okb_law_s_spread {P : Program} {w : World} {g : G8} {mg : Str → Option Value} {base : Heap} {k : Nat} {sp spr : Sp} (T : Tx g mg) (D : DefF g mg "_law_s_spread" s_law_s_spread ["tree", "level", "more"]) (O_law_s_parts : Okf P w g mg base 1 "_law_s_parts" ["tree"] (sp_law_s_parts g)) (O_law_s_spread : Okf P w g mg base k "_law_s_spread" ["tree", "level", "more"] spr) (len : ∀ vs H Q E, sp vs H Q E → vs.length = 3) (hk : k + 1 ≤ 3) (pure : ∀ vs H Q E, sp vs H Q E → t_law_s_spread g spr { nx := fun _ H' => Q .non H', rt := Q } (start N_law_s_spread vs) H) : Okf P w g mg base 3 "_law_s_spread" ["tree", "level", "more"] sp := by
  obtain ⟨f_law_s_parts, d_law_s_parts, F_law_s_parts, m_law_s_parts, k_law_s_parts, b_law_s_parts⟩ := O_law_s_parts
  obtain ⟨f_law_s_spread, d_law_s_spread, F_law_s_spread, m_law_s_spread, k_law_s_spread, b_law_s_spread⟩ := O_law_s_spread
  obtain ⟨f, fd, F, m, b⟩ := D
  refine ⟨f, fd, ?_, m, F.kp, b⟩
  refine F.ok (k := 2) sc_law_s_spread len (fun cdv A outer s H vs Q E hr h => ?_)
  have hu := hu_of hr
  exact ⟨t_law_s_spread g spr, (pss_cons (ps_set (i := 3) sc_law_s_spread.nd rfl (by first | exact Or.inl rfl | exact Or.inr rfl) (pe_ix ix_seq (pv 0) pe_int (fun _ _ => rfl))) (pss_cons (ps_set (i := 4) sc_law_s_spread.nd rfl (by first | exact Or.inl rfl | exact Or.inr rfl) (pe_dget2 hu (pe_disp (pps_cons pe_str pe_int (pps_cons pe_str pe_int (pps_cons pe_str pe_int (pps_cons pe_str pe_int (pps_cons pe_str pe_int (pps_cons pe_str pe_int (pps_cons pe_str pe_int pps_nil))))))) (by rfl) (by rfl) (fun z => by cases z) (by decide)) (pv 3) pe_int ⟨rfl, rfl, rfl, rfl⟩)) (pss_cons (ps_if (PW.pt (pw_or (pt_cmpR op_lt (pv 4) (pv 1) (nomark _)) (pw_or1 (pt_val (pv 2))))) (pss_one (ps_ret (pe_ifExp (pt_cmpR op_lt (pv 4) (pv 1) (nomark _)) (pe_lst (pa_cons (pe_tup (pa_cons pe_str (pa_cons pe_str (pa_cons pe_int pa_nil)))) (pa_cons (pe_tup (pa_cons pe_str (pa_cons (pv 0) (pa_cons pe_int pa_nil)))) (pa_cons (pe_tup (pa_cons pe_str (pa_cons pe_str (pa_cons pe_int pa_nil)))) pa_nil)))) (pe_op op_cat (pe_op op_cat (pe_lst (pa_cons (pe_tup (pa_cons pe_str (pa_cons pe_str (pa_cons pe_int pa_nil)))) pa_nil)) (pe_call F_law_s_spread (hr.mono (by omega)) rfl m_law_s_spread k_law_s_spread b_law_s_spread .nil pass0 (pa_cons (pv 0) (pa_cons pe_int (pa_cons pe_bl pa_nil))))) (pe_lst (pa_cons (pe_tup (pa_cons pe_str (pa_cons pe_str (pa_cons pe_int pa_nil)))) pa_nil)))))) pss_nil) (pss_cons (ps_if (pt_cmpR (op_eqN (N := 200) (un_of hr)) (pe_call F_law_s_parts (hr.mono (by decide)) rfl m_law_s_parts k_law_s_parts b_law_s_parts .nil pass0 (pa_cons (pv 0) pa_nil)) (pe_lst pa_nil) (nomark _)) (pss_one (ps_ret (pe_lst (pa_cons (pe_tup (pa_cons pe_str (pa_cons (pe_ix ix_seq (pv 0) pe_int (fun _ _ => rfl)) (pa_cons pe_int pa_nil)))) (pa_cons (pe_tup (pa_cons pe_str (pa_cons (pv 3) (pa_cons pe_int pa_nil)))) (pa_cons (pe_tup (pa_cons pe_str (pa_cons (pe_ix ix_seq (pv 0) pe_int (fun _ _ => rfl)) (pa_cons pe_int pa_nil)))) pa_nil)))))) pss_nil) (pss_cons (ps_if (pt_cmpR op_eq (pv 3) pe_str (nomark _)) (pss_one (ps_ret (pe_lst (pa_cons (pe_tup (pa_cons pe_str (pa_cons pe_str (pa_cons pe_int pa_nil)))) (pa_cons (pe_tup (pa_cons pe_str (pa_cons (pe_ix ix_seq (pv 0) pe_int (fun _ _ => rfl)) (pa_cons pe_int pa_nil)))) pa_nil))))) pss_nil) (pss_cons (ps_if (pt_cmpR op_in_seq (pv 3) (pe_lst (pa_cons pe_str (pa_cons pe_str pa_nil))) (by rfl)) (pss_one (ps_ret (pe_lst (pa_cons (pe_tup (pa_cons pe_str (pa_cons (pv 3) (pa_cons pe_int pa_nil)))) (pa_cons (pe_tup (pa_cons pe_str (pa_cons (pe_ix ix_seq (pv 0) pe_int (fun _ _ => rfl)) (pa_cons pe_int pa_nil)))) (pa_cons (pe_tup (pa_cons pe_str (pa_cons pe_str (pa_cons pe_int pa_nil)))) (pa_cons (pe_tup (pa_cons pe_str (pa_cons (pe_ix ix_seq (pv 0) pe_int (fun _ _ => rfl)) (pa_cons pe_int pa_nil)))) pa_nil))))))) pss_nil) (pss_cons (ps_set (i := 5) sc_law_s_spread.nd rfl (by first | exact Or.inl rfl | exact Or.inr rfl) (pe_dget hu (pe_disp (pps_cons pe_str (pe_lst (pa_cons pe_int (pa_cons pe_int pa_nil))) (pps_cons pe_str (pe_lst (pa_cons pe_int (pa_cons pe_int pa_nil))) (pps_cons pe_str (pe_lst (pa_cons pe_int (pa_cons pe_int pa_nil))) (pps_cons pe_str (pe_lst (pa_cons pe_int (pa_cons pe_int pa_nil))) pps_nil)))) (by rfl) (by rfl) (fun z => by cases z) (by decide)) (pv 3) (fun _ _ => rfl))) (pss_one (ps_ret (pe_lst (pa_cons (pe_tup (pa_cons pe_str (pa_cons (pe_ix ix_seq (pv 0) pe_int (fun _ _ => rfl)) (pa_cons (pe_ix ix_seq (pv 5) pe_int (fun _ _ => rfl)) pa_nil)))) (pa_cons (pe_tup (pa_cons pe_str (pa_cons (pv 3) (pa_cons pe_int pa_nil)))) (pa_cons (pe_tup (pa_cons pe_str (pa_cons (pe_ix ix_seq (pv 0) pe_int (fun _ _ => rfl)) (pa_cons (pe_ix ix_seq (pv 5) pe_int (fun _ _ => rfl)) pa_nil)))) pa_nil))))))))))))), pure vs H Q E h⟩
theorem okr_law_s_spread_term {P : Program} {w : World} {g : G8} {mg : Str → Option Value} {base : Heap} {k : Nat} {sp spr : Sp} (T : Tx g mg) (D : DefF g mg "_law_s_spread_term" s_law_s_spread_term ["term", "level", "more"])  (O_law_s_spread_term : Okf P w g mg base k "_law_s_spread_term" ["term", "level", "more"] spr) (len : ∀ vs H Q E, sp vs H Q E → vs.length = 3) (hk : k + 1 ≤ 3) (pure : ∀ vs H Q E, sp vs H Q E → t_law_s_spread_term g spr { nx := fun _ H' => Q .non H', rt := Q } (start N_law_s_spread_term vs) H) : Okf P w g mg base 3 "_law_s_spread_term" ["term", "level", "more"] sp := by
  obtain ⟨f_law_s_spread_term, d_law_s_spread_term, F_law_s_spread_term, m_law_s_spread_term, k_law_s_spread_term, b_law_s_spread_term⟩ := O_law_s_spread_term
  obtain ⟨f, fd, F, m, b⟩ := D
  refine ⟨f, fd, ?_, m, F.kp, b⟩
  refine F.ok (k := 2) sc_law_s_spread_term len (fun cdv A outer s H vs Q E hr h => ?_)
  have hu := hu_of hr
  exact ⟨t_law_s_spread_term g spr, (pss_cons (ps_set (i := 3) sc_law_s_spread_term.nd rfl (by first | exact Or.inl rfl | exact Or.inr rfl) (pe_ix ix_seq (pv 0) pe_int (fun _ _ => rfl))) (pss_cons (ps_set (i := 4) sc_law_s_spread_term.nd rfl (by first | exact Or.inl rfl | exact Or.inr rfl) (pe_dget2 hu (pe_disp (pps_cons pe_str pe_int (pps_cons pe_str pe_int (pps_cons pe_str pe_int (pps_cons pe_str pe_int (pps_cons pe_str pe_int pps_nil))))) (by rfl) (by rfl) (fun z => by cases z) (by decide)) (pv 3) pe_int ⟨rfl, rfl, rfl, rfl⟩)) (pss_cons (ps_if (PW.pt (pw_or (pt_cmpR op_lt (pv 4) (pv 1) (nomark _)) (pw_or1 (pt_val (pv 2))))) (pss_cons (ps_set (i := 5) sc_law_s_spread_term.nd rfl (by first | exact Or.inl rfl | exact Or.inr rfl) (pe_ifExp (pt_cmpR op_lt (pv 4) (pv 1) (nomark _)) (pe_lst (pa_cons (pe_tup (pa_cons pe_str (pa_cons (pv 0) (pa_cons pe_int pa_nil)))) pa_nil)) (pe_call F_law_s_spread_term (hr.mono (by omega)) rfl m_law_s_spread_term k_law_s_spread_term b_law_s_spread_term .nil pass0 (pa_cons (pv 0) (pa_cons pe_int (pa_cons pe_bl pa_nil)))))) (pss_one (ps_ret (pe_op op_cat (pe_op op_cat (pe_lst (pa_cons (pe_tup (pa_cons pe_str (pa_cons pe_str (pa_cons pe_int pa_nil)))) pa_nil)) (pv 5)) (pe_lst (pa_cons (pe_tup (pa_cons pe_str (pa_cons pe_str (pa_cons pe_int pa_nil)))) pa_nil)))))) pss_nil) (pss_cons (ps_if (pt_cmpR op_eq (pv 3) pe_str (nomark _)) (pss_one (ps_ret (pe_lst (pa_cons (pe_tup (pa_cons pe_str (pa_cons (pe_callTy call_strI (by rfl) T.b_str (by decide +kernel) (pa_cons (pe_ix ix_seq (pv 0) pe_int (fun _ _ => rfl)) pa_nil)) (pa_cons pe_int pa_nil)))) pa_nil)))) pss_nil) (pss_cons (ps_if (pt_cmpR op_eq (pv 3) pe_str (nomark _)) (pss_one (ps_ret (pe_lst (pa_cons (pe_tup (pa_cons pe_str (pa_cons (pe_ix ix_seq (pv 0) pe_int (fun _ _ => rfl)) (pa_cons pe_int pa_nil)))) pa_nil)))) pss_nil) (pss_cons (ps_if (pt_cmpR op_eq (pv 3) pe_str (nomark _)) (pss_one (ps_ret (pe_lst (pa_cons (pe_tup (pa_cons pe_str (pa_cons pe_str (pa_cons pe_int pa_nil)))) (pa_cons (pe_tup (pa_cons pe_str (pa_cons (pe_ix ix_seq (pv 0) pe_int (fun _ _ => rfl)) (pa_cons pe_int pa_nil)))) pa_nil))))) pss_nil) (pss_cons (ps_if (pt_cmpR op_eq (pv 3) pe_str (nomark _)) (pss_one (ps_ret (pe_lst (pa_cons (pe_tup (pa_cons pe_str (pa_cons (pe_ix ix_seq (pv 0) pe_int (fun _ _ => rfl)) (pa_cons pe_int pa_nil)))) (pa_cons (pe_tup (pa_cons pe_str (pa_cons pe_str (pa_cons pe_int pa_nil)))) (pa_cons (pe_tup (pa_cons pe_str (pa_cons (pe_callTy call_strI (by rfl) T.b_str (by decide +kernel) (pa_cons (pe_ix ix_seq (pv 0) pe_int (fun _ _ => rfl)) pa_nil)) (pa_cons pe_int pa_nil)))) pa_nil)))))) pss_nil) (pss_cons (ps_asg (pe_dget hu (pe_disp (pps_cons pe_str (pe_tup (pa_cons pe_str (pa_cons (pe_lst (pa_cons pe_int (pa_cons pe_int pa_nil))) pa_nil))) (pps_cons pe_str (pe_tup (pa_cons pe_str (pa_cons (pe_lst (pa_cons pe_int (pa_cons pe_int pa_nil))) pa_nil))) (pps_cons pe_str (pe_tup (pa_cons pe_str (pa_cons (pe_lst (pa_cons pe_int (pa_cons pe_int pa_nil))) pa_nil))) pps_nil))) (by rfl) (by rfl) (fun z => by cases z) (by decide)) (pv 3) (fun _ _ => rfl)) (pg_tup (by rfl) (pgs_cons (pg_name (i := 6) sc_law_s_spread_term.nd rfl (by first | exact Or.inl rfl | exact Or.inr rfl)) (pgs_cons (pg_name (i := 7) sc_law_s_spread_term.nd rfl (by first | exact Or.inl rfl | exact Or.inr rfl)) pgs_nil)))) (pss_one (ps_ret (pe_lst (pa_cons (pe_tup (pa_cons pe_str (pa_cons (pe_ix ix_seq (pv 0) pe_int (fun _ _ => rfl)) (pa_cons (pe_ix ix_seq (pv 7) pe_int (fun _ _ => rfl)) pa_nil)))) (pa_cons (pe_tup (pa_cons pe_str (pa_cons (pv 6) (pa_cons pe_int pa_nil)))) (pa_cons (pe_tup (pa_cons pe_str (pa_cons (pe_ix ix_seq (pv 0) pe_int (fun _ _ => rfl)) (pa_cons (pe_ix ix_seq (pv 7) pe_int (fun _ _ => rfl)) pa_nil)))) pa_nil)))))))))))))), pure vs H Q E h⟩
theorem okb_law_s_spread_term {P : Program} {w : World} {g : G8} {mg : Str → Option Value} {base : Heap} {k : Nat} {sp spr : Sp} (T : Tx g mg) (D : DefF g mg "_law_s_spread_term" s_law_s_spread_term ["term", "level", "more"])  (O_law_s_spread_term : Okf P w g mg base k "_law_s_spread_term" ["term", "level", "more"] spr) (len : ∀ vs H Q E, sp vs H Q E → vs.length = 3) (hk : k + 1 ≤ 2) (pure : ∀ vs H Q E, sp vs H Q E → t_law_s_spread_term g spr { nx := fun _ H' => Q .non H', rt := Q } (start N_law_s_spread_term vs) H) : Okf P w g mg base 2 "_law_s_spread_term" ["term", "level", "more"] sp := by
  obtain ⟨f_law_s_spread_term, d_law_s_spread_term, F_law_s_spread_term, m_law_s_spread_term, k_law_s_spread_term, b_law_s_spread_term⟩ := O_law_s_spread_term
  obtain ⟨f, fd, F, m, b⟩ := D
  refine ⟨f, fd, ?_, m, F.kp, b⟩
  refine F.ok (k := 1) sc_law_s_spread_term len (fun cdv A outer s H vs Q E hr h => ?_)
  have hu := hu_of hr
  exact ⟨t_law_s_spread_term g spr, (pss_cons (ps_set (i := 3) sc_law_s_spread_term.nd rfl (by first | exact Or.inl rfl | exact Or.inr rfl) (pe_ix ix_seq (pv 0) pe_int (fun _ _ => rfl))) (pss_cons (ps_set (i := 4) sc_law_s_spread_term.nd rfl (by first | exact Or.inl rfl | exact Or.inr rfl) (pe_dget2 hu (pe_disp (pps_cons pe_str pe_int (pps_cons pe_str pe_int (pps_cons pe_str pe_int (pps_cons pe_str pe_int (pps_cons pe_str pe_int pps_nil))))) (by rfl) (by rfl) (fun z => by cases z) (by decide)) (pv 3) pe_int ⟨rfl, rfl, rfl, rfl⟩)) (pss_cons (ps_if (PW.pt (pw_or (pt_cmpR op_lt (pv 4) (pv 1) (nomark _)) (pw_or1 (pt_val (pv 2))))) (pss_cons (ps_set (i := 5) sc_law_s_spread_term.nd rfl (by first | exact Or.inl rfl | exact Or.inr rfl) (pe_ifExp (pt_cmpR op_lt (pv 4) (pv 1) (nomark _)) (pe_lst (pa_cons (pe_tup (pa_cons pe_str (pa_cons (pv 0) (pa_cons pe_int pa_nil)))) pa_nil)) (pe_call F_law_s_spread_term (hr.mono (by omega)) rfl m_law_s_spread_term k_law_s_spread_term b_law_s_spread_term .nil pass0 (pa_cons (pv 0) (pa_cons pe_int (pa_cons pe_bl pa_nil)))))) (pss_one (ps_ret (pe_op op_cat (pe_op op_cat (pe_lst (pa_cons (pe_tup (pa_cons pe_str (pa_cons pe_str (pa_cons pe_int pa_nil)))) pa_nil)) (pv 5)) (pe_lst (pa_cons (pe_tup (pa_cons pe_str (pa_cons pe_str (pa_cons pe_int pa_nil)))) pa_nil)))))) pss_nil) (pss_cons (ps_if (pt_cmpR op_eq (pv 3) pe_str (nomark _)) (pss_one (ps_ret (pe_lst (pa_cons (pe_tup (pa_cons pe_str (pa_cons (pe_callTy call_strI (by rfl) T.b_str (by decide +kernel) (pa_cons (pe_ix ix_seq (pv 0) pe_int (fun _ _ => rfl)) pa_nil)) (pa_cons pe_int pa_nil)))) pa_nil)))) pss_nil) (pss_cons (ps_if (pt_cmpR op_eq (pv 3) pe_str (nomark _)) (pss_one (ps_ret (pe_lst (pa_cons (pe_tup (pa_cons pe_str (pa_cons (pe_ix ix_seq (pv 0) pe_int (fun _ _ => rfl)) (pa_cons pe_int pa_nil)))) pa_nil)))) pss_nil) (pss_cons (ps_if (pt_cmpR op_eq (pv 3) pe_str (nomark _)) (pss_one (ps_ret (pe_lst (pa_cons (pe_tup (pa_cons pe_str (pa_cons pe_str (pa_cons pe_int pa_nil)))) (pa_cons (pe_tup (pa_cons pe_str (pa_cons (pe_ix ix_seq (pv 0) pe_int (fun _ _ => rfl)) (pa_cons pe_int pa_nil)))) pa_nil))))) pss_nil) (pss_cons (ps_if (pt_cmpR op_eq (pv 3) pe_str (nomark _)) (pss_one (ps_ret (pe_lst (pa_cons (pe_tup (pa_cons pe_str (pa_cons (pe_ix ix_seq (pv 0) pe_int (fun _ _ => rfl)) (pa_cons pe_int pa_nil)))) (pa_cons (pe_tup (pa_cons pe_str (pa_cons pe_str (pa_cons pe_int pa_nil)))) (pa_cons (pe_tup (pa_cons pe_str (pa_cons (pe_callTy call_strI (by rfl) T.b_str (by decide +kernel) (pa_cons (pe_ix ix_seq (pv 0) pe_int (fun _ _ => rfl)) pa_nil)) (pa_cons pe_int pa_nil)))) pa_nil)))))) pss_nil) (pss_cons (ps_asg (pe_dget hu (pe_disp (pps_cons pe_str (pe_tup (pa_cons pe_str (pa_cons (pe_lst (pa_cons pe_int (pa_cons pe_int pa_nil))) pa_nil))) (pps_cons pe_str (pe_tup (pa_cons pe_str (pa_cons (pe_lst (pa_cons pe_int (pa_cons pe_int pa_nil))) pa_nil))) (pps_cons pe_str (pe_tup (pa_cons pe_str (pa_cons (pe_lst (pa_cons pe_int (pa_cons pe_int pa_nil))) pa_nil))) pps_nil))) (by rfl) (by rfl) (fun z => by cases z) (by decide)) (pv 3) (fun _ _ => rfl)) (pg_tup (by rfl) (pgs_cons (pg_name (i := 6) sc_law_s_spread_term.nd rfl (by first | exact Or.inl rfl | exact Or.inr rfl)) (pgs_cons (pg_name (i := 7) sc_law_s_spread_term.nd rfl (by first | exact Or.inl rfl | exact Or.inr rfl)) pgs_nil)))) (pss_one (ps_ret (pe_lst (pa_cons (pe_tup (pa_cons pe_str (pa_cons (pe_ix ix_seq (pv 0) pe_int (fun _ _ => rfl)) (pa_cons (pe_ix ix_seq (pv 7) pe_int (fun _ _ => rfl)) pa_nil)))) (pa_cons (pe_tup (pa_cons pe_str (pa_cons (pv 6) (pa_cons pe_int pa_nil)))) (pa_cons (pe_tup (pa_cons pe_str (pa_cons (pe_ix ix_seq (pv 0) pe_int (fun _ _ => rfl)) (pa_cons (pe_ix ix_seq (pv 7) pe_int (fun _ _ => rfl)) pa_nil)))) pa_nil)))))))))))))), pure vs H Q E h⟩
theorem ok_law_s_joined_text {P : Program} {w : World} {g : G8} {mg : Str → Option Value} {base : Heap} (T : Tx g mg) (D : DefF g mg "_law_s_joined_text" s_law_s_joined_text ["tokens", "pen"]) (O_law_pick : Okf P w g mg base 2 "_law_pick" ["pen", "some"] (sp_law_pick g)) (len : ∀ vs H Q E, sp_law_s_joined_text g vs H Q E → vs.length = 2) (pure : ∀ vs H Q E, sp_law_s_joined_text g vs H Q E → t_law_s_joined_text g { nx := fun _ H' => Q .non H', rt := Q } (start N_law_s_joined_text vs) H) : Okf P w g mg base 3 "_law_s_joined_text" ["tokens", "pen"] (sp_law_s_joined_text g) := by
  obtain ⟨f_law_pick, d_law_pick, F_law_pick, m_law_pick, k_law_pick, b_law_pick⟩ := O_law_pick
  obtain ⟨f, fd, F, m, b⟩ := D
  refine ⟨f, fd, ?_, m, F.kp, b⟩
  refine F.ok (k := 2) sc_law_s_joined_text len (fun cdv A outer s H vs Q E hr h => ?_)
  have hu := hu_of hr
  exact ⟨t_law_s_joined_text g, (pss_cons (ps_set (i := 2) sc_law_s_joined_text.nd rfl (by first | exact Or.inl rfl | exact Or.inr rfl) pe_str) (pss_cons (ps_for PassesOwn.never rfl (pi_enum (by rfl) T.b_enumerate (pa_cons (pv 0) pa_nil)) (pg_tup (by rfl) (pgs_cons (pg_name (i := 3) sc_law_s_joined_text.nd rfl (by first | exact Or.inl rfl | exact Or.inr rfl)) (pgs_cons (pg_name (i := 4) sc_law_s_joined_text.nd rfl (by first | exact Or.inl rfl | exact Or.inr rfl)) pgs_nil))) (pss_cons (ps_set (i := 5) sc_law_s_joined_text.nd rfl (by first | exact Or.inl rfl | exact Or.inr rfl) (pe_ifExp (pt_cmpR op_gt (pv 3) pe_int (nomark _)) (pe_ix ix_seq (pv 0) (pe_op op_sub (pv 3) pe_int) (fun _ _ => rfl)) pe_str)) (pss_cons (ps_set (i := 6) sc_law_s_joined_text.nd rfl (by first | exact Or.inl rfl | exact Or.inr rfl) (pe_and (pe_cmpR op_ne (pv 5) pe_str (nomark _)) (pe_and (pe_cmpR op_inS (pe_ix ix_seq (pv 5) (pe_un un_neg pe_int) (fun _ _ => rfl)) pe_str (by rfl)) (pe_one (pe_cmpR op_inS (pe_ix ix_seq (pv 4) pe_int (fun _ _ => rfl)) pe_str (by rfl)))))) (pss_one (ps_set (i := 2) sc_law_s_joined_text.nd rfl (by first | exact Or.inl rfl | exact Or.inr rfl) (pe_op op_catS (pe_op op_catS (pe_op op_catS (pv 2) (pe_ifExp (pt_val (pv 6)) pe_str pe_str)) (pe_call F_law_pick (hr.mono (by decide)) rfl m_law_pick k_law_pick b_law_pick .nil pass0 (pa_cons (pv 1) (pa_cons (pe_lst (pa_cons pe_str (pa_cons pe_str (pa_cons pe_str (pa_cons pe_str (pa_cons pe_str pa_nil)))))) pa_nil)))) (pv 4))))))) (pss_cons (ps_set (i := 2) sc_law_s_joined_text.nd rfl (by first | exact Or.inl rfl | exact Or.inr rfl) (pe_op op_catS (pv 2) (pe_call F_law_pick (hr.mono (by decide)) rfl m_law_pick k_law_pick b_law_pick .nil pass0 (pa_cons (pv 1) (pa_cons (pe_lst (pa_cons pe_str (pa_cons pe_str (pa_cons pe_str pa_nil)))) pa_nil))))) (pss_one (ps_ret (pe_ifExp (pt_cmpR op_lt (pe_callB call_lenA (by rfl) T.b_len PySem.boot_len (pa_cons (pv 2) pa_nil)) pe_int (nomark _)) (pv 2) (pe_m1 PySem.F.slot_str_join PySem.F.type_str_join mt_joinA pe_str (pv 0)))))))), pure vs H Q E h⟩
theorem ok_law_s_text {P : Program} {w : World} {g : G8} {mg : Str → Option Value} {base : Heap} (T : Tx g mg) (D : DefF g mg "_law_s_text" s_law_s_text ["tree", "pen"]) (O_law_s_joined_text : Okf P w g mg base 3 "_law_s_joined_text" ["tokens", "pen"] (sp_law_s_joined_text g)) (O_law_s_tokens : Okf P w g mg base 5 "_law_s_tokens" ["tree", "pen"] (sp_law_s_tokens g)) (len : ∀ vs H Q E, sp_law_s_text g vs H Q E → vs.length = 2) (pure : ∀ vs H Q E, sp_law_s_text g vs H Q E → t_law_s_text g { nx := fun _ H' => Q .non H', rt := Q } (start N_law_s_text vs) H) : Okf P w g mg base 6 "_law_s_text" ["tree", "pen"] (sp_law_s_text g) := by
  obtain ⟨f_law_s_joined_text, d_law_s_joined_text, F_law_s_joined_text, m_law_s_joined_text, k_law_s_joined_text, b_law_s_joined_text⟩ := O_law_s_joined_text
  obtain ⟨f_law_s_tokens, d_law_s_tokens, F_law_s_tokens, m_law_s_tokens, k_law_s_tokens, b_law_s_tokens⟩ := O_law_s_tokens
  obtain ⟨f, fd, F, m, b⟩ := D
  refine ⟨f, fd, ?_, m, F.kp, b⟩
  refine F.ok (k := 5) sc_law_s_text len (fun cdv A outer s H vs Q E hr h => ?_)
  have hu := hu_of hr
  exact ⟨t_law_s_text g, (pss_one (ps_ret (pe_call F_law_s_joined_text (hr.mono (by decide)) rfl m_law_s_joined_text k_law_s_joined_text b_law_s_joined_text .nil pass0 (pa_cons (pe_call F_law_s_tokens (hr.mono (by decide)) rfl m_law_s_tokens k_law_s_tokens b_law_s_tokens .nil pass0 (pa_cons (pv 0) (pa_cons (pv 1) pa_nil))) (pa_cons (pv 1) pa_nil))))), pure vs H Q E h⟩
theorem ok_law_known {P : Program} {w : World} {g : G8} {mg : Str → Option Value} {base : Heap} (T : Tx g mg) (D : DefF g mg "_law_known" s_law_known [])  (len : ∀ vs H Q E, sp_law_known g vs H Q E → vs.length = 0) (pure : ∀ vs H Q E, sp_law_known g vs H Q E → t_law_known g { nx := fun _ H' => Q .non H', rt := Q } (start N_law_known vs) H) : Okf P w g mg base 1 "_law_known" [] (sp_law_known g) := by
  obtain ⟨f, fd, F, m, b⟩ := D
  refine ⟨f, fd, ?_, m, F.kp, b⟩
  refine F.ok (k := 0) sc_law_known len (fun cdv A outer s H vs Q E hr h => ?_)
  have hu := hu_of hr
  exact ⟨t_law_known g, (pss_cons (ps_set (i := 0) sc_law_known.nd rfl (by first | exact Or.inl rfl | exact Or.inr rfl) (pe_lst (pa_cons (pe_tup (pa_cons pe_str (pa_cons pe_int pa_nil))) (pa_cons (pe_tup (pa_cons pe_str (pa_cons pe_int pa_nil))) (pa_cons (pe_tup (pa_cons pe_str (pa_cons pe_int pa_nil))) (pa_cons (pe_tup (pa_cons pe_str (pa_cons pe_int pa_nil))) (pa_cons (pe_tup (pa_cons pe_str (pa_cons pe_int pa_nil))) (pa_cons (pe_tup (pa_cons pe_str (pa_cons pe_int pa_nil))) (pa_cons (pe_tup (pa_cons pe_str (pa_cons pe_int pa_nil))) (pa_cons (pe_tup (pa_cons pe_str (pa_cons pe_int pa_nil))) (pa_cons (pe_tup (pa_cons pe_str (pa_cons pe_int pa_nil))) (pa_cons (pe_tup (pa_cons pe_str (pa_cons pe_int pa_nil))) (pa_cons (pe_tup (pa_cons pe_str (pa_cons pe_int pa_nil))) (pa_cons (pe_tup (pa_cons pe_str (pa_cons pe_int pa_nil))) pa_nil)))))))))))))) (pss_cons (ps_set (i := 0) sc_law_known.nd rfl (by first | exact Or.inl rfl | exact Or.inr rfl) (pe_op op_cat (pv 0) (pe_lst (pa_cons (pe_tup (pa_cons pe_str (pa_cons pe_int pa_nil))) (pa_cons (pe_tup (pa_cons pe_str (pa_cons pe_int pa_nil))) (pa_cons (pe_tup (pa_cons pe_str (pa_cons pe_int pa_nil))) (pa_cons (pe_tup (pa_cons pe_str (pa_cons pe_int pa_nil))) (pa_cons (pe_tup (pa_cons pe_str (pa_cons pe_int pa_nil))) (pa_cons (pe_tup (pa_cons pe_str (pa_cons pe_int pa_nil))) (pa_cons (pe_tup (pa_cons pe_str (pa_cons pe_int pa_nil))) (pa_cons (pe_tup (pa_cons pe_str (pa_cons pe_int pa_nil))) (pa_cons (pe_tup (pa_cons pe_str (pa_cons pe_int pa_nil))) (pa_cons (pe_tup (pa_cons pe_str (pa_cons pe_int pa_nil))) pa_nil))))))))))))) (pss_cons (ps_set (i := 0) sc_law_known.nd rfl (by first | exact Or.inl rfl | exact Or.inr rfl) (pe_op op_cat (pv 0) (pe_lst (pa_cons (pe_tup (pa_cons pe_str (pa_cons pe_int pa_nil))) (pa_cons (pe_tup (pa_cons pe_str (pa_cons pe_int pa_nil))) (pa_cons (pe_tup (pa_cons pe_str (pa_cons pe_int pa_nil))) (pa_cons (pe_tup (pa_cons pe_str (pa_cons pe_int pa_nil))) (pa_cons (pe_tup (pa_cons pe_str (pa_cons pe_int pa_nil))) (pa_cons (pe_tup (pa_cons pe_str (pa_cons pe_int pa_nil))) (pa_cons (pe_tup (pa_cons pe_str (pa_cons pe_int pa_nil))) (pa_cons (pe_tup (pa_cons pe_str (pa_cons pe_int pa_nil))) (pa_cons (pe_tup (pa_cons pe_str (pa_cons pe_int pa_nil))) (pa_cons (pe_tup (pa_cons pe_str (pa_cons pe_int pa_nil))) (pa_cons (pe_tup (pa_cons pe_str (pa_cons pe_int pa_nil))) (pa_cons (pe_tup (pa_cons pe_str (pa_cons pe_int pa_nil))) pa_nil))))))))))))))) (pss_cons (ps_set (i := 0) sc_law_known.nd rfl (by first | exact Or.inl rfl | exact Or.inr rfl) (pe_op op_cat (pv 0) (pe_lst (pa_cons (pe_tup (pa_cons pe_str (pa_cons pe_int pa_nil))) (pa_cons (pe_tup (pa_cons pe_str (pa_cons pe_int pa_nil))) (pa_cons (pe_tup (pa_cons pe_str (pa_cons pe_int pa_nil))) (pa_cons (pe_tup (pa_cons pe_str (pa_cons pe_int pa_nil))) (pa_cons (pe_tup (pa_cons pe_str (pa_cons pe_int pa_nil))) (pa_cons (pe_tup (pa_cons pe_str (pa_cons pe_int pa_nil))) (pa_cons (pe_tup (pa_cons pe_str (pa_cons pe_int pa_nil))) (pa_cons (pe_tup (pa_cons pe_str (pa_cons pe_int pa_nil))) (pa_cons (pe_tup (pa_cons pe_str (pa_cons pe_int pa_nil))) (pa_cons (pe_tup (pa_cons pe_str (pa_cons pe_int pa_nil))) (pa_cons (pe_tup (pa_cons pe_str (pa_cons pe_int pa_nil))) pa_nil)))))))))))))) (pss_one (ps_ret (pe_op op_cat (pv 0) (pe_lst (pa_cons (pe_tup (pa_cons pe_str (pa_cons pe_int pa_nil))) (pa_cons (pe_tup (pa_cons pe_str (pa_cons pe_int pa_nil))) (pa_cons (pe_tup (pa_cons pe_str (pa_cons pe_int pa_nil))) (pa_cons (pe_tup (pa_cons pe_str (pa_cons pe_int pa_nil))) (pa_cons (pe_tup (pa_cons pe_str (pa_cons pe_int pa_nil))) (pa_cons (pe_tup (pa_cons pe_str (pa_cons pe_int pa_nil))) (pa_cons (pe_tup (pa_cons pe_str (pa_cons pe_int pa_nil))) (pa_cons (pe_tup (pa_cons pe_str (pa_cons pe_int pa_nil))) (pa_cons (pe_tup (pa_cons pe_str (pa_cons pe_int pa_nil))) (pa_cons (pe_tup (pa_cons pe_str (pa_cons pe_int pa_nil))) (pa_cons (pe_tup (pa_cons pe_str (pa_cons pe_int pa_nil))) pa_nil))))))))))))))))))), pure vs H Q E h⟩
theorem ok_law_one_right {P : Program} {w : World} {g : G8} {mg : Str → Option Value} {base : Heap} (T : Tx g mg) (D : DefF g mg "_law_one_right" s_law_one_right ["text", "free", "place"]) (O_settle_formula : Okf P w g mg base 9 "settle_formula" ["text", "free"] (sp_settle_formula g)) (O_Unread_init : Oki P w g mg base 1 g.Unread ["self", "place", "is_end"] (sp_Unread_init g)) (O_Read_eq : Okm P w g mg base 120 g.Read "__eq__" ["self", "other"] (sp_Read_eq g)) (O_Unread_eq : Okm P w g mg base 1 g.Unread "__eq__" ["self", "other"] (sp_Unread_eq g)) (O_reading_fault : Okf P w g mg base 122 "reading_fault" ["text", "free", "answer"] (sp_reading_fault g)) (len : ∀ vs H Q E, sp_law_one_right g vs H Q E → vs.length = 3) (pure : ∀ vs H Q E, sp_law_one_right g vs H Q E → t_law_one_right g { nx := fun _ H' => Q .non H', rt := Q } (start N_law_one_right vs) H) : Okf P w g mg base 123 "_law_one_right" ["text", "free", "place"] (sp_law_one_right g) := by
  obtain ⟨f_settle_formula, d_settle_formula, F_settle_formula, m_settle_formula, k_settle_formula, b_settle_formula⟩ := O_settle_formula
  obtain ⟨f_Unread_init, d_Unread_init, F_Unread_init, M_Unread, b_Unread_init⟩ := O_Unread_init
  obtain ⟨f_Read_eq, d_Read_eq, F_Read_eq, me_Read_eq, b_Read_eq⟩ := O_Read_eq
  obtain ⟨f_Unread_eq, d_Unread_eq, F_Unread_eq, me_Unread_eq, b_Unread_eq⟩ := O_Unread_eq
  obtain ⟨f_reading_fault, d_reading_fault, F_reading_fault, m_reading_fault, k_reading_fault, b_reading_fault⟩ := O_reading_fault
  obtain ⟨f, fd, F, m, b⟩ := D
  refine ⟨f, fd, ?_, m, F.kp, b⟩
  refine F.ok (k := 122) sc_law_one_right len (fun cdv A outer s H vs Q E hr h => ?_)
  have hu := hu_of hr
  exact ⟨t_law_one_right g, (pss_cons (ps_set (i := 3) sc_law_one_right.nd rfl (by first | exact Or.inl rfl | exact Or.inr rfl) (pe_call F_settle_formula (hr.mono (by decide)) rfl m_settle_formula k_settle_formula b_settle_formula .nil pass0 (pa_cons (pv 0) (pa_cons (pv 1) pa_nil)))) (pss_cons (ps_set (i := 4) sc_law_one_right.nd rfl (by first | exact Or.inl rfl | exact Or.inr rfl) (pe_make M_Unread F_Unread_init (hr.mono (by decide)) rfl T.m_Unread b_Unread_init .nil pass0 (pa_cons (pv 2) (pa_cons (pe_cmpR op_eq (pv 2) (pe_callB call_lenA (by rfl) T.b_len PySem.boot_len (pa_cons (pv 0) pa_nil)) (nomark _)) pa_nil)))) (pss_one (ps_ret (pe_and (pe_cmpR (OpR.or (op_eqG (rcG_ins F_Unread_eq me_Unread_eq.at_ me_Unread_eq.fn b_Unread_eq pass0) (hr.mono (by decide))) (op_eqG (rcG_ins F_Read_eq me_Read_eq.at_ me_Read_eq.fn b_Read_eq pass0) (hr.mono (by decide)))) (pv 3) (pv 4) (nomark _)) (pe_and (pe_not (pe_callB call_isi (by rfl) T.b_isinstance (by decide +kernel) (pa_cons (pe_fld (pv 3) rfl) (pa_cons (pe_bltn (by rfl) T.b_bool (by decide +kernel) rfl) pa_nil)))) (pe_one (pe_cmpR op_isN1 (pe_call F_reading_fault (hr.mono (by decide)) rfl m_reading_fault k_reading_fault b_reading_fault .nil pass0 (pa_cons (pv 0) (pa_cons (pv 1) (pa_cons (pv 3) pa_nil)))) pe_non (nomark _))))))))), pure vs H Q E h⟩
theorem okx_law {P : Program} {w : World} {g : G8} {mg : Str → Option Value} {base : Heap} (T : Tx g mg) {f : Addr} {fd : FuncData} (F : Fun g.K "law" "law" s_law f fd) (O_law_pen : Okf P w g mg base 1 "_law_pen" ["script"] (sp_law_pen g)) (O_law_draw : Okf P w g mg base 1 "_law_draw" ["pen", "many"] (sp_law_draw g)) (O_law_s_saying : Okf P w g mg base 5 "_law_s_saying" ["pen", "names", "size", "term"] (sp_law_s_saying g)) (O_law_s_text : Okf P w g mg base 6 "_law_s_text" ["tree", "pen"] (sp_law_s_text g)) (O_law_s_free : Okf P w g mg base 2 "_law_s_free" ["tree"] (sp_law_s_free g)) (O_settle_formula : Okf P w g mg base 9 "settle_formula" ["text", "free"] (sp_settle_formula g)) (O_Unread_init : Oki P w g mg base 1 g.Unread ["self", "place", "is_end"] (sp_Unread_init g)) (O_Read_eq : Okm P w g mg base 120 g.Read "__eq__" ["self", "other"] (sp_Read_eq g)) (O_Unread_eq : Okm P w g mg base 1 g.Unread "__eq__" ["self", "other"] (sp_Unread_eq g)) (O_law_one_right : Okf P w g mg base 123 "_law_one_right" ["text", "free", "place"] (sp_law_one_right g)) (O_law_pick : Okf P w g mg base 2 "_law_pick" ["pen", "some"] (sp_law_pick g)) (O_reading_fault : Okf P w g mg base 122 "reading_fault" ["text", "free", "answer"] (sp_reading_fault g)) (O_law_known : Okf P w g mg base 1 "_law_known" [] (sp_law_known g)) (O_settle_text : Okf P w g mg base 9 "settle_text" ["text"] (sp_settle_text g)) (O_Read_init : Oki P w g mg base 1 g.Read ["self", "tree"] (sp_Read_init g)) (len : ∀ vs H Q E, sp_law g vs H Q E → vs.length = 1) (pure : ∀ vs H Q E, sp_law g vs H Q E → t_law g { nx := fun _ H' => Q .non H', rt := Q } (start N_law vs) H) : FnOk P w g.K mg base CX0 124 f fd ["script"] (sp_law g) := by
  obtain ⟨f_law_pen, d_law_pen, F_law_pen, m_law_pen, k_law_pen, b_law_pen⟩ := O_law_pen
  obtain ⟨f_law_draw, d_law_draw, F_law_draw, m_law_draw, k_law_draw, b_law_draw⟩ := O_law_draw
  obtain ⟨f_law_s_saying, d_law_s_saying, F_law_s_saying, m_law_s_saying, k_law_s_saying, b_law_s_saying⟩ := O_law_s_saying
  obtain ⟨f_law_s_text, d_law_s_text, F_law_s_text, m_law_s_text, k_law_s_text, b_law_s_text⟩ := O_law_s_text
  obtain ⟨f_law_s_free, d_law_s_free, F_law_s_free, m_law_s_free, k_law_s_free, b_law_s_free⟩ := O_law_s_free
  obtain ⟨f_settle_formula, d_settle_formula, F_settle_formula, m_settle_formula, k_settle_formula, b_settle_formula⟩ := O_settle_formula
  obtain ⟨f_Unread_init, d_Unread_init, F_Unread_init, M_Unread, b_Unread_init⟩ := O_Unread_init
  obtain ⟨f_Read_eq, d_Read_eq, F_Read_eq, me_Read_eq, b_Read_eq⟩ := O_Read_eq
  obtain ⟨f_Unread_eq, d_Unread_eq, F_Unread_eq, me_Unread_eq, b_Unread_eq⟩ := O_Unread_eq
  obtain ⟨f_law_one_right, d_law_one_right, F_law_one_right, m_law_one_right, k_law_one_right, b_law_one_right⟩ := O_law_one_right
  obtain ⟨f_law_pick, d_law_pick, F_law_pick, m_law_pick, k_law_pick, b_law_pick⟩ := O_law_pick
  obtain ⟨f_reading_fault, d_reading_fault, F_reading_fault, m_reading_fault, k_reading_fault, b_reading_fault⟩ := O_reading_fault
  obtain ⟨f_law_known, d_law_known, F_law_known, m_law_known, k_law_known, b_law_known⟩ := O_law_known
  obtain ⟨f_settle_text, d_settle_text, F_settle_text, m_settle_text, k_settle_text, b_settle_text⟩ := O_settle_text
  obtain ⟨f_Read_init, d_Read_init, F_Read_init, M_Read, b_Read_init⟩ := O_Read_init
  refine F.ok (k := 123) sc_law len (fun cdv A outer s H vs Q E hr h => ?_)
  have hu := hu_of hr
  exact ⟨t_law g, (pss_cons (ps_set (i := 1) sc_law.nd rfl (by first | exact Or.inl rfl | exact Or.inr rfl) (pe_call F_law_pen (hr.mono (by decide)) rfl m_law_pen k_law_pen b_law_pen .nil pass0 (pa_cons (pv 0) pa_nil))) (pss_cons (ps_set (i := 2) sc_law.nd rfl (by first | exact Or.inl rfl | exact Or.inr rfl) (pe_lst (pa_cons pe_str (pa_cons pe_str (pa_cons pe_str (pa_cons pe_str (pa_cons pe_str (pa_cons pe_str pa_nil)))))))) (pss_cons (ps_for PassesOwn.never rfl (pi_range1 rfl T.b_range (pa_cons pe_int pa_nil)) (pg_name (i := 3) sc_law.nd rfl (by first | exact Or.inl rfl | exact Or.inr rfl)) (pss_cons (ps_set (i := 4) sc_law.nd rfl (by first | exact Or.inl rfl | exact Or.inr rfl) (pe_slice sl_list (pv 2) po_none (po_some (pe_op op_add pe_int (pe_call F_law_draw (hr.mono (by decide)) rfl m_law_draw k_law_draw b_law_draw .nil pass0 (pa_cons (pv 1) (pa_cons pe_int pa_nil))))))) (pss_cons (ps_set (i := 5) sc_law.nd rfl (by first | exact Or.inl rfl | exact Or.inr rfl) (pe_call F_law_s_saying (hr.mono (by decide)) rfl m_law_s_saying k_law_s_saying b_law_s_saying .nil pass0 (pa_cons (pv 1) (pa_cons (pv 4) (pa_cons (pe_op op_add pe_int (pe_call F_law_draw (hr.mono (by decide)) rfl m_law_draw k_law_draw b_law_draw .nil pass0 (pa_cons (pv 1) (pa_cons pe_int pa_nil)))) (pa_cons pe_int pa_nil)))))) (pss_cons (ps_par (by rfl) sc_law.nd rfl rfl (by decide) rfl rfl (pa_cons (pe_call F_law_s_free (hr.mono (by decide)) rfl m_law_s_free k_law_s_free b_law_s_free .nil pass0 (pa_cons (pv 5) pa_nil)) (pa_cons (pe_call F_law_s_text (hr.mono (by decide)) rfl m_law_s_text k_law_s_text b_law_s_text .nil pass0 (pa_cons (pv 5) (pa_cons (pv 1) pa_nil))) pa_nil)) (by rfl)) (pss_cons (ps_if (pt_cmpR op_gt (pe_callB call_lenA (by rfl) T.b_len PySem.boot_len (pa_cons (pv 7) pa_nil)) pe_int (nomark _)) (pss_one ps_continue) pss_nil) (pss_one (ps_for PassesOwn.never rfl (pi_range1 rfl T.b_range (pa_cons pe_int pa_nil)) (pg_name (i := 8) sc_law.nd rfl (by first | exact Or.inl rfl | exact Or.inr rfl)) (pss_cons (ps_set (i := 9) sc_law.nd rfl (by first | exact Or.inl rfl | exact Or.inr rfl) (pe_call F_law_draw (hr.mono (by decide)) rfl m_law_draw k_law_draw b_law_draw .nil pass0 (pa_cons (pv 1) (pa_cons (pe_op op_add (pe_callB call_lenA (by rfl) T.b_len PySem.boot_len (pa_cons (pv 7) pa_nil)) pe_int) pa_nil)))) (pss_cons (ps_set (i := 10) sc_law.nd rfl (by first | exact Or.inl rfl | exact Or.inr rfl) (pe_call F_settle_formula (hr.mono (by decide)) rfl m_settle_formula k_settle_formula b_settle_formula .nil pass0 (pa_cons (pe_slice sl_str (pv 7) po_none (po_some (pv 9))) (pa_cons (pv 6) pa_nil)))) (pss_cons (ps_if (PW.pt (pw_and (pt_not (pt_val (pe_callB call_isi (by rfl) T.b_isinstance (by decide +kernel) (pa_cons (pv 10) (pa_cons (pe_glob rfl T.m_Read rfl) pa_nil))))) (pw_and1 (pt_cmpR (op_neO T.u_ne T.u_mo F_Unread_eq me_Unread_eq b_Unread_eq (hr.mono (by decide))) (pv 10) (pe_make M_Unread F_Unread_init (hr.mono (by decide)) rfl T.m_Unread b_Unread_init .nil pass0 (pa_cons (pv 9) (pa_cons pe_bl pa_nil))) (nomark _))))) (pss_one (ps_ret pe_bl)) pss_nil) (pss_cons (ps_if (pt_not (pt_val (pe_call F_law_one_right (hr.mono (by decide)) rfl m_law_one_right k_law_one_right b_law_one_right .nil pass0 (pa_cons (pe_op op_catS (pe_op op_catS (pe_slice sl_str (pv 7) po_none (po_some (pv 9))) (pe_call F_law_pick (hr.mono (by decide)) rfl m_law_pick k_law_pick b_law_pick .nil pass0 (pa_cons (pv 1) (pa_cons (pe_lst (pa_cons pe_str (pa_cons pe_str (pa_cons pe_str (pa_cons pe_str pa_nil))))) pa_nil)))) (pe_slice sl_str (pv 7) (po_some (pv 9)) po_none)) (pa_cons (pv 6) (pa_cons (pv 9) pa_nil)))))) (pss_one (ps_ret pe_bl)) pss_nil) (pss_cons (ps_set (i := 11) sc_law.nd rfl (by first | exact Or.inl rfl | exact Or.inr rfl) (pe_call F_law_pick (hr.mono (by decide)) rfl m_law_pick k_law_pick b_law_pick .nil pass0 (pa_cons (pv 1) (pa_cons (pe_lst (pa_cons pe_str (pa_cons pe_str (pa_cons pe_str (pa_cons pe_str (pa_cons pe_str (pa_cons pe_str (pa_cons pe_str (pa_cons pe_str (pa_cons pe_str (pa_cons pe_str (pa_cons pe_str (pa_cons pe_str (pa_cons pe_str (pa_cons pe_str (pa_cons pe_str (pa_cons pe_str (pa_cons pe_str (pa_cons pe_str pa_nil))))))))))))))))))) pa_nil)))) (pss_cons (ps_set (i := 12) sc_law.nd rfl (by first | exact Or.inl rfl | exact Or.inr rfl) (pe_op op_catS (pe_op op_catS (pe_slice sl_str (pv 7) po_none (po_some (pv 9))) (pv 11)) (pe_slice sl_str (pv 7) (po_some (pv 9)) po_none))) (pss_cons (ps_set (i := 10) sc_law.nd rfl (by first | exact Or.inl rfl | exact Or.inr rfl) (pe_call F_settle_formula (hr.mono (by decide)) rfl m_settle_formula k_settle_formula b_settle_formula .nil pass0 (pa_cons (pv 12) (pa_cons (pv 6) pa_nil)))) (pss_one (ps_if (pt_val (pe_callB call_isi (by rfl) T.b_isinstance (by decide +kernel) (pa_cons (pv 10) (pa_cons (pe_glob rfl T.m_Unread rfl) pa_nil)))) (pss_cons (ps_if (PW.pt (pw_or (pt_cmpR op_lt (pe_fld (pv 10) rfl) (pv 9) (nomark _)) (pw_or1 (pt_cmpR (op_neN (N := 200) (un_of hr)) (pe_fld (pv 10) rfl) (pe_cmpR op_eq (pe_fld (pv 10) rfl) (pe_callB call_lenA (by rfl) T.b_len PySem.boot_len (pa_cons (pv 12) pa_nil)) (nomark _)) (nomark _))))) (pss_one (ps_ret pe_bl)) pss_nil) (pss_cons (ps_if (PW.pt (pw_and (pt_not (pt_val (pe_fld (pv 10) rfl))) (pw_and1 (pt_cmpR (op_neO T.u_ne T.u_mo F_Unread_eq me_Unread_eq b_Unread_eq (hr.mono (by decide))) (pe_call F_settle_formula (hr.mono (by decide)) rfl m_settle_formula k_settle_formula b_settle_formula .nil pass0 (pa_cons (pe_slice sl_str (pv 12) po_none (po_some (pe_op op_add (pe_fld (pv 10) rfl) pe_int))) (pa_cons (pv 6) pa_nil))) (pe_make M_Unread F_Unread_init (hr.mono (by decide)) rfl T.m_Unread b_Unread_init .nil pass0 (pa_cons (pe_fld (pv 10) rfl) (pa_cons pe_bl pa_nil))) (nomark _))))) (pss_one (ps_ret pe_bl)) pss_nil) (pss_cons (ps_set (i := 13) sc_law.nd rfl (by first | exact Or.inl rfl | exact Or.inr rfl) (pe_call F_settle_formula (hr.mono (by decide)) rfl m_settle_formula k_settle_formula b_settle_formula .nil pass0 (pa_cons (pe_slice sl_str (pv 12) po_none (po_some (pe_fld (pv 10) rfl))) (pa_cons (pv 6) pa_nil)))) (pss_one (ps_if (PW.pt (pw_and (pt_not (pt_val (pe_callB call_isi (by rfl) T.b_isinstance (by decide +kernel) (pa_cons (pv 13) (pa_cons (pe_glob rfl T.m_Read rfl) pa_nil))))) (pw_and1 (pt_cmpR (op_neO T.u_ne T.u_mo F_Unread_eq me_Unread_eq b_Unread_eq (hr.mono (by decide))) (pv 13) (pe_make M_Unread F_Unread_init (hr.mono (by decide)) rfl T.m_Unread b_Unread_init .nil pass0 (pa_cons (pe_fld (pv 10) rfl) (pa_cons pe_bl pa_nil))) (nomark _))))) (pss_one (ps_ret pe_bl)) pss_nil))))) (pss_one (ps_if (pt_cmpR op_notN1 (pe_call F_reading_fault (hr.mono (by decide)) rfl m_reading_fault k_reading_fault b_reading_fault .nil pass0 (pa_cons (pv 12) (pa_cons (pv 6) (pa_cons (pv 10) pa_nil)))) pe_non (nomark _)) (pss_one (ps_ret pe_bl)) pss_nil)))))))))))))))))) (pss_cons (ps_for PassesOwn.never rfl (pi_range1 rfl T.b_range (pa_cons pe_int pa_nil)) (pg_name (i := 3) sc_law.nd rfl (by first | exact Or.inl rfl | exact Or.inr rfl)) (pss_cons (ps_asg (pe_call F_law_pick (hr.mono (by decide)) rfl m_law_pick k_law_pick b_law_pick .nil pass0 (pa_cons (pv 1) (pa_cons (pe_call0 F_law_known (hr.mono (by decide)) rfl m_law_known k_law_known b_law_known .nil pass0) pa_nil))) (pg_tup (by rfl) (pgs_cons (pg_name (i := 7) sc_law.nd rfl (by first | exact Or.inl rfl | exact Or.inr rfl)) (pgs_cons (pg_name (i := 14) sc_law.nd rfl (by first | exact Or.inl rfl | exact Or.inr rfl)) pgs_nil)))) (pss_cons (ps_set (i := 10) sc_law.nd rfl (by first | exact Or.inl rfl | exact Or.inr rfl) (pe_call F_settle_formula (hr.mono (by decide)) rfl m_settle_formula k_settle_formula b_settle_formula .nil pass0 (pa_cons (pv 7) (pa_cons (pe_lst (pa_cons pe_str (pa_cons pe_str pa_nil))) pa_nil)))) (pss_one (ps_if (pt_val (pe_callB call_isi (by rfl) T.b_isinstance (by decide +kernel) (pa_cons (pv 10) (pa_cons (pe_glob rfl T.m_Read rfl) pa_nil)))) (pss_one (ps_if (pt_cmpR op_notIn_seq (pv 7) (pe_lst (pa_cons pe_str (pa_cons pe_str pa_nil))) (by rfl)) (pss_one (ps_ret pe_bl)) pss_nil)) (pss_one (ps_if (pt_not (pt_val (pe_call F_law_one_right (hr.mono (by decide)) rfl m_law_one_right k_law_one_right b_law_one_right .nil pass0 (pa_cons (pv 7) (pa_cons (pe_tup (pa_cons pe_str (pa_cons pe_str pa_nil))) (pa_cons (pv 14) pa_nil)))))) (pss_one (ps_ret pe_bl)) pss_nil))))))) (pss_cons (ps_asg (pe_call F_law_pick (hr.mono (by decide)) rfl m_law_pick k_law_pick b_law_pick .nil pass0 (pa_cons (pv 1) (pa_cons (pe_lst (pa_cons (pe_tup (pa_cons pe_str (pa_cons pe_int pa_nil))) (pa_cons (pe_tup (pa_cons pe_str (pa_cons pe_int pa_nil))) (pa_cons (pe_tup (pa_cons pe_str (pa_cons pe_int pa_nil))) (pa_cons (pe_tup (pa_cons pe_str (pa_cons pe_int pa_nil))) pa_nil))))) pa_nil))) (pg_tup (by rfl) (pgs_cons (pg_name (i := 7) sc_law.nd rfl (by first | exact Or.inl rfl | exact Or.inr rfl)) (pgs_cons (pg_name (i := 14) sc_law.nd rfl (by first | exact Or.inl rfl | exact Or.inr rfl)) pgs_nil)))) (pss_cons (ps_if (pt_cmpR (op_neO T.u_ne T.u_mo F_Unread_eq me_Unread_eq b_Unread_eq (hr.mono (by decide))) (pe_call F_settle_text (hr.mono (by decide)) rfl m_settle_text k_settle_text b_settle_text .nil pass0 (pa_cons (pv 7) pa_nil)) (pe_make M_Unread F_Unread_init (hr.mono (by decide)) rfl T.m_Unread b_Unread_init .nil pass0 (pa_cons (pv 14) (pa_cons (pe_cmpR op_eq (pv 14) (pe_callB call_lenA (by rfl) T.b_len PySem.boot_len (pa_cons (pv 7) pa_nil)) (nomark _)) pa_nil))) (nomark _)) (pss_one (ps_ret pe_bl)) pss_nil) (pss_cons (ps_for PassesOwn.never rfl (pi_list (pe_lst (pa_cons (pe_tup (pa_cons (pe_make M_Unread F_Unread_init (hr.mono (by decide)) rfl T.m_Unread b_Unread_init .nil pass0 (pa_cons (pv 14) (pa_cons pe_bl pa_nil))) (pa_cons (pe_ifExp (pt_cmpR op_eq (pv 14) (pe_callB call_lenA (by rfl) T.b_len PySem.boot_len (pa_cons (pv 7) pa_nil)) (nomark _)) pe_non (pe_tup (pa_cons pe_str pa_nil))) pa_nil))) (pa_cons (pe_tup (pa_cons (pe_make M_Unread F_Unread_init (hr.mono (by decide)) rfl T.m_Unread b_Unread_init .nil pass0 (pa_cons (pe_op op_add (pv 14) pe_int) (pa_cons pe_bl pa_nil))) (pa_cons (pe_tup (pa_cons pe_str pa_nil)) pa_nil))) (pa_cons (pe_tup (pa_cons (pe_make M_Unread F_Unread_init (hr.mono (by decide)) rfl T.m_Unread b_Unread_init .nil pass0 (pa_cons pe_non (pa_cons pe_non pa_nil))) (pa_cons (pe_tup (pa_cons pe_str pa_nil)) pa_nil))) (pa_cons (pe_tup (pa_cons (pe_make M_Unread F_Unread_init (hr.mono (by decide)) rfl T.m_Unread b_Unread_init .nil pass0 (pa_cons (pv 14) (pa_cons pe_non pa_nil))) (pa_cons (pe_tup (pa_cons pe_str pa_nil)) pa_nil))) (pa_cons (pe_tup (pa_cons (pe_make M_Read F_Read_init (hr.mono (by decide)) rfl T.m_Read b_Read_init .nil pass0 (pa_cons pe_non pa_nil)) (pa_cons (pe_tup (pa_cons pe_str pa_nil)) pa_nil))) (pa_cons (pe_tup (pa_cons pe_int (pa_cons (pe_tup (pa_cons pe_str pa_nil)) pa_nil))) pa_nil)))))))) (pg_tup (by rfl) (pgs_cons (pg_name (i := 15) sc_law.nd rfl (by first | exact Or.inl rfl | exact Or.inr rfl)) (pgs_cons (pg_name (i := 16) sc_law.nd rfl (by first | exact Or.inl rfl | exact Or.inr rfl)) pgs_nil))) (pss_one (ps_if (pt_cmpR (op_neN (N := 200) (un_of hr)) (pe_call F_reading_fault (hr.mono (by decide)) rfl m_reading_fault k_reading_fault b_reading_fault .nil pass0 (pa_cons (pv 7) (pa_cons (pe_tup pa_nil) (pa_cons (pv 15) pa_nil)))) (pv 16) (nomark _)) (pss_one (ps_ret pe_bl)) pss_nil))) (pss_one (ps_ret (pe_and (pe_cmpR (OpR.or (op_eqG (rcG_ins F_Unread_eq me_Unread_eq.at_ me_Unread_eq.fn b_Unread_eq pass0) (hr.mono (by decide))) (op_eqG (rcG_ins F_Read_eq me_Read_eq.at_ me_Read_eq.fn b_Read_eq pass0) (hr.mono (by decide)))) (pe_call F_settle_text (hr.mono (by decide)) rfl m_settle_text k_settle_text b_settle_text .nil pass0 (pa_cons (pe_op op_repS pe_str pe_int) pa_nil)) (pe_make M_Unread F_Unread_init (hr.mono (by decide)) rfl T.m_Unread b_Unread_init .nil pass0 (pa_cons pe_int (pa_cons pe_bl pa_nil))) (nomark _)) (pe_one (pe_cmpR (OpR.or (op_eqG (rcG_ins F_Unread_eq me_Unread_eq.at_ me_Unread_eq.fn b_Unread_eq pass0) (hr.mono (by decide))) (op_eqG (rcG_ins F_Read_eq me_Read_eq.at_ me_Read_eq.fn b_Read_eq pass0) (hr.mono (by decide)))) (pe_call F_settle_text (hr.mono (by decide)) rfl m_settle_text k_settle_text b_settle_text .nil pass0 (pa_cons (pe_op op_repS pe_str pe_int) pa_nil)) (pe_make M_Unread F_Unread_init (hr.mono (by decide)) rfl T.m_Unread b_Unread_init .nil pass0 (pa_cons pe_int (pa_cons pe_bl pa_nil))) (nomark _))))))))))))), pure vs H Q E h⟩
end Dy
end
namespace Dy
open PySem L2 Evl Mi
section
variable {K : PySem.W.Frag} {X Y : List Addr} {σ : L2.St} {H H' : Hp} {ta tb te tx tl : TE} {d e z : PyData} {v : V} {D : Ends} {tu tw tz : TS} {ds : List PyData} {l : Addr}
/-- a list that changes -/
def LAt (K : PySem.W.Frag) (Y : List Addr) (H : Hp) (l : Addr) (ds : List PyData) : Prop := l ∈ Y ∧ ∃ vs, H l = some (.lst vs) ∧ Ats K Y H vs ds
theorem LAt.ex (h : LAt K Y H l ds) (e : Ex H H') : LAt K Y H' l ds := by
  obtain ⟨h1, vs, h2, h3⟩ := h
  exact ⟨h1, vs, e _ _ h2, h3.ex e⟩
theorem LAt.pr {Z : List Addr} (h : LAt K Y H l ds) (p : Pr Z H H') (hs : ∀ a ∈ Z, a ∈ Y) (hl : l ∉ Z) : LAt K Y H' l ds := by
  obtain ⟨h1, vs, h2, h3⟩ := h
  exact ⟨h1, vs, p _ _ hl h2, h3.pr (p.mono hs)⟩
theorem pr1 {u : HO} : Pr [l] H (upd H l u) := pr_upd List.mem_cons_self
theorem s1 (h : l ∈ Y) : ∀ a ∈ [l], a ∈ Y := fun a m => by
  rcases List.mem_cons.mp m with e | m
  · subst e; exact h
  · cases m
theorem Pr.lift (p : Pr [l] H H') (h : l ∈ Y) : Pr Y H H' := p.mono (s1 h)
theorem Dom.prs {Z : List Addr} (dm : Dom Y H) (p : Pr Z H H') (h : ∀ a ∈ Z, H' a ≠ none) : Dom Y H' := fun a ha q => by
  by_cases hz : a ∈ Z
  · exact h a hz q
  · cases hh : H a with
    | none => exact dm a ha hh
    | some u => rw [p a u hz hh] at q; cases q
theorem LAt.upd {vs : List V} (hl : l ∈ Y) (a : Ats K Y H vs ds) : LAt K Y (upd H l (.lst vs)) l ds := ⟨hl, vs, upd_same, a.pr (pr_upd hl)⟩
theorem LAt.dom (h : LAt K Y H l ds) : H l ≠ none := by
  obtain ⟨_, vs, h2, _⟩ := h
  rw [h2]; simp
theorem Ats.snoc : ∀ {ds : List PyData} {vs : List V} {d : PyData}, Ats K Y H vs (ds ++ [d]) → ∃ us v, vs = us ++ [v] ∧ Ats K Y H us ds ∧ At K Y H v d
  | [], _, d, h => by
    obtain ⟨v, rfl, a⟩ := ats1 h
    exact ⟨[], v, rfl, .nil, a⟩
  | e :: ds, _, d, h => by
    cases h with
    | cons a b =>
      obtain ⟨us, v, rfl, b1, b2⟩ := Ats.snoc (ds := ds) b
      exact ⟨_ :: us, v, rfl, .cons a b1, b2⟩
theorem r_pop {i : Nat} {Q : VK} (hs : σ[i]? = some (some (.ref l))) (h : LAt K Y H l (ds ++ [d])) (k : ∀ v H', Pr [l] H H' → LAt K Y H' l ds → At K Y H' v d → Q v H') : tBM0 K "list" rPop (tVar i) σ H Q := by
  obtain ⟨h1, vs, h2, h3⟩ := h
  obtain ⟨us, v, rfl, a, b⟩ := h3.snoc
  refine ⟨_, hs, .inl ⟨rfl, _, sq_of h2⟩, l, _, v, rfl, rfl, h2, by simp, ?_⟩
  rw [List.dropLast_concat]
  exact k v _ pr1 (LAt.upd h1 a) (b.pr (pr_upd h1))
/-- the argument is made first -/
theorem r_app {i : Nat} {Q : VK} (hs : σ[i]? = some (some (.ref l))) (hl : ∃ xs, H l = some (.lst xs)) (k : te σ H fun v H1 => ∃ ds d, LAt K Y H1 l ds ∧ ds.length ≤ 100000 ∧ At K Y H1 v d ∧ ∀ H', Pr [l] H1 H' → LAt K Y H' l (ds ++ [d]) → Q .non H')
    (mono : ∀ P P' : VK, (∀ v H, P v H → P' v H) → te σ H P → te σ H P') : tBM K "list" rAppend (tVar i) (tCons te tNil) σ H Q := by
  obtain ⟨xs, hx⟩ := hl
  refine ⟨_, hs, .inl ⟨rfl, xs, sq_of hx⟩, ?_⟩
  show te σ H fun x H1 => rAppend (.ref l) [x] H1 Q
  refine mono _ _ (fun v H1 ⟨ds, d, ⟨h1, vs, h2, h3⟩, hn, av, k⟩ => ⟨l, vs, v, rfl, rfl, h2, ?_, ?_⟩) k
  · rw [h3.len]; exact Nat.lt_of_le_of_lt hn (by decide)
  · exact k _ pr1 (LAt.upd h1 (h3.app (.cons av .nil)))
theorem e_app {i : Nat} {Q : VK} (hs : σ[i]? = some (some (.ref l))) (h : LAt K Y H l ds) (hn : ds.length ≤ 100000) (he : EvD K Y te σ H d) (k : ∀ H', Pr [l] H H' → LAt K Y H' l (ds ++ [d]) → Q .non H') : tBM K "list" rAppend (tVar i) (tCons te tNil) σ H Q := by
  obtain ⟨h1, vs, h2, h3⟩ := h
  refine ⟨_, hs, .inl ⟨rfl, vs, sq_of h2⟩, ?_⟩
  show te σ H fun x H1 => rAppend (.ref l) [x] H1 Q
  refine he H (Ex.refl _) _ fun v H1 e1 av => ⟨l, vs, v, rfl, rfl, e1 _ _ h2, ?_, ?_⟩
  · rw [h3.len]; exact Nat.lt_of_le_of_lt hn (by decide)
  · exact k _ ((Ex.pr e1).trans pr1) (LAt.upd h1 ((h3.ex e1).app (.cons av .nil)))
theorem e_ext {i : Nat} {Q : VK} {es : List PyData} (hs : σ[i]? = some (some (.ref l))) (h : LAt K Y H l ds) (hn : ds.length + es.length ≤ 100000) (he : EvD K Y te σ H (.list es)) (k : ∀ H', Pr [l] H H' → LAt K Y H' l (ds ++ es) → Q .non H') : tBM K "list" rExtend (tVar i) (tCons te tNil) σ H Q := by
  obtain ⟨h1, vs, h2, h3⟩ := h
  refine ⟨_, hs, .inl ⟨rfl, vs, sq_of h2⟩, ?_⟩
  show te σ H fun x H1 => rExtend (.ref l) [x] H1 Q
  refine he H (Ex.refl _) _ fun v H1 e1 av => ?_
  obtain ⟨b, ws, rfl, nb, hb, a1⟩ := at_lst_inv av
  refine ⟨l, b, vs, ws, rfl, rfl, e1 _ _ h2, hb, ?_, ?_⟩
  · rw [h3.len, a1.len]; exact Nat.le_trans hn (by decide)
  · exact k _ ((Ex.pr e1).trans pr1) (LAt.upd h1 ((h3.ex e1).app a1))
theorem ev_lenLA {i : Nat} (hs : σ[i]? = some (some (.ref l))) (h : LAt K Y H l ds) : EvD K Y (tCB (rLenA K) (tCons (tVar i) tNil)) σ H (.int (ds.length : Nat)) := fun H1 e1 Q q => by
  obtain ⟨h1, vs, h2, h3⟩ := h
  exact ⟨_, hs, _, ds.length, rfl, .inl ⟨vs, sq_of (e1 _ _ h2), h3.len.symm⟩, q _ H1 (Ex.refl _) at_int⟩
/-- a new list is kept apart -/
theorem LAt.new {vs : List V} (h : Ats K X H vs ds) (hl : H l = none) : LAt K (l :: X) (L2.upd H l (.lst vs)) l ds := ⟨List.mem_cons_self, vs, upd_same, (h.more hl).pr (pr_upd List.mem_cons_self)⟩
theorem r_listT {Q : VK} (he : EvD K X te σ H (.tuple ds)) (k : ∀ l H', H l = none → Ex H H' → LAt K (l :: X) H' l ds → Q (.ref l) H') : tCB (rListA K) (tCons te tNil) σ H Q := he H (Ex.refl _) _ fun v H1 e1 av => by
  obtain ⟨p, ys, rfl, hp, a1⟩ := at_tup_inv av
  exact ⟨p, ys, rfl, .inr (ex_t hx_ex hp), fun l hl => k l _ (fresh_back e1 hl) (e1.trans (Ex.new hl)) (LAt.new a1 hl)⟩
theorem r_listL {Q : VK} (he : EvD K X te σ H (.list ds)) (k : ∀ l H', H l = none → Ex H H' → LAt K (l :: X) H' l ds → Q (.ref l) H') : tCB (rListA K) (tCons te tNil) σ H Q := he H (Ex.refl _) _ fun v H1 e1 av => by
  obtain ⟨p, ys, rfl, _, hp, a1⟩ := at_lst_inv av
  exact ⟨p, ys, rfl, .inl (sq_of hp), fun l hl => k l _ (fresh_back e1 hl) (e1.trans (Ex.new hl)) (LAt.new a1 hl)⟩
theorem r_lst {Q : VK} {ta : TA} (he : EvDs K X ta σ H ds) (hn : ds.length ≤ 100000) (k : ∀ l H', H l = none → Ex H H' → LAt K (l :: X) H' l ds → Q (.ref l) H') : tLst ta σ H Q := he H (Ex.refl _) _ fun vs H1 e1 av =>
  ⟨by rw [av.len]; exact sz_of hn, fun l hl => k l _ (fresh_back e1 hl) (e1.trans (Ex.new hl)) (LAt.new av hl)⟩
theorem ex_pr {H1 H2 : Hp} {p : Addr} (e : Ex H H1) (h : Pr [p] H1 H2) (hp : H p = none) : Ex H H2 := fun a o q => h a o (fun m => by
  rcases List.mem_cons.mp m with z | z
  · rw [z, hp] at q; cases q
  · cases z) (e a o q)
/-- once round -/
theorem q_loop {c : TT} {tb : TS} (W : Nat → L2.St → Hp → Prop) (m0 : Nat) (h0 : W m0 σ H)
    (hs : ∀ m σ' H', W m σ' H' → ∃ b, EvT c σ' H' b ∧ (b = true → ∀ H1, Ex H' H1 → tb { D with nx := fun σ2 H2 => ∃ m', m' < m ∧ W m' σ2 H2, ct := fun σ2 H2 => ∃ m', m' < m ∧ W m' σ2 H2, bk := tz D } σ' H1) ∧ (b = false → ∀ H1, Ex H' H1 → tz D σ' H1)) : tSeq (tWhile c tb) tz D σ H :=
  Evl.q_while W m0 h0 fun m σ' H' w => by
    obtain ⟨b, hb, h1, h2⟩ := hs m σ' H' w
    exact ⟨b, hb, fun t H1 e => ⟨fun σ2 H2 => ∃ m', m' < m ∧ W m' σ2 H2, fun _ _ h => h, h1 t H1 e⟩, h2⟩
theorem q_drop {tz : TS} (h : te σ H fun _ H' => tz D σ H') : tSeq (tDrop te) tz D σ H := h
theorem q_asgR {i : Nat} (h : te σ H fun v H' => tz D (σ.set i (some v)) H') : tSeq (tAsg te (gName i)) tz D σ H := h
end
theorem et_chain {K : PySem.W.Frag} {X : List Addr} {σ : L2.St} {H : Hp} {ta tb tc : TE} {r r' : R2} {x y w : PyData} {a b : Bool} (ha : EvD K X ta σ H x) (hb : EvD K X tb σ H y) (hr : RD K X r x y H (.bool a)) (hc : a = true → EvD K X tc σ H w) (hr' : a = true → RD K X r' y w H (.bool b)) : EvD K X (tChain r r' ta tb tc) σ H (.bool (a && b)) := fun H1 e1 Q q =>
  ha H1 e1 _ fun u H2 e2 au => hb H2 (e1.trans e2) _ fun v H3 e3 av => hr H3 ((e1.trans e2).trans e3) u v (au.ex e3) av _ fun k H4 e4 ak => ⟨a, at_bl_inv ak, by
    have e04 := ((e1.trans e2).trans e3).trans e4
    by_cases h : a = true
    · subst h
      rw [if_pos rfl]
      exact hc rfl H4 e04 _ fun s H5 e5 as => hr' rfl H5 (e04.trans e5) v s ((av.ex e4).ex e5) as Q fun m H6 e6 am => q m H6 ((((e2.trans e3).trans e4).trans e5).trans e6) am
    · have h : a = false := by simpa using h
      subst h
      exact q _ H4 ((e2.trans e3).trans e4) at_bl⟩
theorem ei_str {K : PySem.W.Frag} {X : List Addr} {σ : L2.St} {H : Hp} {te : TE} {t : T} (h : EvD K X te σ H (Mi.str t)) : EvI K X (iStr te) σ H (t.map fun c => Mi.str [c]) := fun H1 e1 R k => h H1 e1 _ fun x H2 e2 ax => by
  have hx := at_str_inv ax
  have hok := ok_S.mp (at_str_ok ax)
  subst hx
  refine ⟨S t, rfl, k _ H2 e2 fun Y H3 e3 m H' p => ⟨fun i d hd => ?_, ?_⟩⟩
  · rw [List.getElem?_map] at hd
    by_cases hi : i < t.length
    · rw [List.getElem?_eq_getElem hi] at hd
      cases hd
      have hs : (S t).cps.size = t.length := S_len t
      refine ⟨by show i < (S t).cps.size; omega, fun x H2 ⟨e, c, f1, f2⟩ => ⟨e, ?_⟩⟩
      have : (S t).cps[i]? = some t[i] := by show t.toArray[i]? = _; simp [hi]
      rw [this] at f1
      cases f1
      rw [f2]
      exact at_str (ok_S.mpr fun c hc => by
        rcases List.mem_cons.mp hc with e | e
        · rw [e]; exact hok _ (List.getElem_mem hi)
        · cases e)
    · rw [List.getElem?_eq_none (by omega)] at hd; cases hd
  · show (S t).cps.size ≤ _
    rw [List.length_map]
    exact Nat.le_of_eq (S_len t)
end Dy
namespace Dy
open PySem L2 Evl Mi
abbrev EQ (Q : VK) : Ends := { nx := fun _ H' => Q .non H', rt := Q }
theorem rd_is {K : PySem.W.Frag} {X : List Addr} {H : Hp} {r : R2} {d e z w : PyData} (h : RD K X r d e H z) (q : z = w) : RD K X r d e H w := q ▸ h
theorem rc_is {K : PySem.W.Frag} {X : List Addr} {H : Hp} {r : List V → Hp → VK → Prop} {ds : List PyData} {z w : PyData} (h : RCD K X r ds H z) (q : z = w) : RCD K X r ds H w := q ▸ h
theorem eo_i {σ : L2.St} {H : Hp} {i : Int} : EvO (tPart (tC (.int i))) σ H (some i) := fun H1 _ Q q => ⟨i, rfl, q H1 (Ex.refl _)⟩
section
variable {g : G8} (G : Gf g)
theorem u_is_integer : ∀ vs H Q E, sp_is_integer g vs H Q E → t_is_integer g (EQ Q) (start ["value"] vs) H := fun vs H Q E ⟨X, ds, z, dm, ax, ⟨d, e, h⟩, q⟩ => by
  subst e
  obtain ⟨v, rfl, a⟩ := ats1 ax
  rcases h with ⟨i, rfl, rfl⟩ | ⟨rfl, rfl⟩
  · exact s_ret (evD_is (ev_andV (ev_isi (ev_var rfl a) (b := true) rfl) fun _ => ev_notV (ev_isi (ev_var rfl a) (b := false) rfl)) rfl) q
  · exact s_ret (evD_is (ev_andV (b := true) (ev_isi (ev_var rfl a) (b := false) rfl) fun h => by cases h) rfl) q
theorem u_is_row : ∀ vs H Q E, sp_is_row g vs H Q E → t_is_row g (EQ Q) (start ["value"] vs) H := fun vs H Q E ⟨X, ds, z, dm, ax, ⟨d, e, h, hz⟩, q⟩ => by
  subst e hz
  obtain ⟨v, rfl, a⟩ := ats1 ax
  rcases h with ⟨l, rfl⟩ | ⟨l, rfl⟩
  · exact s_ret (evD_is (ev_isi2 (b := true) (c := false) (ev_var rfl a) rfl rfl) rfl) q
  · exact s_ret (evD_is (ev_isi2 (b := false) (c := true) (ev_var rfl a) rfl rfl) rfl) q
theorem mem_LETS {c : Nat} : decide (c ∈ LETS) = isL c := by
  have h : ∀ c, c < 123 → (decide (c ∈ LETS) = isL c) := by decide
  by_cases hc : c < 123
  · exact h c hc
  · have h1 : isL c = false := by unfold isL; simp; omega
    have h2 : ∀ x ∈ LETS, x < 123 := by decide
    rw [h1, decide_eq_false fun m => hc (h2 c m)]
theorem mem_FIGS {c : Nat} : decide (c ∈ FIGS) = isF c := by
  have h : ∀ c, c < 123 → (decide (c ∈ FIGS) = isF c) := by decide
  by_cases hc : c < 123
  · exact h c hc
  · have h1 : isF c = false := by unfold isF; simp; omega
    have h2 : ∀ x ∈ FIGS, x < 123 := by decide
    rw [h1, decide_eq_false fun m => hc (h2 c m)]
theorem rd_inTs {K : PySem.W.Frag} {X : List Addr} {H : Hp} {x : T} {ts : List T} : RD K X (rIn K false) (Mi.str x) (.tuple (ts.map Mi.str)) H (.bool (decide (x ∈ ts))) := by
  have h : RD K X (rIn K false) (.str (S x)) (.tuple ((ts.map S).map .str)) H _ := rd_inT
  have e : (ts.map S).map PyData.str = ts.map Mi.str := by rw [List.map_map]; rfl
  rw [e] at h
  have e2 : decide (S x ∈ ts.map S) = decide (x ∈ ts) := by
    congr 1
    apply propext
    constructor
    · intro m
      obtain ⟨y, hy, e⟩ := List.mem_map.mp m
      rw [← S_inj e]; exact hy
    · exact List.mem_map_of_mem
  rw [e2] at h
  exact h
theorem rd_inLs {K : PySem.W.Frag} {X : List Addr} {H : Hp} {x : T} {ts : List T} : RD K X (rIn K false) (Mi.str x) (.list (ts.map Mi.str)) H (.bool (decide (x ∈ ts))) := by
  have h : RD K X (rIn K false) (.str (S x)) (.list ((ts.map S).map .str)) H _ := rd_inL
  have e : (ts.map S).map PyData.str = ts.map Mi.str := by rw [List.map_map]; rfl
  rw [e] at h
  have e2 : decide (S x ∈ ts.map S) = decide (x ∈ ts) := by
    congr 1
    apply propext
    constructor
    · intro m
      obtain ⟨y, hy, e⟩ := List.mem_map.mp m
      rw [← S_inj e]; exact hy
    · exact List.mem_map_of_mem
  rw [e2] at h
  exact h
theorem rd_niTs {K : PySem.W.Frag} {X : List Addr} {H : Hp} {x : T} {ts : List T} : RD K X (rIn K true) (Mi.str x) (.tuple (ts.map Mi.str)) H (.bool (!decide (x ∈ ts))) := by
  have h : RD K X (rIn K true) (.str (S x)) (.tuple ((ts.map S).map .str)) H _ := rd_niT
  have e : (ts.map S).map PyData.str = ts.map Mi.str := by rw [List.map_map]; rfl
  rw [e] at h
  have e2 : decide (S x ∈ ts.map S) = decide (x ∈ ts) := by
    congr 1
    apply propext
    constructor
    · intro m
      obtain ⟨y, hy, e⟩ := List.mem_map.mp m
      rw [← S_inj e]; exact hy
    · exact List.mem_map_of_mem
  rw [e2] at h
  exact h
theorem rd_niLs {K : PySem.W.Frag} {X : List Addr} {H : Hp} {x : T} {ts : List T} : RD K X (rIn K true) (Mi.str x) (.list (ts.map Mi.str)) H (.bool (!decide (x ∈ ts))) := by
  have h : RD K X (rIn K true) (.str (S x)) (.list ((ts.map S).map .str)) H _ := rd_niL
  have e : (ts.map S).map PyData.str = ts.map Mi.str := by rw [List.map_map]; rfl
  rw [e] at h
  have e2 : decide (S x ∈ ts.map S) = decide (x ∈ ts) := by
    congr 1
    apply propext
    constructor
    · intro m
      obtain ⟨y, hy, e⟩ := List.mem_map.mp m
      rw [← S_inj e]; exact hy
    · exact List.mem_map_of_mem
  rw [e2] at h
  exact h
theorem rd_eqs {K : PySem.W.Frag} {X : List Addr} {H : Hp} {x y : T} : RD K X rEq (Mi.str x) (Mi.str y) H (.bool (decide (x = y))) := by
  have h : RD K X rEq (.str (S x)) (.str (S y)) H _ := rd_eqS
  have e : decide (S x = S y) = decide (x = y) := by
    congr 1
    exact propext ⟨S_inj, fun h => by rw [h]⟩
  rw [e] at h
  exact h
theorem rd_nes {K : PySem.W.Frag} {X : List Addr} {H : Hp} {x y : T} : RD K X rNe (Mi.str x) (Mi.str y) H (.bool (!decide (x = y))) := by
  have h : RD K X rNe (.str (S x)) (.str (S y)) H _ := rd_neS
  have e : decide (S x = S y) = decide (x = y) := by
    congr 1
    exact propext ⟨S_inj, fun h => by rw [h]⟩
  rw [e] at h
  exact h
theorem evs {K : PySem.W.Frag} {X : List Addr} {σ : L2.St} {H : Hp} {x : Str} {t : T} (h : x = S t := by rfl) (k : ok x := by decide +kernel) : EvD K X (tC (.str x)) σ H (Mi.str t) := by
  subst h; exact ev_str k
theorem name_len {x : T} (h : NameOk x) : 1 ≤ x.length := by
  obtain ⟨c, r, e, _⟩ := h.ne
  rw [e]; simp
include G in
theorem u_is_name : ∀ vs H Q E, sp_is_name g vs H Q E → t_is_name g (EQ Q) (start ["value", "sign"] vs) H := fun vs H Q E ⟨X, ds, z, dm, ax, ⟨x, hx, e, hz⟩, q⟩ => by
  subst e hz
  obtain ⟨v, rfl, a⟩ := ats1 ax
  have h1 := name_len hx
  have h8 := hx.len
  obtain ⟨c, r, ex, hc⟩ := hx.ne
  refine Evl.q_when (b := false) (et_is (et_or (et_not (et_B (ev_isi (ev_var rfl a) (b := true) rfl))) fun _ => et_or (et_not (et_test (et_chain (a := true) (b := true) ev_int (ev_cb (ea_cons (ev_var rfl a) ea_nil) (rc_lenS (by omega))) (rd_is rd_le (by rw [decide_eq_true]; omega)) (fun _ => ev_int) (fun _ => rd_is rd_le (by rw [decide_eq_true]; omega))))) fun _ =>
    et_test (ev_op (ev_var rfl a) (ev_cD (aW G)) rd_inTs)) (by simpa using hx.no)) (fun h => by cases h) fun _ H1 e1 => ?_
  refine s_ret (evD_is (ev_andV (a := true) (b := true) (ev_op (evD_is (ev_op (ev_var rfl (a.ex e1)) ev_int (rd_ixS (z := x) (j := 0) (c := c) (by omega) (by rw [ex]; rfl))) rfl) (evs (t := LETS)) (rd_is rd_inC (by rw [mem_LETS, hc]))) fun _ => ev_cb (ea_cons (ev_lc (dm.pr e1) (ei_str (ev_var rfl (a.ex e1))) (fun _ => true) (fun _ => .bool true) (by rw [List.length_map]; omega) (fun Y H2 k dY v d ad hd => fun H3 e3 Q q => q H3 (Ex.refl _)) fun Y H2 k dY v d ad hd _ => ?_) ea_nil) ?_) rfl) fun v H2 e2 av => q v H2 (e1.trans e2) av
  · obtain ⟨b, hb, rfl⟩ := List.mem_map.mp hd
    refine evD_is (ev_orV (a := isL b) (b := isF b) (ev_op (ev_var rfl ad) (evs (t := LETS)) (rd_is rd_inC (by rw [mem_LETS]))) fun _ => ev_op (ev_var rfl ad) (evs (t := FIGS)) (rd_is rd_inC (by rw [mem_FIGS]))) (by rw [hx.all b hb])
  · have : (((x.map fun c => Mi.str [c]).filter fun _ => true).map fun _ => PyData.bool true) = (x.map fun _ => true).map .bool := by
      rw [List.filter_eq_self.mpr (fun _ _ => rfl), List.map_map, List.map_map]; rfl
    rw [this]
    exact rc_is rc_all (congrArg PyData.bool (by simp))
end
end Dy
namespace Dy
open PySem L2 Evl Mi
section
variable {g : G8} {X : List Addr} {H : Hp} {σ : L2.St}
theorem u_is_head : ∀ vs H Q E, sp_is_head g vs H Q E → t_is_head g (EQ Q) (start ["value", "heads", "length"] vs) H := fun vs H Q E ⟨X, ds, z, dm, ax, ⟨h, rest, hs, n, e, hz⟩, q⟩ => by
  subst e hz
  obtain ⟨v, w, u, rfl, a, b, c⟩ := ats3 ax
  have e0 : EvD g.K X (tOp (rIx g.K) (tVar 0) (tC (.int 0))) (start ["value", "heads", "length"] [v, w, u]) H (Mi.str h) := ev_op (ev_var rfl a) ev_int (rd_ixT (j := 0) rfl)
  refine s_ret (evD_is (ev_andV (a := true) (ev_isi (ev_var rfl a) (b := true) rfl) fun _ => ev_andV (ev_op (ev_cb (ea_cons (ev_var rfl a) ea_nil) rc_lenT) (ev_var rfl c) rd_eqI) fun _ => ev_andV (a := true) (b := decide (h ∈ hs)) (ev_isi e0 (b := true) rfl) fun _ => ev_op e0 (ev_var rfl b) rd_inTs) ?_) q
  rw [Bool.true_and, Bool.true_and]
  congr 2
  rw [List.length_cons]
  exact decide_eq_decide.mpr (by omega)
/-- is_head told -/
theorem ev_head {te : TE} {th : TE} {h : T} {rest : List PyData} {hs : List T} {n : Nat} {b : Bool} (dm : Dom X H) (he : EvD g.K X te σ H (.tuple (Mi.str h :: rest))) (hh : EvD g.K X th σ H (.tuple (hs.map Mi.str))) (hb : (decide (rest.length + 1 = n) && decide (h ∈ hs)) = b) :
    EvT (tB (tCall (sp_is_head g) [] E0 (tCons te (tCons th (tCons (tC (.int (n : Nat))) tNil))))) σ H b :=
  et_B (evD_is (ev_call (ea_cons he (ea_cons hh (ea_cons ev_int ea_nil))) (spd dm ⟨h, rest, hs, n, rfl, rfl⟩)) (by rw [hb]))
theorem ev_t1 {x : Str} {t : T} (dm : Dom X H) (h : x = S t := by rfl) (k : ok x := by decide +kernel) : EvD g.K X (tTup (tCons (tC (.str x)) tNil)) σ H (.tuple ([t].map Mi.str)) := ev_tup dm (ea_cons (evs h k) ea_nil) (by simp)
theorem ev_t2 {x y : Str} {t u : T} (dm : Dom X H) (h : x = S t := by rfl) (k : ok x := by decide +kernel) (h' : y = S u := by rfl) (k' : ok y := by decide +kernel) : EvD g.K X (tTup (tCons (tC (.str x)) (tCons (tC (.str y)) tNil))) σ H (.tuple ([t, u].map Mi.str)) := ev_tup dm (ea_cons (evs h k) (ea_cons (evs h' k') ea_nil)) (by simp)
theorem ev_t3 {x y w : Str} {t u s : T} (dm : Dom X H) (h : x = S t := by rfl) (k : ok x := by decide +kernel) (h' : y = S u := by rfl) (k' : ok y := by decide +kernel) (h'' : w = S s := by rfl) (k'' : ok w := by decide +kernel) : EvD g.K X (tTup (tCons (tC (.str x)) (tCons (tC (.str y)) (tCons (tC (.str w)) tNil)))) σ H (.tuple ([t, u, s].map Mi.str)) := ev_tup dm (ea_cons (evs h k) (ea_cons (evs h' k') (ea_cons (evs h'' k'') ea_nil))) (by simp)
theorem u_term_breach : ∀ vs H Q E, sp_term_breach g vs H Q E → t_term_breach g (EQ Q) (start ["value"] vs) H := fun vs H Q E ⟨X, ds, z, dm, ax, ⟨d, ps, hb, e, hz⟩, q⟩ => by
  subst e hz
  obtain ⟨v, rfl, a⟩ := ats1 ax
  have no : ∀ {h : T} {rest : List PyData} {hs : List T} {n : Nat}, (decide (rest.length + 1 = n) && decide (h ∈ hs)) = false → (decide (rest.length + 1 = n) && decide (h ∈ hs)) = false := fun h => h
  cases hb with
  | @num n hn =>
    refine Evl.q_when (b := true) (ev_head dm (ev_var rfl a) (ev_t1 (t := kNumber) dm) (by rfl)) (fun _ H1 e1 => ?_) (fun h => by cases h)
    have a1 : At g.K X H1 v (.tuple [Mi.str kNumber, .int n]) := a.ex e1
    have ei : EvD g.K X (tOp (rIx g.K) (tVar 0) (tC (.int 1))) (start ["value"] [v]) H1 (.int n) := ev_op (ev_var rfl a1) ev_int (rd_ixT (j := 1) rfl)
    refine s_ret (ev_if (b := true) (et_is (Evl.et_and (et_B (ev_call (ea_cons ei ea_nil) (spd (z := .bool true) (dm.pr e1) ⟨_, rfl, .inl ⟨n, rfl, rfl⟩⟩))) fun _ => et_test (et_chain (a := true) (b := true) ev_int ei (rd_is rd_le (by rw [decide_eq_true]; omega)) (fun _ => ev_int) (fun _ => rd_is rd_le (by rw [decide_eq_true]; omega)))) rfl)
      (fun _ => ev_lst (dm.pr e1) ea_nil (by simp)) (fun h => by cases h)) fun v H2 e2 av => q v H2 (e1.trans e2) av
  | @var x hx =>
    refine Evl.q_when (b := false) (ev_head dm (ev_var rfl a) (ev_t1 (t := kNumber) dm) (by rfl)) (fun h => by cases h) fun _ H1 e1 => ?_
    refine Evl.q_when (b := true) (ev_head (dm.pr e1) (ev_var rfl (a.ex e1)) (ev_t1 (t := kLetter) (dm.pr e1)) (by rfl)) (fun _ H2 e2 => ?_) (fun h => by cases h)
    have e12 := e1.trans e2
    have a1 : At g.K X H2 v (.tuple [Mi.str kLetter, Mi.str x]) := a.ex e12
    have ei : EvD g.K X (tOp (rIx g.K) (tVar 0) (tC (.int 1))) (start ["value"] [v]) H2 (Mi.str x) := ev_op (ev_var rfl a1) ev_int (rd_ixT (j := 1) rfl)
    exact s_ret (ev_if (b := true) (et_B (ev_call (ea_cons ei ea_nil) (spd (dm.pr e12) ⟨x, hx, rfl, rfl⟩))) (fun _ => ev_lst (dm.pr e12) ea_nil (by simp)) (fun h => by cases h)) fun v H3 e3 av => q v H3 (e12.trans e3) av
  | @neg b =>
    refine Evl.q_when (b := false) (ev_head dm (ev_var rfl a) (ev_t1 (t := kNumber) dm) (by rfl)) (fun h => by cases h) fun _ H1 e1 => ?_
    refine Evl.q_when (b := false) (ev_head (dm.pr e1) (ev_var rfl (a.ex e1)) (ev_t1 (t := kLetter) (dm.pr e1)) (by rfl)) (fun h => by cases h) fun _ H2 e2 => ?_
    have e12 := e1.trans e2
    refine Evl.q_when (b := true) (ev_head (dm.pr e12) (ev_var rfl (a.ex e12)) (ev_t1 (t := kNeg) (dm.pr e12)) (by rfl)) (fun _ H3 e3 => ?_) (fun h => by cases h)
    have e13 := e12.trans e3
    exact s_ret (ev_lst (dm.pr e13) (ea_cons (ev_op (ev_var rfl (a.ex e13)) ev_int (rd_ixT (j := 1) rfl)) ea_nil) (by simp)) fun v H4 e4 av => q v H4 (e13.trans e4) av
  | @bin h b c hh =>
    have n1 : h ≠ kNumber ∧ h ≠ kLetter ∧ h ≠ kNeg := by
      have : ∀ h ∈ [kPlus, kMinus, kTimes], h ≠ kNumber ∧ h ≠ kLetter ∧ h ≠ kNeg := by decide
      exact this h hh
    refine Evl.q_when (b := false) (ev_head dm (ev_var rfl a) (ev_t1 (t := kNumber) dm) (by simp)) (fun h => by cases h) fun _ H1 e1 => ?_
    refine Evl.q_when (b := false) (ev_head (dm.pr e1) (ev_var rfl (a.ex e1)) (ev_t1 (t := kLetter) (dm.pr e1)) (by simp)) (fun h => by cases h) fun _ H2 e2 => ?_
    have e12 := e1.trans e2
    refine Evl.q_when (b := false) (ev_head (dm.pr e12) (ev_var rfl (a.ex e12)) (ev_t1 (t := kNeg) (dm.pr e12)) (by simp)) (fun h => by cases h) fun _ H3 e3 => ?_
    have e13 := e12.trans e3
    refine Evl.q_when (b := true) (ev_head (dm.pr e13) (ev_var rfl (a.ex e13)) (ev_t3 (t := kPlus) (u := kMinus) (s := kTimes) (dm.pr e13)) (by rw [decide_eq_true hh]; rfl)) (fun _ H4 e4 => ?_) (fun h => by cases h)
    have e14 := e13.trans e4
    exact s_ret (ev_lst (dm.pr e14) (ea_cons (ev_op (ev_var rfl (a.ex e14)) ev_int (rd_ixT (j := 1) rfl)) (ea_cons (ev_op (ev_var rfl (a.ex e14)) ev_int (rd_ixT (j := 2) rfl)) ea_nil)) (by simp)) fun v H5 e5 av => q v H5 (e14.trans e5) av
  | @pow b n hn =>
    refine Evl.q_when (b := false) (ev_head dm (ev_var rfl a) (ev_t1 (t := kNumber) dm) (by simp)) (fun h => by cases h) fun _ H1 e1 => ?_
    refine Evl.q_when (b := false) (ev_head (dm.pr e1) (ev_var rfl (a.ex e1)) (ev_t1 (t := kLetter) (dm.pr e1)) (by simp)) (fun h => by cases h) fun _ H2 e2 => ?_
    have e12 := e1.trans e2
    refine Evl.q_when (b := false) (ev_head (dm.pr e12) (ev_var rfl (a.ex e12)) (ev_t1 (t := kNeg) (dm.pr e12)) (by simp)) (fun h => by cases h) fun _ H3 e3 => ?_
    have e13 := e12.trans e3
    refine Evl.q_when (b := false) (ev_head (dm.pr e13) (ev_var rfl (a.ex e13)) (ev_t3 (t := kPlus) (u := kMinus) (s := kTimes) (dm.pr e13)) (by rfl)) (fun h => by cases h) fun _ H4 e4 => ?_
    have e14 := e13.trans e4
    refine Evl.q_when (b := true) (ev_head (dm.pr e14) (ev_var rfl (a.ex e14)) (ev_t1 (t := kPower) (dm.pr e14)) (by rfl)) (fun _ H5 e5 => ?_) (fun h => by cases h)
    have e15 := e14.trans e5
    have a1 : At g.K X H5 v (.tuple [Mi.str kPower, b, .int n]) := a.ex e15
    have ei : EvD g.K X (tOp (rIx g.K) (tVar 0) (tC (.int 2))) (start ["value"] [v]) H5 (.int n) := ev_op (ev_var rfl a1) ev_int (rd_ixT (j := 2) rfl)
    exact s_ret (ev_if (b := true) (et_is (Evl.et_and (et_B (ev_call (ea_cons ei ea_nil) (spd (z := .bool true) (dm.pr e15) ⟨_, rfl, .inl ⟨n, rfl, rfl⟩⟩))) fun _ => et_test (et_chain (a := true) (b := true) ev_int ei (rd_is rd_le (by rw [decide_eq_true]; omega)) (fun _ => ev_int) (fun _ => rd_is rd_le (by rw [decide_eq_true]; omega)))) rfl)
      (fun _ => ev_lst (dm.pr e15) (ea_cons (ev_op (ev_var rfl a1) ev_int (rd_ixT (j := 1) rfl)) ea_nil) (by simp)) (fun h => by cases h)) fun v H6 e6 av => q v H6 (e15.trans e6) av
end
end Dy
namespace Dy
open PySem L2 Evl Mi
section
variable {g : G8} (G : Gf g)
theorem nds_app : ∀ ds es : List PyData, nds (ds ++ es) = nds ds + nds es
  | [], es => by rw [List.nil_append]; show nds es = 0 + nds es; omega
  | d :: ds, es => by
    show nd d + nds (ds ++ es) = nd d + nds ds + nds es
    rw [nds_app ds es]; omega
theorem nd_str (x : T) : nd (Mi.str x) = 0 := rfl
theorem nd_pair (h : T) (d : PyData) : nd (pair h d) = 1 + nd d := by
  show 1 + (0 + (nd d + 0)) = _
  omega
theorem nd_trip (h : T) (d e : PyData) : nd (trip h d e) = 1 + nd d + nd e := by
  show 1 + (0 + (nd d + (nd e + 0))) = _
  omega
theorem nds_one (d : PyData) : nds [d] = nd d := by show nd d + 0 = _; omega
theorem term_br {d : PyData} (h : TermD d) : ∃ ps, TBr d ps ∧ (∀ p ∈ ps, TermD p) ∧ nds ps < nd d := by
  cases h with
  | num h => exact ⟨_, .num h, by simp, by rw [nd_pair]; show 0 < _; omega⟩
  | var h => exact ⟨_, .var h, by simp, by rw [nd_pair]; show 0 < _; omega⟩
  | neg h => exact ⟨_, .neg, by simpa using h, by rw [nd_pair, nds_one]; omega⟩
  | bin h a b => exact ⟨_, .bin h, by simp [a, b], by rw [nd_trip]; show nd _ + (nd _ + 0) < _; omega⟩
  | pow a h => exact ⟨_, .pow h, by simpa using a, by rw [nd_trip, nds_one]; omega⟩
theorem nd_term {d : PyData} (h : TermD d) : 1 ≤ nd d := by
  obtain ⟨_, _, _, h⟩ := term_br h
  omega
theorem len_terms : ∀ {ds : List PyData}, (∀ d ∈ ds, TermD d) → ds.length ≤ nds ds
  | [], _ => Nat.zero_le _
  | d :: ds, h => by
    have := nd_term (h d List.mem_cons_self)
    have := len_terms (ds := ds) fun x hx => h x (List.mem_cons_of_mem _ hx)
    show ds.length + 1 ≤ nd d + nds ds
    omega
theorem rd_gt0 {K : PySem.W.Frag} {X : List Addr} {H : Hp} {n : Nat} : RD K X rGtI (.int (n : Nat)) (.int 0) H (.bool (decide (0 < n))) := rd_is rd_gt (by congr 1; exact decide_eq_decide.mpr (by omega))
theorem rd_isN {K : PySem.W.Frag} {X : List Addr} {H : Hp} {d : PyData} (b : Bool) (h : ∀ H1 v, At K X H1 v d → decide (v = .non) = b) : RD K X rIsN d .none H (.bool b) := RD.of fun H1 _ x y ax ay Q q => ⟨at_non_inv ay, by rw [h H1 x ax]; exact q _ at_bl⟩
theorem rd_notN {K : PySem.W.Frag} {X : List Addr} {H : Hp} {d : PyData} (b : Bool) (h : ∀ H1 v, At K X H1 v d → decide (v = .non) = b) : RD K X rNotN d .none H (.bool (!b)) := RD.of fun H1 _ x y ax ay Q q => ⟨at_non_inv ay, by rw [h H1 x ax]; exact q _ at_bl⟩
theorem isN_list {K : PySem.W.Frag} {X : List Addr} {ds : List PyData} : ∀ H1 v, At K X H1 v (.list ds) → decide (v = .non) = false := fun H1 v a => by
  obtain ⟨p, vs, rfl, _⟩ := at_lst_inv a
  rfl
theorem u_are_terms : ∀ vs H Q E, sp_are_terms g vs H Q E → t_are_terms g (EQ Q) (start ["values", "waiting", "parts"] vs) H := fun vs H Q E ⟨X, ds, z, dm, ax, ⟨l, hl, hn, e, hz⟩, q⟩ => by
  subst e hz
  obtain ⟨v, rfl, a⟩ := ats1 ax
  refine q_asgR (r_listT (ev_var rfl a) fun p H1 hp e1 la => ?_)
  refine q_loop (fun m σ' H' => ∃ a2 ds', σ' = [some v, some (.ref p), a2] ∧ LAt g.K (p :: X) H' p ds' ∧ (∀ d ∈ ds', TermD d) ∧ m = nds ds' ∧ nds ds' ≤ 100000 ∧ Ex H H') _ ⟨_, l, rfl, la, hl, rfl, hn, e1⟩ fun m σ' H' ⟨a2, ds', hσ, lb, hd, hm, hb, he⟩ => ?_
  subst hσ
  refine ⟨decide (0 < ds'.length), et_test (ev_op (ev_lenLA rfl lb) ev_int rd_gt0), fun hb1 H2 e2 => ?_, fun _ H2 e2 => ?_⟩
  · rcases List.eq_nil_or_concat ds' with h0 | ⟨es, d, h0⟩
    · subst h0; simp at hb1
    · rw [List.concat_eq_append] at h0
      subst h0
      obtain ⟨ps, hbr, hps, hlt⟩ := term_br (hd d (by simp))
      have hes : ∀ d ∈ es, TermD d := fun x hx => hd x (by simp [hx])
      rw [nds_app, nds_one] at hm hb
      refine q_asgR (r_pop rfl (lb.ex e2) fun w H3 p3 lc aw => ?_)
      have dm3 : Dom (p :: X) H3 := (dm.more (p := p) (he.trans e2) (lb.ex e2).dom).prs p3 fun a ha => by
        rcases List.mem_cons.mp ha with z | z
        · rw [z]; exact lc.dom
        · cases z
      have x3 : Ex H H3 := ex_pr (he.trans e2) p3 hp
      show sp_term_breach g [w] H3 _ _
      refine ⟨p :: X, _, _, dm3, .cons aw .nil, ⟨d, ps, hbr, rfl, rfl⟩, fun u H4 e4 au => ?_⟩
      refine Evl.q_when (b := false) (et_test (ev_op (ev_var rfl au) ev_non (rd_isN false isN_list))) (fun h => by cases h) fun _ H5 e5 => ?_
      refine e_ext rfl ((lc.ex e4).ex e5) ?_ (ev_var rfl (au.ex e5)) fun H6 p6 ld => ⟨nds (es ++ ps), ?_, _, _, rfl, ld, ?_, rfl, ?_, ?_⟩
      · have := len_terms hes
        have := len_terms hps
        omega
      · rw [nds_app]; omega
      · intro x hx
        rcases List.mem_append.mp hx with h | h
        · exact hes x h
        · exact hps x h
      · rw [nds_app]; omega
      · exact ex_pr ((x3.trans e4).trans e5) p6 hp
  · exact s_ret ev_bl fun v H3 e3 av => q v H3 ((he.trans e2).trans e3) av
theorem say_br {d : PyData} (h : SayD d) : ∃ ps, SBr d ps ∧ (∀ p ∈ ps, SayD p) ∧ nds ps < nd d := by
  cases h with
  | rel h a b => exact ⟨_, .rel h, by simp, by rw [nd_trip]; show 0 < _; omega⟩
  | not h => exact ⟨_, .not, by simpa using h, by rw [nd_pair, nds_one]; omega⟩
  | bin h a b => exact ⟨_, .bin h, by simp [a, b], by rw [nd_trip]; show nd _ + (nd _ + 0) < _; omega⟩
  | quant h hx a => exact ⟨_, .quant h hx, by simpa using a, by rw [nd_trip, nds_one]; omega⟩
theorem nd_say {d : PyData} (h : SayD d) : 1 ≤ nd d := by
  obtain ⟨_, _, _, h⟩ := say_br h
  omega
theorem len_says : ∀ {ds : List PyData}, (∀ d ∈ ds, SayD d) → ds.length ≤ nds ds
  | [], _ => Nat.zero_le _
  | d :: ds, h => by
    have := nd_say (h d List.mem_cons_self)
    have := len_says (ds := ds) fun x hx => h x (List.mem_cons_of_mem _ hx)
    show ds.length + 1 ≤ nd d + nds ds
    omega
include G in
theorem u_saying_parts : ∀ vs H Q E, sp_saying_parts g vs H Q E → t_saying_parts g (EQ Q) (start ["value"] vs) H := fun vs H Q E ⟨X, ds, z, dm, ax, ⟨d, ps, hb, e, hz⟩, q⟩ => by
  subst e hz
  obtain ⟨v, rfl, a⟩ := ats1 ax
  cases hb with
  | @rel r b c hr =>
    refine Evl.q_when (b := true) (ev_head dm (ev_var rfl a) (ev_cD (aR G)) (by rw [decide_eq_true hr]; rfl)) (fun _ H1 e1 => ?_) (fun h => by cases h)
    exact s_ret (ev_lst (dm.pr e1) ea_nil (by simp)) fun v H2 e2 av => q v H2 (e1.trans e2) av
  | @not f =>
    refine Evl.q_when (b := false) (ev_head dm (ev_var rfl a) (ev_cD (aR G)) (by rfl)) (fun h => by cases h) fun _ H1 e1 => ?_
    refine Evl.q_when (b := true) (ev_head (dm.pr e1) (ev_var rfl (a.ex e1)) (ev_t1 (t := kNot) (dm.pr e1)) (by rfl)) (fun _ H2 e2 => ?_) (fun h => by cases h)
    have e12 := e1.trans e2
    exact s_ret (ev_lst (dm.pr e12) (ea_cons (ev_op (ev_var rfl (a.ex e12)) ev_int (rd_ixT (j := 1) rfl)) ea_nil) (by simp)) fun v H4 e4 av => q v H4 (e12.trans e4) av
  | @bin h b c hh =>
    have n1 : h ∉ RELS ∧ h ≠ kNot := by
      have : ∀ h ∈ PAIRS, h ∉ RELS ∧ h ≠ kNot := by decide
      exact this h hh
    refine Evl.q_when (b := false) (ev_head dm (ev_var rfl a) (ev_cD (aR G)) (by rw [decide_eq_false n1.1, Bool.and_false])) (fun h => by cases h) fun _ H1 e1 => ?_
    refine Evl.q_when (b := false) (ev_head (dm.pr e1) (ev_var rfl (a.ex e1)) (ev_t1 (t := kNot) (dm.pr e1)) (by simp)) (fun h => by cases h) fun _ H2 e2 => ?_
    have e12 := e1.trans e2
    refine Evl.q_when (b := true) (ev_head (dm.pr e12) (ev_var rfl (a.ex e12)) (ev_cD (aP G)) (by rw [decide_eq_true hh]; rfl)) (fun _ H4 e4 => ?_) (fun h => by cases h)
    have e14 := e12.trans e4
    exact s_ret (ev_lst (dm.pr e14) (ea_cons (ev_op (ev_var rfl (a.ex e14)) ev_int (rd_ixT (j := 1) rfl)) (ea_cons (ev_op (ev_var rfl (a.ex e14)) ev_int (rd_ixT (j := 2) rfl)) ea_nil)) (by simp)) fun v H5 e5 av => q v H5 (e14.trans e5) av
  | @quant h x f hh hx =>
    have n1 : h ∉ RELS ∧ h ≠ kNot ∧ h ∉ PAIRS := by
      have : ∀ h ∈ [kAll, kSome], h ∉ RELS ∧ h ≠ kNot ∧ h ∉ PAIRS := by decide
      exact this h hh
    refine Evl.q_when (b := false) (ev_head dm (ev_var rfl a) (ev_cD (aR G)) (by rw [decide_eq_false n1.1, Bool.and_false])) (fun h => by cases h) fun _ H1 e1 => ?_
    refine Evl.q_when (b := false) (ev_head (dm.pr e1) (ev_var rfl (a.ex e1)) (ev_t1 (t := kNot) (dm.pr e1)) (by simp)) (fun h => by cases h) fun _ H2 e2 => ?_
    have e12 := e1.trans e2
    refine Evl.q_when (b := false) (ev_head (dm.pr e12) (ev_var rfl (a.ex e12)) (ev_cD (aP G)) (by rw [decide_eq_false n1.2.2, Bool.and_false])) (fun h => by cases h) fun _ H4 e4 => ?_
    have e14 := e12.trans e4
    refine Evl.q_when (b := true) (et_is (Evl.et_and (ev_head (dm.pr e14) (ev_var rfl (a.ex e14)) (ev_t2 (t := kAll) (u := kSome) (dm.pr e14)) (b := true) (by rw [decide_eq_true hh]; rfl)) fun _ => et_B (ev_call (ea_cons (ev_op (ev_var rfl (a.ex e14)) ev_int (rd_ixT (j := 1) rfl)) ea_nil) (spd (dm.pr e14) ⟨x, hx, rfl, rfl⟩))) rfl) (fun _ H5 e5 => ?_) (fun h => by cases h)
    have e15 := e14.trans e5
    exact s_ret (ev_lst (dm.pr e15) (ea_cons (ev_op (ev_var rfl (a.ex e15)) ev_int (rd_ixT (j := 2) rfl)) ea_nil) (by simp)) fun v H6 e6 av => q v H6 (e15.trans e6) av
include G in
theorem u_is_saying : ∀ vs H Q E, sp_is_saying g vs H Q E → t_is_saying g (EQ Q) (start ["value", "waiting", "here", "parts"] vs) H := fun vs H Q E ⟨X, ds, z, dm, ax, ⟨d0, hl, hn, e, hz⟩, q⟩ => by
  subst e hz
  obtain ⟨v, rfl, a⟩ := ats1 ax
  refine q_asgR (r_lst (ea_cons (ev_var rfl a) ea_nil) (by simp) fun p H1 hp e1 la => ?_)
  refine q_loop (fun m σ' H' => ∃ a2 a3 ds', σ' = [some v, some (.ref p), a2, a3] ∧ LAt g.K (p :: X) H' p ds' ∧ (∀ d ∈ ds', SayD d) ∧ m = nds ds' ∧ nds ds' ≤ 100000 ∧ Ex H H') _ ⟨_, _, [d0], rfl, la, by simpa using hl, rfl, by rw [nds_one]; exact hn, e1⟩ fun m σ' H' ⟨a2, a3, ds', hσ, lb, hd, hm, hb, he⟩ => ?_
  subst hσ
  refine ⟨decide (0 < ds'.length), et_test (ev_op (ev_lenLA rfl lb) ev_int rd_gt0), fun hb1 H2 e2 => ?_, fun _ H2 e2 => ?_⟩
  · rcases List.eq_nil_or_concat ds' with h0 | ⟨es, d, h0⟩
    · subst h0; simp at hb1
    · rw [List.concat_eq_append] at h0
      subst h0
      have hd1 := hd d (by simp)
      obtain ⟨ps, hbr, hps, hlt⟩ := say_br hd1
      have hes : ∀ d ∈ es, SayD d := fun x hx => hd x (by simp [hx])
      rw [nds_app, nds_one] at hm hb
      refine q_asgR (r_pop rfl (lb.ex e2) fun w H3 p3 lc aw => ?_)
      have dm3 : Dom (p :: X) H3 := (dm.more (p := p) (he.trans e2) (lb.ex e2).dom).prs p3 fun a ha => by
        rcases List.mem_cons.mp ha with z | z
        · rw [z]; exact lc.dom
        · cases z
      have x3 : Ex H H3 := ex_pr (he.trans e2) p3 hp
      refine q_asg (ev_call (ea_cons (ev_var rfl aw) ea_nil) (spd dm3 ⟨d, ps, hbr, rfl, rfl⟩)) fun u H4 e4 au => ?_
      have dm4 := dm3.pr e4
      have test : EvT (tOr (tTest (tOp rIsN (tVar 3) (tC .non))) (tAnd (tTest (tOp (rIn g.K false) (tOp (rIx g.K) (tVar 2) (tC (.int 0))) (tC (.ref g.aR)))) (tNot (tB (tCall (sp_are_terms g) [] E0 (tCons (tSl (rSlT g.K) (tVar 2) (tPart (tC (.int 1))) tNoPart) tNil)))))) [some v, some (.ref p), some w, some u] H4 false := by
        refine et_is (Evl.et_or (a := false) (et_test (ev_op (ev_var rfl au) ev_non (rd_isN false isN_list))) (b := false) fun _ => ?_) rfl
        cases hd1 with
        | @rel r b c hr tb tc =>
          refine et_is (Evl.et_and (a := true) (et_test (ev_op (ev_op (ev_var rfl (aw.ex e4)) ev_int (rd_ixT (j := 0) rfl)) (ev_cD (aR G)) (rd_is rd_inTs (by rw [decide_eq_true hr])))) fun _ => Evl.et_not (a := true) (et_B (ev_call (ea_cons (ev_slT dm4 (ev_var rfl (aw.ex e4)) eo_i eo_none (fun h => by have h1 := h.1; revert h1; show ¬ (HT.sIx 3 0 (some 1) = 0); decide)) ea_nil) (spd dm4 ⟨[b, c], by simp [tb, tc], ?_, rfl, rfl⟩)))) rfl
          rw [nd_trip] at hb
          show nd b + (nd c + 0) ≤ _
          omega
        | not h => exact et_is (Evl.et_and (a := false) (et_test (ev_op (ev_op (ev_var rfl (aw.ex e4)) ev_int (rd_ixT (j := 0) rfl)) (ev_cD (aR G)) (rd_is rd_inTs rfl))) (b := false) fun h => by cases h) rfl
        | @bin h b c hh hb hc =>
          have n1 : ∀ h ∈ four, h ∉ RELS := by decide
          exact et_is (Evl.et_and (a := false) (et_test (ev_op (ev_op (ev_var rfl (aw.ex e4)) ev_int (rd_ixT (j := 0) rfl)) (ev_cD (aR G)) (rd_is rd_inTs (by rw [decide_eq_false (n1 h hh)])))) (b := false) fun h => by cases h) rfl
        | @quant h x f hh hx hf =>
          have n1 : ∀ h ∈ [kAll, kSome], h ∉ RELS := by decide
          exact et_is (Evl.et_and (a := false) (et_test (ev_op (ev_op (ev_var rfl (aw.ex e4)) ev_int (rd_ixT (j := 0) rfl)) (ev_cD (aR G)) (rd_is rd_inTs (by rw [decide_eq_false (n1 h hh)])))) (b := false) fun h => by cases h) rfl
      refine Evl.q_when (b := false) test (fun h => by cases h) fun _ H5 e5 => ?_
      refine e_ext rfl ((lc.ex e4).ex e5) ?_ (ev_var rfl (au.ex e5)) fun H6 p6 ld => ⟨nds (es ++ ps), ?_, _, _, _, rfl, ld, ?_, rfl, ?_, ?_⟩
      · have := len_says hes
        have := len_says hps
        omega
      · rw [nds_app]; omega
      · intro x hx
        rcases List.mem_append.mp hx with h | h
        · exact hes x h
        · exact hps x h
      · rw [nds_app]; omega
      · exact ex_pr ((x3.trans e4).trans e5) p6 hp
  · exact s_ret ev_bl fun v H3 e3 av => q v H3 ((he.trans e2).trans e3) av
end
end Dy
namespace Dy
open PySem L2 Evl Mi
section
variable {g : G8} (G : Gf g)
include G in
theorem u_Read_init : ∀ vs H Q E, sp_Read_init g vs H Q E → t_Read_init g (EQ Q) (start ["self", "tree"] vs) H := fun vs H Q E ⟨r, dx, v, e, h, q⟩ => by
  subst e
  exact ⟨v, rfl, _, rfl, r, _, dx, [], rfl, h, G.cD, G.nD, by decide, q _ (fun a ha => upd_ne ha) upd_same⟩
include G in
theorem u_Unread_init : ∀ vs H Q E, sp_Unread_init g vs H Q E → t_Unread_init g (EQ Q) (start ["self", "place", "is_end"] vs) H := fun vs H Q E ⟨r, dx, v, w, e, h, q⟩ => by
  subst e
  refine ⟨v, rfl, _, rfl, r, _, dx, [], rfl, h, G.cU, G.nU1, by decide, ?_⟩
  exact ⟨w, rfl, _, rfl, r, _, dx, _, rfl, upd_same, G.cU, G.nU2, by show 1 < 1000; decide, q _ (fun a ha => by rw [upd_ne ha, upd_ne ha]) upd_same⟩
theorem runEnd_step {p : Nat → Bool} {t : T} {j : Nat} (h : j < t.length) : runEnd p t j = if p t[j] then runEnd p t (j + 1) else j := by
  unfold runEnd
  rw [List.drop_eq_getElem_cons h, List.takeWhile_cons]
  by_cases hp : p t[j] = true
  · rw [if_pos hp, if_pos hp, List.length_cons]; omega
  · rw [if_neg hp, if_neg hp]; rfl
theorem runEnd_end {p : Nat → Bool} {t : T} : runEnd p t t.length = t.length := by
  unfold runEnd
  rw [List.drop_length]; rfl
theorem rd_ixSs {K : PySem.W.Frag} {X : List Addr} {H : Hp} {z : T} {j c : Nat} (hl : z.length ≤ 10000) (h : z[j]? = some c) : RD K X (rIx K) (Mi.str z) (.int (j : Nat)) H (Mi.str [c]) := rd_ixS (by omega) h
theorem rc_lenSs {K : PySem.W.Frag} {X : List Addr} {H : Hp} {t : T} (h : t.length ≤ 10000) : RCD K X (rLenA K) [Mi.str t] H (.int (t.length : Nat)) := rc_lenS (by omega)
theorem rd_ltN {K : PySem.W.Frag} {X : List Addr} {H : Hp} {m n : Nat} : RD K X rLtI (.int (m : Nat)) (.int (n : Nat)) H (.bool (decide (m < n))) := rd_is rd_lt (by congr 1; exact decide_eq_decide.mpr (by omega))
theorem rd_gtN {K : PySem.W.Frag} {X : List Addr} {H : Hp} {m n : Nat} : RD K X rGtI (.int (m : Nat)) (.int (n : Nat)) H (.bool (decide (n < m))) := rd_is rd_gt (by congr 1; exact decide_eq_decide.mpr (by omega))
theorem rd_eqNn {K : PySem.W.Frag} {X : List Addr} {H : Hp} {m n : Nat} : RD K X rEq (.int (m : Nat)) (.int (n : Nat)) H (.bool (decide (m = n))) := rd_is rd_eqI (by congr 1; exact decide_eq_decide.mpr (by omega))
theorem u_run_end : ∀ vs H Q E, sp_run_end g vs H Q E → t_run_end g (EQ Q) (start ["text", "at", "signs"] vs) H := fun vs H Q E ⟨X, ds, z, dm, ax, ⟨t, s, a, ha, hl, e, hz⟩, q⟩ => by
  subst e hz
  obtain ⟨v, w, u, rfl, av, aw, au⟩ := ats3 ax
  cases at_int_inv aw
  refine q_loop (fun m σ' H' => ∃ j : Nat, σ' = [some v, some (.int j), some u] ∧ j ≤ t.length ∧ m = t.length - j ∧ Ex H H' ∧ runEnd (fun c => decide (c ∈ s)) t j = runEnd (fun c => decide (c ∈ s)) t a) _ ⟨a, rfl, ha, rfl, Ex.refl _, rfl⟩ fun m σ' H' ⟨j, hσ, hj, hm, he, hr⟩ => ?_
  subst hσ
  have av := av.ex he
  have au := au.ex he
  by_cases hlt : j < t.length
  · have hs := runEnd_step (p := fun c => decide (c ∈ s)) hlt
    refine ⟨decide (t[j] ∈ s), et_is (Evl.et_and (et_test (ev_op (ev_var rfl at_int) (ev_cb (ea_cons (ev_var rfl av) ea_nil) (rc_lenSs hl)) (rd_is rd_ltN (by rw [decide_eq_true hlt])))) fun _ => et_test (ev_op (ev_op (ev_var rfl av) (ev_var rfl at_int) (rd_ixSs hl (List.getElem?_eq_getElem hlt))) (ev_var rfl au) rd_inC)) (Bool.true_and _), fun h H1 e1 => ?_, fun h H1 e1 => ?_⟩
    · refine Evl.s_aug rfl Evl.ev_c fun H2 e2 => ⟨t.length - (j + 1), by omega, j + 1, rfl, by omega, rfl, (he.trans e1).trans e2, ?_⟩
      rw [← hr, hs]
      simp only [h, if_true]
    · refine s_ret (K := g.K) (X := X) (ev_var rfl at_int) fun v H2 e2 av => q v H2 ((he.trans e1).trans e2) ?_
      rw [← hr, hs]
      simp only [h]
      exact av
  · have : j = t.length := by omega
    subst this
    refine ⟨false, et_is (Evl.et_and (b := false) (et_test (ev_op (ev_var rfl at_int) (ev_cb (ea_cons (ev_var rfl av) ea_nil) (rc_lenSs hl)) (rd_is rd_ltN (by rw [decide_eq_false hlt])))) fun h => by cases h) rfl, (fun h => by cases h), fun h H1 e1 => ?_⟩
    refine s_ret (K := g.K) (X := X) (ev_var rfl at_int) fun v H2 e2 av => q v H2 ((he.trans e1).trans e2) ?_
    rw [← hr, runEnd_end]
    exact av
theorem takeWhile_eq_take (p : Nat → Bool) : ∀ l : T, l.takeWhile p = l.take (l.takeWhile p).length
  | [] => rfl
  | c :: l => by
    rw [List.takeWhile_cons]
    split
    · rw [List.length_cons, List.take_succ_cons, ← takeWhile_eq_take p l]
    · rfl
theorem cutN_run {p : Nat → Bool} {t : T} {b : Nat} (hb : b ≤ t.length) : cutN t (some (b : Nat)) (some (runEnd p t b : Nat)) = (t.drop b).takeWhile p := by
  unfold cutN
  rw [HT.sIx_nat, HT.sIx_nat, Nat.min_eq_left hb, Nat.min_eq_left (runEnd_le hb)]
  unfold runEnd
  rw [Nat.add_sub_cancel_left, ← takeWhile_eq_take]
theorem cutN_at {t : T} {b n : Nat} (hb : b ≤ t.length) : cutN t (some (b : Nat)) (some ((b + n : Nat) : Int)) = (t.drop b).take n := by
  unfold cutN
  rw [HT.sIx_nat, HT.sIx_nat, Nat.min_eq_left hb]
  by_cases h : b + n ≤ t.length
  · rw [Nat.min_eq_left h, Nat.add_sub_cancel_left]
  · rw [Nat.min_eq_right (by omega), List.take_of_length_le (by rw [List.length_drop]; omega), List.take_of_length_le (by rw [List.length_drop]; omega)]
theorem isB_eq : (fun c => decide (c ∈ [32, 10])) = isB := by
  funext c
  unfold isB
  by_cases h1 : c = 32
  · subst h1; rfl
  · by_cases h2 : c = 10
    · subst h2; rfl
    · simp [h1, h2]
theorem isLF_eq : (fun c => decide (c ∈ LETS ++ FIGS)) = fun c => isL c || isF c := by
  funext c
  rw [← mem_LETS, ← mem_FIGS]
  by_cases h1 : c ∈ LETS <;> by_cases h2 : c ∈ FIGS <;> simp [h1, h2]
theorem isF_eq : (fun c => decide (c ∈ FIGS)) = isF := by
  funext c
  exact mem_FIGS
theorem rd_addN {K : PySem.W.Frag} {X : List Addr} {H : Hp} {m n : Nat} : RD K X rAddI (.int (m : Nat)) (.int (n : Nat)) H (.int ((m + n : Nat) : Int)) := rd_is rd_add (by congr 1)
include G in
theorem u_token_at : ∀ vs H Q E, sp_token_at g vs H Q E → t_token_at g (EQ Q) (start ["text", "at", "sign"] vs) H := fun vs H Q E ⟨X, ds, z, dm, ax, ⟨t, a, ha, hl, e, hz⟩, q⟩ => by
  subst e hz
  obtain ⟨v, w, rfl, av, aw⟩ := ats2 ax
  cases at_int_inv aw
  have hb := runEnd_le (p := isB) ha
  refine q_asg (ev_call (ea_cons (ev_var rfl av) (ea_cons (ev_var rfl at_int) (ea_cons (evs (t := [32, 10])) ea_nil))) (spd dm ⟨t, _, a, ha, hl, rfl, rfl⟩)) fun w H1 e1 aw => ?_
  rw [isB_eq] at aw
  cases at_int_inv aw
  have av := av.ex e1
  unfold tokenAt at q
  revert q
  generalize hbb : runEnd isB t a = b at *
  intro q
  have dm1 := dm.pr e1
  have ok2 : ∀ {te : TE} {z : PyData}, True → True := fun _ => trivial
  by_cases h0 : b = t.length
  · refine Evl.q_when (b := true) (et_test (ev_op (ev_var rfl at_int) (ev_cb (ea_cons (ev_var rfl av) ea_nil) (rc_lenSs hl)) (rd_is rd_eqNn (by rw [decide_eq_true h0])))) (fun _ H2 e2 => ?_) (fun h => by cases h)
    rw [h0, List.drop_length] at q
    refine s_ret (K := g.K) (X := X) (ev_tup (dm1.pr e2) (ea_cons (evs (t := nEnd)) (ea_cons (evs (t := [])) (ea_cons (ev_var rfl at_int) ea_nil))) (by simp)) fun v H3 e3 av => q v H3 ((e1.trans e2).trans e3) ?_
    rw [h0] at av
    exact av
  · have hlt : b < t.length := by omega
    have hget := List.getElem?_eq_getElem hlt
    refine Evl.q_when (b := false) (et_test (ev_op (ev_var rfl at_int) (ev_cb (ea_cons (ev_var rfl av) ea_nil) (rc_lenSs hl)) (rd_is rd_eqNn (by rw [decide_eq_false h0])))) (fun h => by cases h) fun _ H2 e2 => ?_
    have hdrop := List.drop_eq_getElem_cons hlt
    rw [hdrop, head_cons] at q
    have av2 := av.ex e2
    have dm2 := dm1.pr e2
    have e12 := e1.trans e2
    by_cases hL : isL t[b] = true
    · refine Evl.q_when (b := true) (et_test (ev_op (ev_op (ev_var rfl av2) (ev_var rfl at_int) (rd_ixSs hl hget)) (evs (t := LETS)) (rd_is rd_inC (by rw [mem_LETS, hL])))) (fun _ H3 e3 => ?_) (fun h => by cases h)
      rw [if_pos hL, ← hdrop] at q
      refine s_ret (K := g.K) (X := X) (ev_tup (dm2.pr e3) (ea_cons (evs (t := kdT .word)) (ea_cons (ev_slS (z := t) (by omega) (ev_var rfl (av2.ex e3)) (eo_int (ev_var rfl (at_int (K := g.K) (X := X)))) (eo_int (ev_call (ea_cons (ev_var rfl (av2.ex e3)) (ea_cons (ev_var rfl at_int) (ea_cons (ev_op (evs (t := LETS)) (evs (t := FIGS)) (rd_catS (by decide))) ea_nil))) (spd (dm2.pr e3) ⟨t, LETS ++ FIGS, b, hb, hl, rfl, rfl⟩)))) (ea_cons (ev_var rfl at_int) ea_nil))) (by simp)) fun v H4 e4 av => q v H4 ((e12.trans e3).trans e4) ?_
      rw [cutN_run hb, isLF_eq] at av
      exact av
    · have hL' : isL t[b] = false := by simpa using hL
      refine Evl.q_when (b := false) (et_test (ev_op (ev_op (ev_var rfl av2) (ev_var rfl at_int) (rd_ixSs hl hget)) (evs (t := LETS)) (rd_is rd_inC (by rw [mem_LETS, hL'])))) (fun h => by cases h) fun _ H3 e3 => ?_
      rw [if_neg hL] at q
      have av3 := av2.ex e3
      have dm3 := dm2.pr e3
      have e13 := e12.trans e3
      by_cases hF : isF t[b] = true
      · refine Evl.q_when (b := true) (et_test (ev_op (ev_op (ev_var rfl av3) (ev_var rfl at_int) (rd_ixSs hl hget)) (evs (t := FIGS)) (rd_is rd_inC (by rw [mem_FIGS, hF])))) (fun _ H4 e4 => ?_) (fun h => by cases h)
        rw [if_pos hF, ← hdrop] at q
        refine s_ret (K := g.K) (X := X) (ev_tup (dm3.pr e4) (ea_cons (evs (t := kdT .number)) (ea_cons (ev_slS (z := t) (by omega) (ev_var rfl (av3.ex e4)) (eo_int (ev_var rfl (at_int (K := g.K) (X := X)))) (eo_int (ev_call (ea_cons (ev_var rfl (av3.ex e4)) (ea_cons (ev_var rfl at_int) (ea_cons (evs (t := FIGS)) ea_nil))) (spd (dm3.pr e4) ⟨t, FIGS, b, hb, hl, rfl, rfl⟩)))) (ea_cons (ev_var rfl at_int) ea_nil))) (by simp)) fun v H5 e5 av => q v H5 ((e13.trans e4).trans e5) ?_
        rw [cutN_run hb, isF_eq] at av
        exact av
      · have hF' : isF t[b] = false := by simpa using hF
        refine Evl.q_when (b := false) (et_test (ev_op (ev_op (ev_var rfl av3) (ev_var rfl at_int) (rd_ixSs hl hget)) (evs (t := FIGS)) (rd_is rd_inC (by rw [mem_FIGS, hF'])))) (fun h => by cases h) fun _ H4 e4 => ?_
        rw [if_neg hF] at q
        have av4 := av3.ex e4
        have dm4 := dm3.pr e4
        have e14 := e13.trans e4
        refine q_for (ei_tup (ev_cD (aS G (X := X)))) (fun i σ' H' => (∃ x, σ' = [some v, some (.int b), x]) ∧ Ex H H' ∧ Dom X H' ∧ At g.K X H' v (Mi.str t) ∧ ∀ s ∈ SIGNS.take i, s.isPrefixOf (t.drop b) = false) (fun H5 e5 => ⟨⟨_, rfl⟩, e14.trans e5, dm4.pr e5, av4.ex e5, by simp⟩) (fun H5 i d u σ' H6 e5 p6 hd ad ⟨⟨x, hσ⟩, hx, hdm, hav, hno⟩ => ?_) (fun H5 σ' H6 e5 p6 ⟨⟨x, hσ⟩, hx, hdm, hav, hno⟩ => ?_)
        · subst hσ
          rw [List.getElem?_map] at hd
          obtain ⟨s, hs, rfl⟩ := Option.map_eq_some_iff.mp hd
          have hmem := List.mem_of_getElem? hs
          have hsl : s.length ≤ 10000 := (by decide : ∀ s ∈ SIGNS, s.length ≤ 10000) s hmem
          have tk : SIGNS.take (i + 1) = SIGNS.take i ++ [s] := by rw [List.take_add_one, hs]; rfl
          have test : EvT (tTest (tOp rEq (tSl rSlS (tVar 0) (tPart (tVar 1)) (tPart (tOp rAddI (tVar 1) (tCB (rLenA g.K) (tCons (tVar 2) tNil))))) (tVar 2))) [some v, some (.int b), some u] H6 (decide ((t.drop b).take s.length = s)) := et_test (ev_op (evD_is (ev_slS (z := t) (by omega) (ev_var rfl hav) (eo_int (ev_var rfl (at_int (K := g.K) (X := X)))) (eo_int (ev_op (ev_var rfl at_int) (ev_cb (ea_cons (ev_var rfl ad) ea_nil) (rc_lenSs hsl)) rd_addN))) (by rw [cutN_at hb]; rfl)) (ev_var rfl ad) rd_eqs)
          have hpre : s.isPrefixOf (t.drop b) = decide ((t.drop b).take s.length = s) := by
            rw [Bool.eq_iff_iff, List.isPrefixOf_iff_prefix, decide_eq_true_iff, List.prefix_iff_eq_take]
            exact eq_comm
          refine Evl.s_when test (fun h H7 e7 => ?_) (fun h H7 e7 => ?_)
          · have hf : SIGNS.find? (fun s => s.isPrefixOf (t.drop b)) = some s := by
              rw [← List.take_append_drop (i + 1) SIGNS, tk, List.append_assoc, List.find?_append, List.find?_eq_none.mpr (fun x hx => by rw [hno x hx]; simp)]
              rw [List.singleton_append, List.find?_cons, hpre, h]
              rfl
            rw [← hdrop, hf] at q
            exact s_ret (K := g.K) (X := X) (ev_tup (hdm.pr e7) (ea_cons (evs (t := kdT .sign)) (ea_cons (ev_var rfl (ad.ex e7)) (ea_cons (ev_var rfl at_int) ea_nil))) (by simp)) fun v H8 e8 av => q v H8 ((hx.trans e7).trans e8) av
          · refine ⟨p6.trans (Ex.pr e7), ⟨_, rfl⟩, hx.trans e7, hdm.pr e7, hav.ex e7, fun y hy => ?_⟩
            rw [tk] at hy
            rcases List.mem_append.mp hy with hy | hy
            · exact hno y hy
            · rw [List.mem_singleton.mp hy, hpre, h]
        · subst hσ
          rw [List.length_map, List.take_length] at hno
          have hf : SIGNS.find? (fun s => s.isPrefixOf (t.drop b)) = none := List.find?_eq_none.mpr fun x hx => by rw [hno x hx]; simp
          rw [← hdrop, hf] at q
          exact s_ret (K := g.K) (X := X) (ev_tup hdm (ea_cons (evs (t := kdT .bad)) (ea_cons (ev_op (ev_var rfl hav) (ev_var rfl at_int) (rd_ixSs hl hget)) (ea_cons (ev_var rfl at_int) ea_nil))) (by simp)) fun v H8 e8 av => q v H8 (hx.trans e8) av
end
end Dy
namespace Dy
open PySem L2 Evl Mi
theorem shared_step {w u : T} {j : Nat} (h1 : j < w.length) (h2 : j < u.length) : shared (w.drop j) (u.drop j) = if w[j] = u[j] then shared (w.drop (j + 1)) (u.drop (j + 1)) + 1 else 0 := by
  rw [List.drop_eq_getElem_cons h1, List.drop_eq_getElem_cons h2]
  rfl
theorem shared_end {w u : T} {j : Nat} (h : ¬ (j < w.length ∧ j < u.length)) : shared (w.drop j) (u.drop j) = 0 := by
  by_cases h1 : j < w.length
  · have h2 : u.length ≤ j := by omega
    rw [List.drop_eq_nil_of_le h2]
    cases w.drop j <;> rfl
  · rw [List.drop_eq_nil_of_le (by omega)]; rfl
theorem longest_snoc (u w : T) (ws : List T) : longest u (ws ++ [w]) = max (longest u ws) (shared w u) := by
  unfold longest
  rw [List.foldl_append]; rfl
theorem rc_minN {K : PySem.W.Frag} {X : List Addr} {H : Hp} {m n : Nat} : RCD K X rMinA [.int (m : Nat), .int (n : Nat)] H (.int ((min m n : Nat) : Int)) := rc_is rc_min (by congr 1; omega)
theorem rc_maxN {K : PySem.W.Frag} {X : List Addr} {H : Hp} {m n : Nat} : RCD K X rMaxA [.int (m : Nat), .int (n : Nat)] H (.int ((max m n : Nat) : Int)) := rc_is rc_max (by congr 1; omega)
section
variable {g : G8} (G : Gf g)
theorem u_longest_shared : ∀ vs H Q E, sp_longest_shared g vs H Q E → t_longest_shared g (EQ Q) (start ["token", "words", "found", "word", "many"] vs) H := fun vs H Q E ⟨X, ds, z, dm, ax, ⟨u, ws, hu, hw, e, hz⟩, q⟩ => by
  subst e hz
  obtain ⟨v0, v1, rfl, a0, a1⟩ := ats2 ax
  refine q_asg (K := g.K) (X := X) ev_int fun f H1 e1 af => ?_
  cases at_int_inv af
  refine q_for (ei_tup (ev_var rfl (a1.ex e1))) (fun i σ' H' => ∃ x3 x4, σ' = [some v0, some v1, some (.int ((longest u (ws.take i) : Nat) : Int)), x3, x4] ∧ Ex H H' ∧ Dom X H' ∧ At g.K X H' v0 (Mi.str u)) (fun H2 e2 => ⟨_, _, rfl, e1.trans e2, dm.pr (e1.trans e2), a0.ex (e1.trans e2)⟩) (fun H2 i d v σ' H3 e2 p3 hd ad ⟨x3, x4, hσ, hx, hdm, ha0⟩ => ?_) (fun H2 σ' H3 e2 p3 ⟨x3, x4, hσ, hx, hdm, ha0⟩ => ?_)
  · subst hσ
    rw [List.getElem?_map] at hd
    obtain ⟨w, hws, rfl⟩ := Option.map_eq_some_iff.mp hd
    have hmem := List.mem_of_getElem? hws
    have hwl := hw w hmem
    have tk : ws.take (i + 1) = ws.take i ++ [w] := by rw [List.take_add_one, hws]; rfl
    refine q_asg (K := g.K) (X := X) ev_int fun f H4 e4 af => ?_
    cases at_int_inv af
    refine q_loop (fun m σ' H' => ∃ j : Nat, σ' = [some v0, some v1, some (.int ((longest u (ws.take i) : Nat) : Int)), some v, some (.int j)] ∧ j ≤ w.length ∧ m = w.length - j ∧ Ex H3 H' ∧ shared w u = j + shared (w.drop j) (u.drop j)) _ ⟨0, rfl, Nat.zero_le _, rfl, e4, by rw [List.drop_zero, List.drop_zero, Nat.zero_add]⟩ fun m σ' H' ⟨j, hσ, hj, hm, he, hr⟩ => ?_
    subst hσ
    have b0 := ha0.ex he
    have bw := ad.ex he
    have fin : ∀ H5, Ex H' H5 → shared (w.drop j) (u.drop j) = 0 → tAsg (tCB rMaxA (tCons (tVar 2) (tCons (tVar 4) tNil))) (gName 2) { nx := fun σ3 H3 => Pr X H2 H3 ∧ ∃ x3 x4, σ3 = [some v0, some v1, some (.int ((longest u (ws.take (i + 1)) : Nat) : Int)), x3, x4] ∧ Ex H H3 ∧ Dom X H3 ∧ At g.K X H3 v0 (Mi.str u), rt := Q, bk := fun σ H => tRet (tVar 2) (EQ Q) σ H, ct := fun σ3 H3 => Pr X H2 H3 ∧ ∃ x3 x4, σ3 = [some v0, some v1, some (.int ((longest u (ws.take (i + 1)) : Nat) : Int)), x3, x4] ∧ Ex H H3 ∧ Dom X H3 ∧ At g.K X H3 v0 (Mi.str u) } [some v0, some v1, some (.int ((longest u (ws.take i) : Nat) : Int)), some v, some (.int j)] H5 := fun H5 e5 h0 => by
      refine s_asg (K := g.K) (X := X) (ev_cb (ea_cons (ev_var rfl at_int) (ea_cons (ev_var rfl at_int) ea_nil)) rc_maxN) fun f H6 e6 af => ?_
      cases at_int_inv af
      have ee := (he.trans e5).trans e6
      refine ⟨p3.trans (Ex.pr ee), some v, some (.int (j : Nat)), ?_, hx.trans ee, hdm.pr ee, ha0.ex ee⟩
      rw [tk, longest_snoc, hr, h0, Nat.add_zero]; rfl
    by_cases hlt : j < w.length ∧ j < u.length
    · have hs := shared_step hlt.1 hlt.2
      refine ⟨decide (w[j] = u[j]), et_is (Evl.et_and (et_test (ev_op (K := g.K) (X := X) (ev_var rfl at_int) (ev_cb (ea_cons (ev_cb (ea_cons (ev_var rfl bw) ea_nil) (rc_lenSs hwl)) (ea_cons (ev_cb (ea_cons (ev_var rfl b0) ea_nil) (rc_lenSs hu)) ea_nil)) rc_minN) (rd_is rd_ltN (by rw [decide_eq_true (by omega)])))) fun _ =>
        et_test (ev_op (ev_op (ev_var rfl bw) (ev_var rfl at_int) (rd_ixSs hwl (List.getElem?_eq_getElem hlt.1))) (ev_op (ev_var rfl b0) (ev_var rfl at_int) (rd_ixSs hu (List.getElem?_eq_getElem hlt.2))) (rd_is rd_eqs (by simp)))) (Bool.true_and _), fun h H5 e5 => ?_, fun h H5 e5 => fin H5 e5 ?_⟩
      · refine Evl.s_aug rfl Evl.ev_c fun H6 e6 => ⟨w.length - (j + 1), by omega, j + 1, rfl, by omega, rfl, (he.trans e5).trans e6, ?_⟩
        rw [hr, hs, if_pos (of_decide_eq_true h)]; omega
      · rw [hs, if_neg (of_decide_eq_false h)]
    · refine ⟨false, et_is (Evl.et_and (b := false) (et_test (ev_op (K := g.K) (X := X) (ev_var rfl at_int) (ev_cb (ea_cons (ev_cb (ea_cons (ev_var rfl bw) ea_nil) (rc_lenSs hwl)) (ea_cons (ev_cb (ea_cons (ev_var rfl b0) ea_nil) (rc_lenSs hu)) ea_nil)) rc_minN) (rd_is rd_ltN (by rw [decide_eq_false (by omega)])))) fun h => by cases h) rfl, (fun h => by cases h), fun h H5 e5 => fin H5 e5 (shared_end hlt)⟩
  · subst hσ
    rw [List.length_map, List.take_length]
    exact s_ret (K := g.K) (X := X) (ev_var rfl at_int) fun v H4 e4 av => q v H4 (hx.trans e4) av
/-! ### the reader's own -/
theorem upd_upd {H : Hp} {a : Addr} {x y : HO} : upd (upd H a x) a y = upd H a y := by
  funext b
  by_cases h : b = a
  · rw [h, upd_same, upd_same]
  · rw [upd_ne h, upd_ne h, upd_ne h]
variable {X : List Addr} {H H' H1 : Hp} {r o : Addr} {t : T} {c c' : Co} {k k' : Lk} {st : V} {wn : T} {σ : L2.St}
theorem pl_le (h : RAt g X H r o t c k st wn) : k.place + k.tok.length ≤ 10000 := Nat.le_trans h.ia.end_ h.lt
theorem tok_le (h : RAt g X H r o t c k st wn) : k.tok.length ≤ 10000 := by have := pl_le h; omega
include G in
theorem u_Reader_step : ∀ vs H Q E, sp_Reader_step g vs H Q E → t_Reader_step g (EQ Q) (start ["self", "token"] vs) H := fun vs H Q E ⟨X, r, o, t, c, k, st, wn, e, h, q⟩ => by
  subst e
  refine q_asg (ev_fld rfl (f_token G h)) fun tv H1 e1 at1 => ?_
  cases at_str_inv at1
  have h1 := h.exx e1
  refine q_asgG (ev_call (ea_cons (ev_fld rfl (f_text G h1)) (ea_cons (ev_op (ev_fld rfl (f_place G h1)) (ev_cb (ea_cons (ev_var rfl at1) ea_nil) (rc_lenSs (tok_le h))) rd_addN) ea_nil)) (spd h1.dm ⟨t, _, h.ia.end_, h.lt, rfl, rfl⟩)) fun v H2 e2 av => ?_
  refine g_tup av rfl fun vs as => ?_
  obtain ⟨kv, tv, pv, rfl, ak, atk, ap⟩ := ats3 as
  cases at_str_inv ak
  cases at_str_inv atk
  cases at_int_inv ap
  have h2 := h1.exx e2
  obtain ⟨dx, b, v', w, os, i, g1, g2, g3, g4, g5, g6, g7⟩ := h2.ex
  refine ⟨_, _, rfl, _, rfl, r, _, dx, _, rfl, g1, G.cR, G.nR _ (by decide), lenR _, ?_⟩
  refine ⟨_, _, rfl, _, rfl, r, _, dx, _, rfl, upd_same, G.cR, G.nR _ (by decide), lenR { text := _, kind := _, token := _, place := _, bound := _, opened := _, wanted := _, value := _, words := _, isb := _, stopped := _ }, ?_⟩
  refine ⟨_, _, rfl, _, rfl, r, _, dx, _, rfl, upd_same, G.cR, G.nR _ (by decide), lenR { text := _, kind := _, token := _, place := _, bound := _, opened := _, wanted := _, value := _, words := _, isb := _, stopped := _ }, rfl, ?_⟩
  refine ⟨_, rfl, ?_⟩
  rw [upd_upd, upd_upd]
  have np := next_place (t := t) (k := k)
  refine q _ ((Ex.pr (e1.trans e2)).trans pr_r) (h2.setr (c' := c) (k' := next t k) wn st (Nat.le_trans h.bl (by omega)) h.bn h.wl (Nat.le_trans h.ol (by omega)) h.ia.next rfl g2 g3 g4 g5)
include G in
theorem u_Reader_at : ∀ vs H Q E, sp_Reader_at g vs H Q E → t_Reader_at g (EQ Q) (start ["self", "kind", "tokens"] vs) H := fun vs H Q E ⟨X, r, o, t, c, k, st, wn, kd, v, ts, e, hk, h, a, q⟩ => by
  subst e
  refine s_ret (ev_andV (ev_op (ev_fld rfl (f_kind G h)) (ev_var rfl (at_str hk)) rd_eqs) fun _ => ev_op (ev_fld rfl (f_token G h)) (ev_var rfl a) rd_inTs) fun u H1 e1 au => ?_
  cases at_bl_inv au
  exact q H1 e1
theorem frames (h : RAt g X H r o t c k st wn) : ∃ os, H o = some (.lst os) ∧ Ats g.K X H os (c.opened.reverse.map opD) := by
  obtain ⟨dx, b, v', w, os, i, g1, g2, g3, g4, g5, g6, g7⟩ := h.ex
  exact ⟨os, g6, g7⟩
include G in
theorem ev_lenO {i : Nat} (hs : σ[i]? = some (some (.ref r))) (h : RAt g X H r o t c k st wn) : EvD g.K X (tCB (rLenA g.K) (tCons (tFld g.K (tVar i) "opened") tNil)) σ H (.int (c.opened.length : Nat)) := fun H1 e1 Q q => by
  obtain ⟨os, h1, h2⟩ := frames h
  refine ev_opened G hs h H1 e1 _ fun H2 e2 => ?_
  refine ⟨_, c.opened.length, rfl, .inl ⟨os, sq_of (e2 _ _ (e1 _ _ h1)), ?_⟩, q _ H2 e2 at_int⟩
  rw [h2.len]; simp
theorem opD_head (p : Op) : ∃ l, opD p = .tuple (Mi.str p.head :: l) := by
  cases p <;> exact ⟨_, rfl⟩
theorem last_op {p : Op} {l : List Op} (hc : c.opened = p :: l) (h : RAt g X H r o t c k st wn) : ∃ us v, H o = some (.lst (us ++ [v])) ∧ Ats g.K X H us (l.reverse.map opD) ∧ At g.K X H v (opD p) := by
  obtain ⟨os, h1, h2⟩ := frames h
  rw [hc, List.reverse_cons, List.map_append] at h2
  obtain ⟨us, v, rfl, a, b⟩ := Ats.snoc h2
  exact ⟨us, v, h1, a, b⟩
include G in
theorem u_Reader_top : ∀ vs H Q E, sp_Reader_top g vs H Q E → t_Reader_top g (EQ Q) (start ["self"] vs) H := fun vs H Q E ⟨X, r, o, t, c, k, st, wn, e, h, q⟩ => by
  subst e
  have main : EvD g.K X (tIf (tTest (tOp rGtI (tCB (rLenA g.K) (tCons (tFld g.K (tVar 0) "opened") tNil)) (tC (.int 0)))) (tOp (rIx g.K) (tOp (rIx g.K) (tFld g.K (tVar 0) "opened") (tUn (rU fun i => .int (-i)) (tC (.int 1)))) (tC (.int 0))) (tC (.str ""))) [some (.ref r)] H (Mi.str (Mi.top c.opened)) := by
    cases hc : c.opened with
    | nil =>
      refine ev_if (b := false) (et_test (ev_op (ev_lenO G rfl h) ev_int (rd_is rd_gt0 (by rw [hc]; rfl)))) (fun h => by cases h) fun _ => evs (t := [])
    | cons p l =>
      refine ev_if (b := true) (et_test (ev_op (ev_lenO G rfl h) ev_int (rd_is rd_gt0 (by rw [hc]; rfl)))) (fun _ => ?_) (fun h => by cases h)
      obtain ⟨us, v, h1, h2, h3⟩ := last_op hc h
      obtain ⟨l', hl'⟩ := opD_head p
      have e0 : EvD g.K X (tOp (rIx g.K) (tFld g.K (tVar 0) "opened") (tUn (rU fun i => .int (-i)) (tC (.int 1)))) [some (.ref r)] H (opD p) := fun H1 e1 Q q => by
        refine ev_opened G rfl h H1 e1 _ fun H2 e2 => ⟨1, rfl, .inl ⟨o, us ++ [v], -1, v, rfl, rfl, sq_of (e2 _ _ (e1 _ _ h1)), atI_last us v, q v H2 e2 (h3.ex (e1.trans e2))⟩⟩
      rw [hl'] at e0
      exact ev_op e0 ev_int (rd_ixT (j := 0) rfl)
  refine s_ret main fun u H1 e1 au => ?_
  cases at_str_inv au
  exact q H1 e1 (at_str_ok au)
include G in
theorem u_Reader_stop : ∀ vs H Q E, sp_Reader_stop g vs H Q E → t_Reader_stop g (EQ Q) (start ["self", "words", "signs"] vs) H := fun vs H Q E ⟨X, r, o, t, c, k, st, wn, w, s, ws, ss, e, h, aw, as, hw, q⟩ => by
  subst e
  refine q_put (o := o) (P := fun H' => Pr [r, o] H H' ∧ RAt g X H' r o t c k (.int (k.place : Nat)) wn) G rfl (by decide) (ev_fld rfl (f_place G h)) (fun v H1 e1 av => ?_) fun H1 ⟨p1, h1⟩ => ?_
  · cases at_int_inv av
    obtain ⟨dx, fs, a, b, p, q⟩ := p_stopped (h.exx e1) (.int (k.place : Nat))
    exact ⟨dx, fs, a, b, (Ex.pr e1).trans p, q⟩
  have aw1 := aw.pr (prX h p1)
  have as1 := as.pr (prX h p1)
  refine Evl.q_when (b := decide (k.kind = .word)) (et_test (ev_op (ev_fld rfl (f_kind G h1)) (evs (t := kdT .word)) (rd_is rd_eqs (by congr 1; exact decide_eq_decide.mpr ⟨kdT_inj, fun h => by rw [h]⟩)))) (fun hk H2 e2 => ?_) (fun hk H2 e2 => ?_)
  · have hk := of_decide_eq_true hk
    have h2 := h1.exx e2
    refine s_put (o := o) (P := fun H' => Pr [r, o] H2 H' ∧ RAt g X H' r o t c k (.int ((k.place + longest k.tok ws : Nat) : Int)) wn) G rfl (by decide) (ev_op (ev_fld rfl (f_place G h2)) (ev_call (ea_cons (ev_fld rfl (f_token G h2)) (ea_cons (ev_var rfl (aw1.ex e2)) ea_nil)) (spd h2.dm ⟨k.tok, ws, tok_le h, fun x hx => by have := hw x hx; omega, rfl, rfl⟩)) rd_addN) (fun v H3 e3 av => ?_) fun H3 ⟨p3, h3⟩ => ?_
    · cases at_int_inv av
      obtain ⟨dx, fs, a, b, p, q⟩ := p_stopped (h2.exx e3) (.int ((k.place + longest k.tok ws : Nat) : Int))
      exact ⟨dx, fs, a, b, (Ex.pr e3).trans p, q⟩
    refine Evl.s_when (b := false) (et_is (Evl.et_and (a := false) (b := false) (et_test (ev_op (ev_fld rfl (f_kind G h3)) (evs (t := kdT .bad)) (rd_is rd_eqs (by rw [hk]; rfl)))) fun h => by cases h) rfl) (fun h => by cases h) fun _ H4 e4 => ?_
    refine q H4 ((((p1.trans (Ex.pr e2)).trans p3).trans (Ex.pr e4))) ?_
    have e : offN k.kind k.tok ws (decide ([33, 61] ∈ ss)) = longest k.tok ws := by rw [hk]; rfl
    rw [e]
    exact h3.exx e4
  · have hk := of_decide_eq_false hk
    have h2 := h1.exx e2
    refine Evl.s_when (b := decide (k.kind = .bad) && (decide (k.tok = [33]) && decide ([33, 61] ∈ ss))) (Evl.et_and (et_test (ev_op (ev_fld rfl (f_kind G h2)) (evs (t := kdT .bad)) (rd_is rd_eqs (by congr 1; exact decide_eq_decide.mpr ⟨kdT_inj, fun h => by rw [h]⟩)))) fun _ => Evl.et_and (et_test (ev_op (ev_fld rfl (f_token G h2)) (evs (t := [33])) rd_eqs)) fun _ => et_test (ev_op (evs (t := [33, 61])) (ev_var rfl (as1.ex e2)) rd_inTs)) (fun hb H3 e3 => ?_) (fun hb H3 e3 => ?_)
    · simp only [Bool.and_eq_true, decide_eq_true_eq] at hb
      have h3 := h2.exx e3
      refine s_put (o := o) (P := fun H' => Pr [r, o] H3 H' ∧ RAt g X H' r o t c k (.int ((k.place + 1 : Nat) : Int)) wn) G rfl (by decide) (ev_op (ev_fld rfl (f_place G h3)) ev_int (rd_addN (n := 1))) (fun v H4 e4 av => ?_) fun H4 ⟨p4, h4⟩ => ?_
      · cases at_int_inv av
        obtain ⟨dx, fs, a, b, p, q⟩ := p_stopped (h3.exx e4) (.int ((k.place + 1 : Nat) : Int))
        exact ⟨dx, fs, a, b, (Ex.pr e4).trans p, q⟩
      refine q H4 (((p1.trans (Ex.pr e2)).trans (Ex.pr e3)).trans p4) ?_
      have e : offN k.kind k.tok ws (decide ([33, 61] ∈ ss)) = 1 := by
        rw [hb.1]
        show (if _ then _ else _) = _
        rw [if_pos ⟨hb.2.1, decide_eq_true hb.2.2⟩]
      rw [e]; exact h4
    · refine q H3 ((p1.trans (Ex.pr e2)).trans (Ex.pr e3)) ?_
      have e : offN k.kind k.tok ws (decide ([33, 61] ∈ ss)) = 0 := by
        cases hkk : k.kind with
        | word => exact absurd hkk hk
        | bad =>
          show (if _ then _ else _) = _
          rw [if_neg]
          intro ⟨x, y⟩
          rw [hkk, decide_eq_true x, y] at hb
          cases hb
        | fin => rfl
        | number => rfl
        | sign => rfl
      rw [e]; exact h2.exx e3
end
end Dy
namespace Dy
open PySem L2 Evl Mi
section
variable {g : G8} (G : Gf g) {X : List Addr} {H H' H1 : Hp} {r o : Addr} {t : T} {c c' : Co} {k k' : Lk} {st : V} {wn : T} {σ : L2.St} {Q : VK} {i : Nat} {D : Ends} {tz : TS} {tv tw ts : TE} {d : PyData}
theorem m_step (hs : σ[i]? = some (some (.ref r))) (h : RAt g X H r o t c k st wn) (q : ∀ H', Pr [r, o] H H' → RAt g X H' r o t c (next t k) st wn → Q (.str (S k.tok)) H') : tMeth g.Reader "step" (sp_Reader_step g) [] E0 (tVar i) tNil σ H Q := by
  obtain ⟨dx, b, v', w, os, j, g1, _⟩ := h.ex
  exact ⟨_, hs, r, dx, _, rfl, g1, rfl, X, r, o, t, c, k, st, wn, rfl, h, q⟩
theorem m_stop {ws ss : List T} (hs : σ[i]? = some (some (.ref r))) (h : RAt g X H r o t c k st wn) (e1 : EvD g.K X tw σ H (.tuple (ws.map Mi.str))) (e2 : EvD g.K X ts σ H (.tuple (ss.map Mi.str))) (hw : ∀ x ∈ ws, x.length ≤ 8)
    (q : ∀ H', Pr [r, o] H H' → RAt g X H' r o t c k (.int ((k.place + offN k.kind k.tok ws (decide ([33, 61] ∈ ss)) : Nat) : Int)) wn → Q .non H') : tMeth g.Reader "stop" (sp_Reader_stop g) [] E0 (tVar i) (tCons tw (tCons ts tNil)) σ H Q := by
  obtain ⟨dx, b, v', w, os, j, g1, _⟩ := h.ex
  refine ⟨_, hs, r, dx, _, rfl, g1, rfl, ea_cons e1 (ea_cons e2 ea_nil) H (Ex.refl _) _ fun vs H2 x2 av => ?_⟩
  obtain ⟨w, s, rfl, aw, as⟩ := ats2 av
  exact ⟨X, r, o, t, c, k, st, wn, w, s, ws, ss, rfl, h.exx x2, aw, as, hw, fun H' p h' => q H' ((Ex.pr x2).trans p) h'⟩
theorem et_atV {ta tk : TE} {kd : T} {tts : List T} (hs : σ[i]? = some (some (.ref r))) (h : RAt g X H r o t c k st wn) (hk : EvD g.K X tk σ H (Mi.str kd)) (ht : EvD g.K X ta σ H (.tuple (tts.map Mi.str))) :
    EvT (tB (tMeth g.Reader "at" (sp_Reader_at g) [] E0 (tVar i) (tCons tk (tCons ta tNil)))) σ H (decide (kdT k.kind = kd) && decide (k.tok ∈ tts)) := fun H1 x1 R q => by
  have h1 := h.exx x1
  obtain ⟨dx, b', v', w, os, j, g1, _⟩ := h1.ex
  refine ⟨_, hs, r, dx, _, rfl, g1, rfl, ea_cons hk (ea_cons ht ea_nil) H1 x1 _ fun vs H2 x2 avs => ?_⟩
  obtain ⟨u, v, rfl, au, av⟩ := ats2 avs
  cases at_str_inv au
  exact ⟨X, r, o, t, c, k, st, wn, kd, v, tts, rfl, at_str_ok au, h1.exx x2, av, fun H3 x3 => ⟨_, rfl, q H3 (x2.trans x3)⟩⟩
theorem et_at {ta : TE} {K0 : Mi.Kind} {kd : Str} {tts : List T} {b : Bool} (hs : σ[i]? = some (some (.ref r))) (h : RAt g X H r o t c k st wn) (ht : EvD g.K X ta σ H (.tuple (tts.map Mi.str))) (hb : (k.kind = K0 ∧ k.tok ∈ tts) ↔ b = true) (hk : kd = S (kdT K0) := by rfl) :
    EvT (tB (tMeth g.Reader "at" (sp_Reader_at g) [] E0 (tVar i) (tCons (tC (.str kd)) (tCons ta tNil)))) σ H b := by
  subst hk
  refine et_is (et_atV hs h (ev_str (ok_kdT _)) ht) ?_
  rw [Bool.eq_iff_iff, ← hb, Bool.and_eq_true, decide_eq_true_iff, decide_eq_true_iff]
  exact ⟨fun ⟨a, b⟩ => ⟨kdT_inj a, b⟩, fun ⟨a, b⟩ => ⟨by rw [a], b⟩⟩
theorem ev_top (hs : σ[i]? = some (some (.ref r))) (h : RAt g X H r o t c k st wn) : EvD g.K X (tMeth g.Reader "top" (sp_Reader_top g) [] E0 (tVar i) tNil) σ H (Mi.str (Mi.top c.opened)) := fun H1 x1 Q q => by
  have h1 := h.exx x1
  obtain ⟨dx, b', v', w, os, j, g1, _⟩ := h1.ex
  exact ⟨_, hs, r, dx, _, rfl, g1, rfl, X, r, o, t, c, k, st, wn, rfl, h1, fun H2 x2 ok2 => q _ H2 x2 (at_str ok2)⟩
theorem c1 {sp : Sp} (hs : σ[i]? = some (some (.ref r))) (q : sp [.ref r] H Q E0) : tCall sp [] E0 (tCons (tVar i) tNil) σ H Q := ⟨_, hs, q⟩
theorem put_ex {f : Str} {v : V} {P P' : Hp → Prop} (h : Put g r o H f v P) (k : ∀ H', P H' → P' H') : Put g r o H f v P' := by
  obtain ⟨dx, fs, a, b, p⟩ := h
  exact ⟨dx, fs, a, b, k _ p⟩
include G in
theorem s_st {m : Nat} (hs : σ[i]? = some (some (.ref r))) (h : RAt g X H r o t c k st wn) (hv : EvD g.K X tv σ H (.int (m : Nat))) (q : ∀ H', Pr [r, o] H H' → RAt g X H' r o t c k (.int (m : Nat)) wn → D.nx σ H') : sFld g.K (tVar i) tv "stopped" D σ H :=
  s_put (o := o) (P := fun H' => Pr [r, o] H H' ∧ RAt g X H' r o t c k (.int (m : Nat)) wn) G hs (by decide) hv (fun v H1 e1 av => by
    cases at_int_inv av
    exact put_ex (p_stopped (h.exx e1) _) fun H' ⟨a, b⟩ => ⟨(Ex.pr e1).trans a, b⟩) fun H' ⟨a, b⟩ => q H' a b
include G in
theorem s_value (hs : σ[i]? = some (some (.ref r))) (h : RAt g X H r o t c k st wn) (hv : EvD g.K X tv σ H d) (q : ∀ H', Pr [r, o] H H' → RAt g X H' r o t { c with value := d } k st wn → D.nx σ H') : sFld g.K (tVar i) tv "value" D σ H :=
  s_put (o := o) (P := fun H' => Pr [r, o] H H' ∧ RAt g X H' r o t { c with value := d } k st wn) G hs (by decide) hv (fun v H1 e1 av => put_ex (p_value (h.exx e1) av) fun H' ⟨a, b⟩ => ⟨(Ex.pr e1).trans a, b⟩) fun H' ⟨a, b⟩ => q H' a b
include G in
theorem s_words {bs : List T} (hs : σ[i]? = some (some (.ref r))) (h : RAt g X H r o t c k st wn) (hn : (∀ x ∈ bs, x.length ≤ 8) ∧ bs.length ≤ 8) (hv : EvD g.K X tv σ H (.tuple (bs.map Mi.str))) (q : ∀ H', Pr [r, o] H H' → RAt g X H' r o t { c with words := bs } k st wn → D.nx σ H') : sFld g.K (tVar i) tv "words" D σ H :=
  s_put (o := o) (P := fun H' => Pr [r, o] H H' ∧ RAt g X H' r o t { c with words := bs } k st wn) G hs (by decide) hv (fun v H1 e1 av => put_ex (p_words (h.exx e1) av hn) fun H' ⟨a, b⟩ => ⟨(Ex.pr e1).trans a, b⟩) fun H' ⟨a, b⟩ => q H' a b
include G in
theorem s_bound {bs : List T} (hs : σ[i]? = some (some (.ref r))) (h : RAt g X H r o t c k st wn) (hl : bs.length ≤ 8 + k.place) (hn : ∀ x ∈ bs, x.length ≤ 8) (hv : EvD g.K X tv σ H (.list (bs.map Mi.str))) (q : ∀ H', Pr [r, o] H H' → RAt g X H' r o t { c with bound := bs } k st wn → D.nx σ H') : sFld g.K (tVar i) tv "bound" D σ H :=
  s_put (o := o) (P := fun H' => Pr [r, o] H H' ∧ RAt g X H' r o t { c with bound := bs } k st wn) G hs (by decide) hv (fun v H1 e1 av => put_ex (p_bound (h.exx e1) av hl hn) fun H' ⟨a, b⟩ => ⟨(Ex.pr e1).trans a, b⟩) fun H' ⟨a, b⟩ => q H' a b
include G in
theorem s_wanted {w' : T} (hs : σ[i]? = some (some (.ref r))) (h : RAt g X H r o t c k st wn) (hw : w' ≠ nMore ∨ wn = nMore) (hv : EvD g.K X tv σ H (Mi.str w')) (q : ∀ H', Pr [r, o] H H' → RAt g X H' r o t c k st w' → D.nx σ H') : sFld g.K (tVar i) tv "wanted" D σ H :=
  s_put (o := o) (P := fun H' => Pr [r, o] H H' ∧ RAt g X H' r o t c k st w') G hs (by decide) hv (fun v H1 e1 av => by
    cases at_str_inv av
    exact put_ex (p_wanted (h.exx e1) w' hw) fun H' ⟨a, b⟩ => ⟨(Ex.pr e1).trans a, b⟩) fun H' ⟨a, b⟩ => q H' a b
include G in
theorem s_isb {b : Bool} (hs : σ[i]? = some (some (.ref r))) (h : RAt g X H r o t c k st wn) (hv : EvD g.K X tv σ H (.bool b)) (q : ∀ H', Pr [r, o] H H' → RAt g X H' r o t { c with isBase := b } k st wn → D.nx σ H') : sFld g.K (tVar i) tv "is_base" D σ H :=
  s_put (o := o) (P := fun H' => Pr [r, o] H H' ∧ RAt g X H' r o t { c with isBase := b } k st wn) G hs (by decide) hv (fun v H1 e1 av => by
    cases at_bl_inv av
    exact put_ex (p_isb (h.exx e1) b) fun H' ⟨a, b⟩ => ⟨(Ex.pr e1).trans a, b⟩) fun H' ⟨a, b⟩ => q H' a b
theorem sq {t1 : TS} (h : t1 { D with nx := tz D } σ H) : tSeq t1 tz D σ H := h
theorem ev_t0 (dm : Dom X H) : EvD g.K X (tTup tNil) σ H (.tuple (([] : List T).map Mi.str)) := ev_tup dm ea_nil (by simp)
/-! the frames -/
theorem RAt.push (h : RAt g X H r o t c k st wn) {v : V} {p : Op} (hf : FrOk p) (hl : c.opened.length + 1 ≤ k.place) (a : At g.K X H v (opD p)) : ∃ os, H o = some (.lst os) ∧ os.length < 100000 ∧ Pr [r, o] H (upd H o (.lst (os ++ [v]))) ∧ RAt g X (upd H o (.lst (os ++ [v]))) r o t { c with opened := p :: c.opened } k st wn := by
  obtain ⟨dx, b, v', w, os, i, g1, g2, g3, g4, g5, g6, g7⟩ := h.ex
  have px : Pr X H (upd H o (.lst (os ++ [v]))) := pr_upd h.ox
  have po : Pr [r, o] H (upd H o (.lst (os ++ [v]))) := pr_upd (by simp)
  refine ⟨os, g6, ?_, po, { h with dm := h.dm.upd, ol := hl, oo := fun x hx => (List.mem_cons.mp hx).elim (fun e => e ▸ hf) (h.oo x), ex := ⟨dx, b, v', w, os ++ [v], i, ?_, g2, g3.pr px, g4.pr px, g5.pr px, upd_same, ?_⟩ }⟩
  · rw [g7.len]
    have := h.ol
    have := h.ia.end_
    have := h.lt
    simp
    omega
  · rw [upd_ne h.ro]; exact g1
  · show Ats g.K X _ _ ((p :: c.opened).reverse.map opD)
    rw [List.reverse_cons, List.map_append]
    exact (g7.app (.cons a .nil)).pr px
theorem RAt.pop (h : RAt g X H r o t c k st wn) {p : Op} {l : List Op} (hc : c.opened = p :: l) : ∃ us v, H o = some (.lst (us ++ [v])) ∧ At g.K X H v (opD p) ∧ Pr [r, o] H (upd H o (.lst us)) ∧ RAt g X (upd H o (.lst us)) r o t { c with opened := l } k st wn := by
  obtain ⟨us, v, h1, h2, h3⟩ := last_op hc h
  obtain ⟨dx, b, v', w, os, i, g1, g2, g3, g4, g5, g6, g7⟩ := h.ex
  have px : Pr X H (upd H o (.lst us)) := pr_upd h.ox
  have po : Pr [r, o] H (upd H o (.lst us)) := pr_upd (by simp)
  have hl := h.ol
  rw [hc, List.length_cons] at hl
  refine ⟨us, v, h1, h3, po, { h with dm := h.dm.upd, ol := Nat.le_of_succ_le hl, oo := fun x hx => h.oo x (by rw [hc]; exact List.mem_cons_of_mem _ hx), ex := ⟨dx, b, v', w, us, i, ?_, g2, g3.pr px, g4.pr px, g5.pr px, upd_same, h2.pr px⟩ }⟩
  rw [upd_ne h.ro]; exact g1
include G in
/-- reader.opened.append(...): the item is made first -/
theorem m_push {te : TE} (hs : σ[i]? = some (some (.ref r))) (h : RAt g X H r o t c k st wn) (q : te σ H fun v H1 => ∃ c' k' st' wn' p, Pr [r, o] H H1 ∧ RAt g X H1 r o t c' k' st' wn' ∧ FrOk p ∧ c'.opened.length + 1 ≤ k'.place ∧ At g.K X H1 v (opD p) ∧ ∀ H2, Pr [r, o] H H2 → RAt g X H2 r o t { c' with opened := p :: c'.opened } k' st' wn' → Q .non H2)
    (mono : ∀ P P' : VK, (∀ v H, P v H → P' v H) → te σ H P → te σ H P') : tBM g.K "list" rAppend (tFld g.K (tVar i) "opened") (tCons te tNil) σ H Q := by
  obtain ⟨dx, b, v', w, os, j, g1, g2, g3, g4, g5, g6, g7⟩ := h.ex
  refine ⟨_, hs, r, _, dx, _, _, rfl, g1, G.cR, G.nR _ (by decide), rfl, .inl ⟨rfl, os, sq_of g6⟩, ?_⟩
  show te σ H fun x H1 => rAppend (.ref o) [x] H1 Q
  refine mono _ _ (fun v H1 ⟨c', k', st', wn', p, p1, h1, hf, hl, av, kk⟩ => ?_) q
  obtain ⟨os1, a1, a2, a3, a4⟩ := h1.push hf hl av
  exact ⟨o, os1, v, rfl, rfl, a1, Nat.lt_trans a2 (by decide), kk _ (p1.trans a3) a4⟩
include G in
theorem m_push_e {te : TE} {p : Op} (hs : σ[i]? = some (some (.ref r))) (h : RAt g X H r o t c k st wn) (hf : FrOk p) (hl : c.opened.length + 1 ≤ k.place) (he : EvD g.K X te σ H (opD p)) (q : ∀ H2, Pr [r, o] H H2 → RAt g X H2 r o t { c with opened := p :: c.opened } k st wn → Q .non H2) :
    tBM g.K "list" rAppend (tFld g.K (tVar i) "opened") (tCons te tNil) σ H Q := by
  obtain ⟨dx, b, v', w, os, j, g1, g2, g3, g4, g5, g6, g7⟩ := h.ex
  refine ⟨_, hs, r, _, dx, _, _, rfl, g1, G.cR, G.nR _ (by decide), rfl, .inl ⟨rfl, os, sq_of g6⟩, ?_⟩
  show te σ H fun x H1 => rAppend (.ref o) [x] H1 Q
  refine he H (Ex.refl _) _ fun v H1 e1 av => ?_
  obtain ⟨os1, a1, a2, a3, a4⟩ := (h.exx e1).push hf hl av
  exact ⟨o, os1, v, rfl, rfl, a1, Nat.lt_trans a2 (by decide), q _ ((Ex.pr e1).trans a3) a4⟩
include G in
theorem m_pop (hs : σ[i]? = some (some (.ref r))) (h : RAt g X H r o t c k st wn) {p : Op} {l : List Op} (hc : c.opened = p :: l) (q : ∀ v H', Pr [r, o] H H' → At g.K X H v (opD p) → RAt g X H' r o t { c with opened := l } k st wn → Q v H') : tBM0 g.K "list" rPop (tFld g.K (tVar i) "opened") σ H Q := by
  obtain ⟨dx, b, v', w, os, j, g1, g2, g3, g4, g5, g6, g7⟩ := h.ex
  obtain ⟨us, v, h1, h2, h3, h4⟩ := h.pop hc
  refine ⟨_, hs, r, _, dx, _, _, rfl, g1, G.cR, G.nR _ (by decide), rfl, .inl ⟨rfl, _, sq_of h1⟩, o, _, v, rfl, rfl, h1, by simp, ?_⟩
  rw [List.dropLast_concat]
  exact q v _ h3 h2 h4

theorem mono_tup {ta : TA} (m : ∀ P P' : List V → Hp → Prop, (∀ v H, P v H → P' v H) → ta σ H P → ta σ H P') : ∀ P P' : VK, (∀ v H, P v H → P' v H) → tTup ta σ H P → tTup ta σ H P' := fun P P' h => m _ _ fun xs H1 ⟨a, b⟩ => ⟨a, fun p hp => h _ _ (b p hp)⟩
theorem mono_meth : ∀ P P' : VK, (∀ v H, P v H → P' v H) → tMeth g.Reader "step" (sp_Reader_step g) [] E0 (tVar i) tNil σ H P → tMeth g.Reader "step" (sp_Reader_step g) [] E0 (tVar i) tNil σ H P' := fun P P' m ⟨v, hs, a, dx, fs, e, h1, h2, X, r, o, t, c, k, st, wn, e2, h, q⟩ => ⟨v, hs, a, dx, fs, e, h1, h2, X, r, o, t, c, k, st, wn, e2, h, fun H' x y => m _ _ (q H' x y)⟩
theorem r_tup {ta : TA} (h : ta σ H fun xs H1 => xs.length ≤ 1000 ∧ ∀ p, H1 p = none → Q (.ref p) (upd H1 p (.tup xs))) (m : ∀ P P' : List V → Hp → Prop, (∀ v H, P v H → P' v H) → ta σ H P → ta σ H P') : tTup ta σ H Q := m _ _ (fun xs H1 ⟨a, b⟩ => ⟨Nat.le_trans a (by decide), b⟩) h
theorem at_tupN {K : PySem.W.Frag} {p : Addr} {vs : List V} {ds : List PyData} (dm : Dom X H) (hp : H p = none) (a : Ats K X H vs ds) : At K X (upd H p (.tup vs)) (.ref p) (.tuple ds) := at_tup (fun m => dm p m hp) upd_same (a.ex (Ex.new hp))
/-! names and numbers -/
include G in
theorem u_read_name : ∀ vs H Q E, sp_read_name g vs H Q E → t_read_name g (EQ Q) (start ["reader"] vs) H := fun vs H Q E ⟨X, r, o, t, c, k, st, wn, e, h, q1, q2⟩ => by
  subst e
  refine Evl.q_when (b := !decide (k.kind = .word)) (et_test (ev_op (ev_fld rfl (f_kind G h)) (evs (t := kdT .word)) (rd_is rd_nes (by congr 2; exact decide_eq_decide.mpr ⟨kdT_inj, fun h => by rw [h]⟩)))) (fun hk H1 e1 => ?_) (fun hk H1 e1 => ?_)
  · have hk : k.kind ≠ .word := by simpa using hk
    have h1 := h.exx e1
    refine q_drop (m_stop rfl h1 (ev_t0 h1.dm) (ev_t0 h1.dm) (by simp) fun H2 p2 h2 => ?_)
    have hn : nameStop k.kind k.tok = some (offN k.kind k.tok [] false) := by unfold nameStop; rw [if_pos hk]
    exact q1 _ hn H2 ((Ex.pr e1).trans p2) h2
  · have hk : k.kind = .word := by simpa using hk
    have h1 := h.exx e1
    refine Evl.q_when (b := decide (8 < k.tok.length)) (et_test (ev_op (ev_cb (ea_cons (ev_fld rfl (f_token G h1)) ea_nil) (rc_lenSs (tok_le h))) ev_int (rd_gtN (n := 8)))) (fun h8 H2 e2 => ?_) (fun h8 H2 e2 => ?_)
    · have h8 := of_decide_eq_true h8
      have h2 := h1.exx e2
      refine sq (s_st G rfl h2 (ev_op (ev_fld rfl (f_place G h2)) ev_int (rd_addN (n := 8))) fun H3 p3 h3 => ?_)
      have hn : nameStop k.kind k.tok = some 8 := by unfold nameStop; rw [if_neg (by simpa using hk), if_pos h8]
      exact q1 _ hn H3 ((Ex.pr (e1.trans e2)).trans p3) h3
    · have h8 := of_decide_eq_false h8
      have h2 := h1.exx e2
      refine Evl.q_when (b := decide (k.tok ∈ WORDS)) (et_test (ev_op (ev_fld rfl (f_token G h2)) (ev_cD (aW G)) rd_inTs)) (fun hW H3 e3 => ?_) (fun hW H3 e3 => ?_)
      · have hW := of_decide_eq_true hW
        have h3 := h2.exx e3
        refine sq (s_st G rfl h3 (ev_op (ev_fld rfl (f_place G h3)) (ev_cb (ea_cons (ev_fld rfl (f_token G h3)) ea_nil) (rc_lenSs (tok_le h))) rd_addN) fun H4 p4 h4 => ?_)
        have hn : nameStop k.kind k.tok = some k.tok.length := by unfold nameStop; rw [if_neg (by simpa using hk), if_neg h8, if_pos hW]
        exact q1 _ hn H4 ((Ex.pr ((e1.trans e2).trans e3)).trans p4) h4
      · have hW := of_decide_eq_false hW
        have h3 := h2.exx e3
        have hn : nameStop k.kind k.tok = none := by unfold nameStop; rw [if_neg (by simpa using hk), if_neg h8, if_neg hW]
        exact m_step rfl h3 fun H4 p4 h4 => q2 hn H4 ((Ex.pr ((e1.trans e2).trans e3)).trans p4) h4
end
end Dy
namespace Dy
open PySem L2 Evl Mi
theorem int_text {t : T} (h : ∀ c ∈ t, isF c = true) (h0 : t ≠ []) (hl : t.length ≤ 640) : PySem.intText? (S t) = some ((numOf t : Nat) : Int) := by
  have : (NumText.digitsVal t) = numOf t := rfl
  rw [← this]
  refine PySem.intText_digits (x := S t) (fun c hc => ?_) h0 (by rw [S_len]; omega)
  have := h c hc
  unfold isF at this
  simp at this
  exact this
section
variable {g : G8} (G : Gf g) {X : List Addr} {H H' H1 : Hp} {r o : Addr} {t : T} {c c' : Co} {k k' : Lk} {st : V} {wn : T} {σ : L2.St} {Q : VK} {i : Nat} {D : Ends} {tz : TS} {tv tw ts : TE} {d : PyData}
theorem rd_gtNN {K : PySem.W.Frag} {m n : Nat} : RD K X rGtI (.int (m : Nat)) (.int (n : Nat)) H (.bool (decide (n < m))) := rd_gtN
include G in
theorem u_read_number : ∀ vs H Q E, sp_read_number g vs H Q E → t_read_number g (EQ Q) (start ["reader", "most", "token"] vs) H := fun vs H Q E ⟨X, r, o, t, c, k, st, wn, m, e, hm, h, q1, q2⟩ => by
  subst e
  refine q_asg (ev_fld rfl (f_token G h)) fun tv H1 e1 at1 => ?_
  cases at_str_inv at1
  have h1 := h.exx e1
  refine sq ?_
  refine Evl.s_if (b := !decide (k.kind = .number)) (et_test (ev_op (ev_fld rfl (f_kind G h1)) (evs (t := kdT .number)) (rd_is rd_nes (by congr 2; exact decide_eq_decide.mpr ⟨kdT_inj, fun h => by rw [h]⟩)))) (fun hk H2 e2 => ?_) (fun hk H2 e2 => ?_)
  · have hk : k.kind ≠ .number := by simpa using hk
    have h2 := h1.exx e2
    have hn : numStop k.kind k.tok m = some (offN k.kind k.tok [] false) := by unfold numStop; rw [if_pos hk]
    exact m_stop rfl h2 (ev_t0 h2.dm) (ev_t0 h2.dm) (by simp) fun H3 p3 h3 => q1 _ hn H3 ((Ex.pr (e1.trans e2)).trans p3) h3
  · have hk : k.kind = .number := by simpa using hk
    have h2 := h1.exx e2
    have at2 := at1.ex e2
    have lk := h.ia.ok.2 hk
    have e12 := e1.trans e2
    obtain ⟨d, u, hd⟩ : ∃ d u, k.tok = d :: u := by
      cases hh : k.tok with
      | nil => exact absurd hh lk.1
      | cons d u => exact ⟨d, u, rfl⟩
    refine Evl.s_if (b := decide (d = 48) && decide (1 < k.tok.length)) (Evl.et_and (et_test (ev_op (ev_op (ev_var rfl at2) ev_int (rd_ixSs (tok_le h) (j := 0) (by rw [hd]; rfl))) (evs (t := [48])) (rd_is rd_eqs (by congr 1; exact decide_eq_decide.mpr (by simp))))) fun _ => et_test (ev_op (ev_cb (ea_cons (ev_var rfl at2) ea_nil) (rc_lenSs (tok_le h))) ev_int (rd_gtN (n := 1)))) (fun hz H3 e3 => ?_) (fun hz H3 e3 => ?_)
    · have h3 := h2.exx e3
      simp only [Bool.and_eq_true, decide_eq_true_eq] at hz
      have hn : numStop k.kind k.tok m = some 1 := by unfold numStop; rw [if_neg (by simpa using hk), if_pos ⟨by rw [hd, hz.1]; rfl, hz.2⟩]
      exact s_st G rfl h3 (ev_op (ev_fld rfl (f_place G h3)) ev_int (rd_addN (n := 1))) fun H4 p4 h4 => q1 _ hn H4 ((Ex.pr (e12.trans e3)).trans p4) h4
    · have h3 := h2.exx e3
      have hz' : ¬ (k.tok.head? = some 48 ∧ 1 < k.tok.length) := fun ⟨a, b⟩ => by
        rw [hd] at a
        have a : d = 48 := by simpa using a
        rw [decide_eq_true a, decide_eq_true b] at hz
        cases hz
      refine Evl.s_if (b := decide (m < k.tok.length)) (et_test (ev_op (ev_cb (ea_cons (ev_var rfl (at2.ex e3)) ea_nil) (rc_lenSs (tok_le h))) (ev_var rfl at_int) rd_gtN)) (fun hl H4 e4 => ?_) (fun hl H4 e4 => ?_)
      · have h4 := h3.exx e4
        have hl := of_decide_eq_true hl
        have hn : numStop k.kind k.tok m = some m := by unfold numStop; rw [if_neg (by simpa using hk), if_neg hz', if_pos hl]
        exact s_st G rfl h4 (ev_op (ev_fld rfl (f_place G h4)) (ev_var rfl at_int) rd_addN) fun H5 p5 h5 => q1 _ hn H5 ((Ex.pr ((e12.trans e3).trans e4)).trans p5) h5
      · have h4 := h3.exx e4
        have hl := of_decide_eq_false hl
        have hn : numStop k.kind k.tok m = none := by unfold numStop; rw [if_neg (by simpa using hk), if_neg hz', if_neg hl]
        show tMeth g.Reader "step" (sp_Reader_step g) [] E0 (tVar 0) tNil _ H4 _
        exact m_step rfl h4 fun H5 p5 h5 => ⟨S k.tok, _, rfl, int_text lk.2 lk.1 (by omega), by rw [S_len]; omega, q2 hn H5 ((Ex.pr ((e12.trans e3).trans e4)).trans p5) h5⟩
theorem opVal_eq (p : Op) (v : PyData) : ∃ l, opD p = .tuple (Mi.str p.head :: l) ∧ opVal p v = .tuple (Mi.str p.head :: l ++ [v]) := by
  cases p with
  | one h => exact ⟨[], rfl, rfl⟩
  | two h u => exact ⟨[u], rfl, rfl⟩
  | quant h ns m => exact ⟨[_, _], rfl, rfl⟩
theorem cut1 {h : PyData} {l : List PyData} : cutT (h :: l) (some 1) none = l := by
  unfold cutT
  have e : HT.sIx (h :: l).length 0 (some 1) = 1 := by
    have := HT.sIx_nat (h :: l).length 0 1
    rw [List.length_cons, Nat.min_eq_left (by omega)] at this
    exact this
  rw [e, HT.sIx_none]
  show (List.drop 0 l).take (l.length + 1 - 1) = l
  rw [List.drop_zero, Nat.add_sub_cancel, List.take_length]
theorem sl1 {h : PyData} {l : List PyData} : ¬ (HT.sIx (h :: l).length 0 (some 1) = 0 ∧ HT.sIx (h :: l).length (h :: l).length none = (h :: l).length) := fun x => by
  have := HT.sIx_nat (h :: l).length 0 1
  rw [List.length_cons, Nat.min_eq_left (by omega)] at this
  have h1 := x.1
  rw [show HT.sIx (h :: l).length 0 (some 1) = 1 from this] at h1
  cases h1
theorem opD_len (p : Op) : ∀ l, opD p = .tuple l → l.length ≤ 3 := by
  intro l h
  cases p <;> cases h <;> simp
include G in
theorem u_join_open : ∀ vs H Q E, sp_join_open g vs H Q E → t_join_open g (EQ Q) (start ["reader", "heads", "last"] vs) H := fun vs H Q E ⟨X, r, o, t, c, k, st, wn, v, hs, e, h, a, hne, q⟩ => by
  subst e
  refine Evl.q_when (b := !decide (Mi.top c.opened ∈ hs)) (et_test (ev_op (ev_top rfl h) (ev_var rfl a) rd_niTs)) (fun hk H1 e1 => ?_) (fun hk H1 e1 => ?_)
  · have hk : Mi.top c.opened ∉ hs := by simpa using hk
    have h1 := h.exx e1
    refine s_ret (K := g.K) (X := X) ev_bl fun u H2 e2 au => ?_
    cases at_bl_inv au
    have := q H2 (Ex.pr (e1.trans e2)) (by rw [join_no hk]; exact h1.exx e2)
    rw [decide_eq_false hk] at this
    exact this
  · have hk : Mi.top c.opened ∈ hs := by simpa using hk
    have h1 := h.exx e1
    cases hc : c.opened with
    | nil =>
      rw [hc] at hk
      exact absurd hk hne
    | cons p l =>
      refine q_asgR (m_pop G rfl h1 hc fun last H2 p2 al h2 => ?_)
      have al2 : At g.K X H2 last (opD p) := al.pr (prX h2 p2)
      obtain ⟨l', hl', hv'⟩ := opVal_eq p c.value
      have hlen := opD_len p _ hl'
      rw [hl'] at al2
      rw [hc] at hk
      rw [List.length_cons] at hlen
      refine sq (s_value (d := opVal p c.value) G rfl h2 (evD_is (ev_op (ev_op (ev_tup h2.dm (ea_cons (ev_op (ev_var rfl al2) ev_int (rd_ixT (j := 0) rfl)) ea_nil) (by simp)) (ev_slT h2.dm (ev_var rfl al2) eo_i eo_none sl1) (rd_catT h2.dm (by rw [cut1]; simp; omega))) (ev_tup h2.dm (ea_cons (ev_fld rfl (f_value G h2)) ea_nil) (by simp)) (rd_catT h2.dm (by rw [cut1]; simp; omega))) ?_) fun H3 p3 h3 => ?_)
      · rw [cut1, hv']; rfl
      · dsimp only
        refine s_ret (K := g.K) (X := X) ev_bl fun u H4 e4 au => ?_
        cases at_bl_inv au
        have e : join c hs = { c with opened := l, value := opVal p c.value } := join_yes hc hk
        have := q H4 (((Ex.pr e1).trans p2).trans (p3.trans (Ex.pr e4))) (by rw [e]; exact h3.exx e4)
        rw [hc] at this
        have hk' : decide (Mi.top (p :: l) ∈ hs) = true := decide_eq_true hk
        rw [hk'] at this
        exact this
include G in
theorem u_go_on : ∀ vs H Q E, sp_go_on g vs H Q E → t_go_on g (EQ Q) (start ["reader", "kind", "tokens", "head", "wanted"] vs) H := fun vs H Q E ⟨X, r, o, t, c, k, st, wn, kd, v, ts, hh, w', e, hkd, okd, okh, okw, hw', hfr, h, a, q1, q2⟩ => by
  subst e
  refine Evl.q_when (Evl.et_not (et_atV rfl h (ev_var rfl (at_str okd)) (ev_var rfl a))) (fun hk H1 e1 => ?_) (fun hk H1 e1 => ?_)
  · refine s_ret (K := g.K) (X := X) ev_bl fun u H2 e2 au => ?_
    cases at_bl_inv au
    refine q2 (fun ⟨x, y⟩ => ?_) H2 (e1.trans e2)
    rw [decide_eq_true x, decide_eq_true y] at hk
    cases hk
  · have h1 := h.exx e1
    have hk : kdT k.kind = kd ∧ k.tok ∈ ts := by simpa using hk
    have hnf : k.kind ≠ .fin := fun z => hkd (by rw [← hk.1, z])
    have hpos := h.ia.pos hnf
    refine q_drop (m_step rfl h1 fun H2 p2 h2 => ?_)
    have np := next_place (t := t) (k := k)
    have hol := h.ol
    refine q_drop (m_push_e G rfl h2 (p := .two hh c.value) hfr (by omega) (ev_tup h2.dm (ea_cons (ev_var rfl (at_str okh)) (ea_cons (ev_fld rfl (f_value G h2)) ea_nil)) (by simp)) fun H3 p3 h3 => ?_)
    refine sq (s_wanted G rfl h3 (.inl hw') (ev_var rfl (at_str okw)) fun H4 p4 h4 => ?_)
    dsimp only
    refine s_ret (K := g.K) (X := X) ev_bl fun u H5 e5 au => ?_
    cases at_bl_inv au
    exact q1 hk H5 ((((Ex.pr e1).trans p2).trans p3).trans (p4.trans (Ex.pr e5))) (h4.exx e5)
include G in
theorem u_close_bracket : ∀ vs H Q E, sp_close_bracket g vs H Q E → t_close_bracket g (EQ Q) (start ["reader"] vs) H := fun vs H Q E ⟨X, r, o, t, c, k, e, h, ht, q1, q2⟩ => by
  subst e
  refine Evl.s_if (b := decide (k.kind = .sign ∧ k.tok = [41])) (et_at (K0 := .sign) rfl h (ev_t1 (t := [41]) h.dm) (by simp)) (fun hk H1 e1 => ?_) (fun hk H1 e1 => ?_)
  · have hk := of_decide_eq_true hk
    have h1 := h.exx e1
    refine q_drop (m_step rfl h1 fun H2 p2 h2 => ?_)
    cases hc : c.opened with
    | nil => rw [hc] at ht; cases ht
    | cons p l =>
      refine q_drop (m_pop G rfl h2 hc fun last H3 p3 al h3 => ?_)
      refine s_isb G rfl h3 ev_bl fun H4 p4 h4 => ?_
      have := q1 hk H4 ((((Ex.pr e1).trans p2).trans p3).trans p4) (by rw [hc]; exact h4)
      exact this
  · have hk := of_decide_eq_false hk
    have h1 := h.exx e1
    exact m_stop rfl h1 (ev_t0 h1.dm) (ev_t0 h1.dm) (by simp) fun H2 p2 h2 => q2 hk H2 ((Ex.pr e1).trans p2) h2
end
end Dy
namespace Dy
open PySem L2 Evl Mi
section
variable {g : G8} (G : Gf g) {X : List Addr} {H H' H1 : Hp} {r o : Addr} {t : T} {c c' : Co} {k k' : Lk} {st : V} {wn : T} {σ : L2.St} {Q : VK} {i : Nat} {D : Ends} {tz : TS} {tv tw ts : TE} {d : PyData}
theorem mu_lt (h : RAt g X H r o t c k st wn) (hp : 0 < k.tok.length) {c' : Co} (h' : RAt g X H' r o t c' (next t k) st' wn') : mu c' (next t k) < mu c k := by
  have np := next_place (t := t) (k := k)
  have h1 := pl_le h
  have h2 := pl_le h'
  have h3 := h'.ol
  have h4 : rk c'.w ≤ 3 := by cases c'.w <;> simp [rk]
  unfold mu
  have : (10000 - (next t k).place) * 20000 + 20000 ≤ (10000 - k.place) * 20000 := by
    have : 10000 - (next t k).place + 1 ≤ 10000 - k.place := by omega
    have := Nat.mul_le_mul_right 20000 this
    omega
  omega
theorem nx_go (h : RAt g X H r o t c k st wn) (hd : delta k.kind k.tok c = .go c') (hw : wT c'.w ≠ []) (h' : RAt g X H' r o t c' (next t k) .non (wT c'.w)) : Nx t (pz t c k) c' (next t k) .non (wT c'.w) (mu c k) :=
  .inr (.inl ⟨rfl, rfl, hw, (pz_go h.ia hd).symm, mu_lt h (h.ia.pos (delta_go hd)) h'⟩)
theorem nx_stop {off : Nat} {m : Nat} (hd : delta k.kind k.tok c = .stop off) : Nx t (pz t c k) c' k' (.int ((k.place + off : Nat) : Int)) wn m := .inl ⟨_, rfl, pz_stop hd⟩
theorem nx_same (hd : delta k.kind k.tok c = delta k.kind k.tok c') (hw : wT c'.w ≠ []) (hr : c'.opened.length + rk c'.w < c.opened.length + rk c.w) : Nx t (pz t c k) c' k .non (wT c'.w) (mu c k) :=
  .inr (.inl ⟨rfl, rfl, hw, (pz_same hd).symm, by unfold mu; omega⟩)
theorem delta_term (hw : c.w = .term) (k : Mi.Kind) (u : T) : delta k u c = dTerm k u c := by unfold Mi.delta; rw [hw]
theorem delta_base (hw : c.w = .base) (k : Mi.Kind) (u : T) : delta k u c = dBase k u c := by unfold Mi.delta; rw [hw]
theorem delta_unit (hw : c.w = .unit) (k : Mi.Kind) (u : T) : delta k u c = dUnit k u c := by unfold Mi.delta; rw [hw]
theorem delta_more (hw : c.w = .more) (k : Mi.Kind) (u : T) : delta k u c = dMore k u c := by unfold Mi.delta; rw [hw]
theorem dBase_w (c : Co) (w : W) (k : Mi.Kind) (u : T) : dBase k u { c with w := w } = dBase k u c := by
  unfold dBase numOut
  rfl
/-- what is a base matters but for more -/
theorem RAt.free {b : Bool} {w : W} (h : RAt g X H r o t c k st wn) (hn : wn ≠ nMore) : RAt g X H r o t { c with w := w, isBase := b } k st wn := by
  obtain ⟨dx, b', v, w, os, i, h1, h2, h3, h4, h5, h6, h7⟩ := h.ex
  exact { h with ex := ⟨dx, b', v, w, os, i, h1, fun e => absurd e hn, h3, h4, h5, h6, h7⟩ }
theorem RAt.ww {w : W} (h : RAt g X H r o t c k st wn) : RAt g X H r o t { c with w := w } k st wn := h.co rfl rfl rfl rfl rfl
theorem frOne {h : T} (hd : h ≠ [] ∧ h ≠ kAll ∧ h ≠ kSome) : FrOk (.one h) := hd
theorem frTwo {h : T} {v : PyData} (hd : h ≠ [] ∧ h ≠ kAll ∧ h ≠ kSome) : FrOk (.two h v) := hd
include G in
theorem u_read_term : ∀ vs H Q E, sp_read_term g vs H Q E → t_read_term g (EQ Q) (start ["reader"] vs) H := fun vs H Q E ⟨X, r, o, t, c, k, e, h, hw, q⟩ => by
  subst e
  refine sq (s_wanted G rfl h (.inl (by decide)) (evs (t := nBase)) fun H1 p1 h1 => ?_)
  refine Evl.s_when (b := decide (k.kind = .sign ∧ k.tok = [45])) (et_at (K0 := .sign) rfl h1 (ev_t1 (t := [45]) h1.dm) (by simp)) (fun hk H2 e2 => ?_) (fun hk H2 e2 => ?_)
  · have hk := of_decide_eq_true hk
    have h2 := h1.exx e2
    have hd : delta k.kind k.tok c = .go { c with opened := .one kNeg :: c.opened, w := .base, words := [] } := by rw [delta_term hw]; unfold dTerm; rw [if_pos hk]
    have hpos := h.ia.pos (delta_go hd)
    have np := next_place (t := t) (k := k)
    have hol := h.ol
    refine q_drop (m_step rfl h2 fun H3 p3 h3 => ?_)
    refine q_drop (m_push_e G rfl h3 (p := .one kNeg) (frOne (by decide)) (by omega) (ev_t1 (t := kNeg) h3.dm) fun H4 p4 h4 => ?_)
    refine s_words (bs := []) G rfl h4 ⟨by simp, by simp⟩ (ev_t0 h4.dm) fun H5 p5 h5 => ?_
    have h5' : RAt g X H5 r o t { c with opened := .one kNeg :: c.opened, w := .base, words := [] } (next t k) .non nBase := h5.ww
    exact q H5 _ _ _ _ ((((p1.trans (Ex.pr e2)).trans p3).trans p4).trans p5) h5' (nx_go h hd (by show nBase ≠ []; decide) h5')
  · have hk := of_decide_eq_false hk
    have h2 : RAt g X H2 r o t { c with w := .base } k .non nBase := (h1.exx e2).ww
    refine q H2 _ _ _ _ (p1.trans (Ex.pr e2)) h2 (nx_same ?_ (by show nBase ≠ []; decide) (by rw [hw]; show c.opened.length + 1 < c.opened.length + 2; omega))
    rw [delta_term hw, delta_base rfl, dBase_w]
    unfold dTerm
    rw [if_neg hk]
include G in
theorem u_read_next : ∀ vs H Q E, sp_read_next g vs H Q E → t_read_next g (EQ Q) (start ["reader"] vs) H := fun vs H Q E ⟨X, r, o, t, c, k, e, h, hw, q⟩ => by
  subst e
  have tst : ∀ {H1 : Hp} {x : Str} {u : T} {b : Bool}, Ex H H1 → x = S u → ok x → decide (wT c.w = u) = b → EvT (tTest (tOp rEq (tFld g.K (tVar 0) "wanted") (tC (.str x)))) (start ["reader"] [.ref r]) H1 b := fun e1 hx hk hb => et_test (ev_op (ev_fld rfl (f_wanted G (h.exx e1) (by revert hw; cases c.w <;> intro hw <;> first | exact absurd rfl hw | decide +kernel))) (evs hx hk) (rd_is rd_eqs (by rw [hb])))
  have go : ∀ {sp : Sp} {H1 : Hp}, Ex H H1 → (∀ H1, Ex H H1 → sp [.ref r] H1 (fun _ H' => Q .non H') E0) → tDrop (tCall sp [] E0 (tCons (tVar 0) tNil)) (EQ Q) (start ["reader"] [.ref r]) H1 := fun e1 hs => c1 rfl (hs _ e1)
  have qq : ∀ {H1 : Hp}, Ex H H1 → Nxt g X H1 r o t (pz t c k) (mu c k) (fun _ H' => Q .non H') := fun e1 H' c' k' st' wn' p h' n => q H' c' k' st' wn' ((Ex.pr e1).trans p) h' n
  cases hc : c.w with
  | unit =>
    rw [hc] at h tst
    exact Evl.s_if (b := true) (tst (Ex.refl _) rfl (by decide +kernel) rfl) (fun _ H1 e1 => go e1 fun H2 e2 => ⟨X, r, o, t, c, k, rfl, h.exx e2, hc, qq e2⟩) fun h => by cases h
  | term =>
    rw [hc] at h tst
    refine Evl.s_if (b := false) (tst (Ex.refl _) rfl (by decide +kernel) rfl) (fun h => by cases h) fun _ H1 e1 => ?_
    exact Evl.s_if (b := true) (tst e1 rfl (by decide +kernel) rfl) (fun _ H1 e2 => go (e1.trans e2) fun H2 e2 => ⟨X, r, o, t, c, k, rfl, h.exx e2, hc, qq e2⟩) fun h => by cases h
  | base =>
    rw [hc] at h tst
    refine Evl.s_if (b := false) (tst (Ex.refl _) rfl (by decide +kernel) rfl) (fun h => by cases h) fun _ H1 e1 => ?_
    refine Evl.s_if (b := false) (tst e1 rfl (by decide +kernel) rfl) (fun h => by cases h) fun _ H2 e2 => ?_
    exact Evl.s_if (b := true) (tst (e1.trans e2) rfl (by decide +kernel) rfl) (fun _ H1 e3 => go ((e1.trans e2).trans e3) fun H2 e2 => ⟨X, r, o, t, c, k, rfl, h.exx e2, hc, qq e2⟩) fun h => by cases h
  | more =>
    rw [hc] at h tst
    refine Evl.s_if (b := false) (tst (Ex.refl _) rfl (by decide +kernel) rfl) (fun h => by cases h) fun _ H1 e1 => ?_
    refine Evl.s_if (b := false) (tst e1 rfl (by decide +kernel) rfl) (fun h => by cases h) fun _ H2 e2 => ?_
    have e12 := e1.trans e2
    refine Evl.s_if (b := false) (tst e12 rfl (by decide +kernel) rfl) (fun h => by cases h) fun _ H3 e3 => ?_
    exact Evl.s_if (b := true) (tst (e12.trans e3) rfl (by decide +kernel) rfl) (fun _ H1 e4 => go ((e12.trans e3).trans e4) fun H2 e2 => ⟨X, r, o, t, c, k, rfl, h.exx e2, hc, qq e2⟩) fun h => by cases h
  | joined =>
    rw [hc] at h tst
    refine Evl.s_if (b := false) (tst (Ex.refl _) rfl (by decide +kernel) rfl) (fun h => by cases h) fun _ H1 e1 => ?_
    refine Evl.s_if (b := false) (tst e1 rfl (by decide +kernel) rfl) (fun h => by cases h) fun _ H2 e2 => ?_
    have e12 := e1.trans e2
    refine Evl.s_if (b := false) (tst e12 rfl (by decide +kernel) rfl) (fun h => by cases h) fun _ H3 e3 => ?_
    exact Evl.s_if (b := false) (tst (e12.trans e3) rfl (by decide +kernel) rfl) (fun h => by cases h) fun _ H1 e4 => go ((e12.trans e3).trans e4) fun H2 e2 => ⟨X, r, o, t, c, k, rfl, h.exx e2, hc, qq e2⟩
  | name a b => rw [hc] at hw; exact absurd rfl hw
  | comma a b => rw [hc] at hw; exact absurd rfl hw
  | expo => rw [hc] at hw; exact absurd rfl hw
end
end Dy
namespace Dy
open PySem L2 Evl Mi
theorem numOut_stop {k : Mi.Kind} {u : T} {m : Nat} {f : Nat → Out} : numOut k u m f = match numStop k u m with
    | some p => .stop p
    | none => f (numOf u) := by
  unfold numOut numStop
  split
  · rw [stopAt_off]
  · split
    · rfl
    · split <;> rfl
theorem map_app (a b : List T) : a.map Mi.str ++ b.map Mi.str = (a ++ b).map Mi.str := (List.map_append ..).symm
section
variable {g : G8} (G : Gf g) {X : List Addr} {H H' H1 : Hp} {r o : Addr} {t : T} {c c' : Co} {k k' : Lk} {st : V} {wn : T} {σ : L2.St} {Q : VK} {i : Nat} {D : Ends} {tz : TS} {tv tw ts : TE} {d : PyData}
theorem mono_cons1 {te : TE} (m : ∀ P P' : VK, (∀ v H, P v H → P' v H) → te σ H P → te σ H P') : ∀ P P' : List V → Hp → Prop, (∀ v H, P v H → P' v H) → tCons te tNil σ H P → tCons te tNil σ H P' := fun P P' h => m _ _ fun v H1 q => h _ _ q
include G in
/-- reader.opened.append((reader.step(),)) -/
theorem m_pushStep (hs : σ[i]? = some (some (.ref r))) (h : RAt g X H r o t c k st wn) (hf : FrOk (.one k.tok)) (hk : k.kind ≠ .fin) (q : ∀ H2, Pr [r, o] H H2 → RAt g X H2 r o t { c with opened := .one k.tok :: c.opened } (next t k) st wn → Q .non H2) :
    tBM g.K "list" rAppend (tFld g.K (tVar i) "opened") (tCons (tTup (tCons (tMeth g.Reader "step" (sp_Reader_step g) [] E0 (tVar i) tNil) tNil)) tNil) σ H Q := by
  have hpos := h.ia.pos hk
  have np := next_place (t := t) (k := k)
  have hol := h.ol
  have okt := ok_tok h.ot h.ia
  refine m_push G hs h ?_ (mono_tup (mono_cons1 mono_meth))
  refine r_tup ?_ (mono_cons1 mono_meth)
  show tMeth g.Reader "step" (sp_Reader_step g) [] E0 (tVar i) tNil σ H _
  refine m_step hs h fun H1 p1 h1 => ?_
  show 1 ≤ 1000 ∧ _
  refine ⟨by decide, fun p hp => ⟨c, next t k, st, wn, .one k.tok, p1.trans (Ex.pr (Ex.new hp)), h1.exx (Ex.new hp), hf, by omega, at_tupN h1.dm hp (.cons (at_str okt) .nil), fun H2 p2 h2 => q H2 p2 h2⟩⟩
include G in
/-- wanted, words = "term", ... -/
theorem g_term {ws : List T} {v : V} {P : L2.St → Hp → Prop} (hs : σ[i]? = some (some (.ref r))) (h : RAt g X H r o t c k st wn) (av : At g.K X H v (.tuple [Mi.str nTerm, .tuple (ws.map Mi.str)])) (hw : (∀ x ∈ ws, x.length ≤ 8) ∧ ws.length ≤ 8)
    (q : ∀ H', Pr [r, o] H H' → RAt g X H' r o t { c with words := ws } k st nTerm → P σ H') : gTup g.K 2 (gCons (gFld g.K (tVar i) "wanted") (gCons (gFld g.K (tVar i) "words") gNil)) v σ H P := by
  refine g_tup av rfl fun vs as => ?_
  obtain ⟨w1, w2, rfl, a1, a2⟩ := ats2 as
  cases at_str_inv a1
  refine ⟨_, _, rfl, g_put G hs (by decide) (p_wanted h nTerm (.inl (by decide))) fun H1 ⟨p1, h1⟩ => ?_⟩
  refine ⟨_, _, rfl, g_put G hs (by decide) (p_words h1 (a2.pr (prX h1 p1)) hw) fun H2 ⟨p2, h2⟩ => ?_⟩
  exact ⟨rfl, q H2 (p1.trans p2) h2⟩
include G in
/-- wanted, words, is_base = "more", (), True -/
theorem s_more (hs : σ[i]? = some (some (.ref r))) (h : RAt g X H r o t c k st wn) (q : ∀ H', Pr [r, o] H H' → RAt g X H' r o t { c with words := [], isBase := true } k st nMore → D.nx σ H') :
    tAsg (tTup (tCons (tC (.str "more")) (tCons (tTup tNil) (tCons (tC (.bl true)) tNil)))) (gTup g.K 3 (gCons (gFld g.K (tVar i) "wanted") (gCons (gFld g.K (tVar i) "words") (gCons (gFld g.K (tVar i) "is_base") gNil)))) D σ H := by
  refine s_asgG (ev_tup h.dm (ea_cons (evs (t := nMore)) (ea_cons (ev_t0 h.dm) (ea_cons (ev_bl (x := true)) ea_nil))) (by simp)) fun v H1 e1 av => g_tup av rfl fun vs as => ?_
  obtain ⟨w1, w2, w3, rfl, a1, a2, a3⟩ := ats3 as
  cases at_str_inv a1
  cases at_bl_inv a3
  refine ⟨_, _, rfl, g_put G hs (by decide) (p_more (h.exx e1)) fun H2 ⟨p2, b, h2⟩ => ?_⟩
  refine ⟨_, _, rfl, g_put G hs (by decide) (p_words (bs := []) h2 (a2.pr (prX h2 p2)) ⟨by simp, by simp⟩) fun H3 ⟨p3, h3⟩ => ?_⟩
  refine ⟨_, _, rfl, g_put G hs (by decide) (p_isb h3 true) fun H4 ⟨p4, h4⟩ => ?_⟩
  exact ⟨rfl, q H4 ((((Ex.pr e1).trans p2).trans p3).trans p4) h4⟩
/-- a value made by steps is kept -/
theorem f_value_end {f : V} (G : Gf g) (hs : σ[i]? = some (some (.ref r))) (h : RAt g X H r o t c k st wn) (av : At g.K X H f d) (q : ∀ H', Pr [r, o] H H' → RAt g X H' r o t { c with value := d } k st wn → D.nx σ H') :
    (tVar i) σ H fun x H2 => ∃ a C dx fs, x = .ref a ∧ H2 a = some (.ins C dx fs) ∧ Cls g.K C ∧ NoAttr g.K C "value" ∧ fs.length < 1000 ∧ D.nx σ (upd H2 a (.ins C dx (putF "value" f fs))) := by
  obtain ⟨dx, fs, a, b, p, hh⟩ := p_value h av
  exact ⟨_, hs, r, _, dx, fs, rfl, a, G.cR, G.nR _ (by decide), b, q _ p hh⟩
include G in
theorem u_read_unit : ∀ vs H Q E, sp_read_unit g vs H Q E → t_read_unit g (EQ Q) (start ["reader"] vs) H := fun vs H Q E ⟨X, r, o, t, c, k, e, h, hw, q⟩ => by
  subst e
  refine Evl.s_if (b := decide ((k.kind = .word ∧ k.tok = kNot) ∨ (k.kind = .sign ∧ k.tok = [91]))) (et_is (Evl.et_or (a := decide (k.kind = .word ∧ k.tok = kNot)) (b := decide (k.kind = .sign ∧ k.tok = [91])) (et_at (K0 := .word) rfl h (ev_t1 (t := kNot) h.dm) (by simp)) fun _ => et_at (K0 := .sign) rfl h (ev_t1 (t := [91]) h.dm) (by simp)) (by rw [Bool.eq_iff_iff]; simp)) (fun hk H1 e1 => ?_) (fun hk H1 e1 => ?_)
  · have hk := of_decide_eq_true hk
    have hd : Mi.delta k.kind k.tok c = .go { c with opened := .one k.tok :: c.opened, w := .unit } := by rw [delta_unit hw]; unfold dUnit; rw [if_pos hk]
    have hf : FrOk (.one k.tok) := frOne (by rcases hk with ⟨_, e⟩ | ⟨_, e⟩ <;> rw [e] <;> decide)
    refine m_pushStep G rfl (h.exx e1) hf (delta_go hd) fun H2 p2 h2 => ?_
    have h2' : RAt g X H2 r o t { c with opened := .one k.tok :: c.opened, w := .unit } (next t k) .non nUnit := h2.ww
    exact q H2 _ _ _ _ ((Ex.pr e1).trans p2) h2' (nx_go h hd (by show nUnit ≠ []; decide) h2')
  · have hk := of_decide_eq_false hk
    have h1 := h.exx e1
    refine Evl.s_if (b := decide (k.kind = .word ∧ (k.tok = kAll ∨ k.tok = kSome))) (et_at (K0 := .word) rfl h1 (ev_t2 (t := kAll) (u := kSome) h1.dm) (by simp)) (fun hq H2 e2 => ?_) (fun hq H2 e2 => ?_)
    · have hq := of_decide_eq_true hq
      refine c1 rfl ⟨X, r, o, t, c, k, rfl, h1.exx e2, hq.1, hq.2, hw, fun H' c' k' st' wn' p h' n => q H' c' k' st' wn' ((Ex.pr (e1.trans e2)).trans p) h' n⟩
    · have hq := of_decide_eq_false hq
      have h2 := h1.exx e2
      refine s_asgG (ev_tup h2.dm (ea_cons (evs (t := nTerm)) (ea_cons (ev_t3 (t := kNot) (u := kAll) (s := kSome) h2.dm) ea_nil)) (by simp)) fun v H3 e3 av => g_term G rfl (h2.exx e3) av (by decide) fun H4 p4 h4 => ?_
      have h4' : RAt g X H4 r o t { c with w := .term, words := [kNot, kAll, kSome] } k .non nTerm := h4.ww
      refine q H4 _ _ _ _ ((Ex.pr ((e1.trans e2).trans e3)).trans p4) h4' (nx_same ?_ (by show nTerm ≠ []; decide) (by rw [hw]; show c.opened.length + 2 < c.opened.length + 3; omega))
      rw [delta_unit hw, delta_term rfl]
      unfold dUnit
      rw [if_neg hk, if_neg hq]
      exact (dTerm_w { c with words := [kNot, kAll, kSome] } .term).symm
include G in
theorem u_read_base : ∀ vs H Q E, sp_read_base g vs H Q E → t_read_base g (EQ Q) (start ["reader", "number"] vs) H := fun vs H Q E ⟨X, r, o, t, c, k, e, h, hw, q⟩ => by
  subst e
  refine Evl.q_when (b := decide (k.kind = .sign ∧ k.tok = [40])) (et_at (K0 := .sign) rfl h (ev_t1 (t := [40]) h.dm) (by simp)) (fun hk H1 e1 => ?_) (fun hk H1 e1 => ?_)
  · have hk := of_decide_eq_true hk
    have hd : Mi.delta k.kind k.tok c = .go { c with opened := .one [40] :: c.opened, w := .term, words := [] } := by rw [delta_base hw]; unfold dBase; rw [if_pos hk]
    refine q_drop (m_pushStep G rfl (h.exx e1) (frOne (by rw [hk.2]; decide)) (delta_go hd) fun H2 p2 h2 => ?_)
    refine q_asgG (ev_tup h2.dm (ea_cons (evs (t := nTerm)) (ea_cons (ev_t0 h2.dm) ea_nil)) (by simp)) fun v H3 e3 av => g_term (ws := []) G rfl (h2.exx e3) av (by decide) fun H4 p4 h4 => ?_
    have h4' : RAt g X H4 r o t { c with opened := .one [40] :: c.opened, w := .term, words := [] } (next t k) .non nTerm := by
      have := h4.ww (w := .term)
      rw [hk.2] at this
      exact this
    exact q H4 _ _ _ _ (((Ex.pr e1).trans p2).trans ((Ex.pr e3).trans p4)) h4' (nx_go h hd (by show nTerm ≠ []; decide) h4')
  · have hk := of_decide_eq_false hk
    have h1 := h.exx e1
    refine sq (Evl.s_if (b := decide (k.kind = .number)) (et_test (ev_op (ev_fld rfl (f_kind G h1)) (evs (t := kdT .number)) (rd_is rd_eqs (by congr 1; exact decide_eq_decide.mpr ⟨kdT_inj, fun h => by rw [h]⟩)))) (fun hn H2 e2 => ?_) (fun hn H2 e2 => ?_))
    · have hn := of_decide_eq_true hn
      have h2 := h1.exx e2
      have hdl : Mi.delta k.kind k.tok c = numOut k.kind k.tok 6 fun n => .go { c with value := pair kNumber (.int n), w := .more, words := [], isBase := true } := by rw [delta_base hw]; unfold dBase; rw [if_neg hk, if_pos hn]
      rw [numOut_stop] at hdl
      refine q_asgR ⟨_, rfl, ?_⟩
      refine ⟨X, r, o, t, c, k, .non, nBase, 6, rfl, by omega, h2, fun p hp H3 p3 h3 => ?_, fun hp H3 p3 h3 => ?_⟩
      · rw [hp] at hdl
        refine s_value (d := .tuple [Mi.str kNumber, .none]) G rfl h3 (ev_tup h3.dm (ea_cons (evs (t := kNumber)) (ea_cons (ev_var rfl at_non) ea_nil)) (by simp)) fun H4 p4 h4 => ?_
        refine s_more G rfl h4 fun H5 p5 h5 => ?_
        exact q H5 _ _ _ _ (((Ex.pr (e1.trans e2)).trans p3).trans (p4.trans p5)) h5 (nx_stop hdl)
      · rw [hp] at hdl
        refine s_value (d := pair kNumber (.int (numOf k.tok : Nat))) G rfl h3 (ev_tup h3.dm (ea_cons (evs (t := kNumber)) (ea_cons (ev_var rfl at_int) ea_nil)) (by simp)) fun H4 p4 h4 => ?_
        refine s_more G rfl h4 fun H5 p5 h5 => ?_
        have h5' : RAt g X H5 r o t { c with value := pair kNumber (.int (numOf k.tok : Nat)), w := .more, words := [], isBase := true } (next t k) .non nMore := h5.ww
        exact q H5 _ _ _ _ (((Ex.pr (e1.trans e2)).trans p3).trans (p4.trans p5)) h5' (nx_go h hdl (by show nMore ≠ []; decide) h5')
    · have hn := of_decide_eq_false hn
      have h2 := h1.exx e2
      refine Evl.s_if (b := decide (k.kind = .word ∧ k.tok ∈ c.bound)) (et_is (Evl.et_and (a := decide (k.kind = .word)) (b := decide (k.tok ∈ c.bound)) (et_test (ev_op (ev_fld rfl (f_kind G h2)) (evs (t := kdT .word)) (rd_is rd_eqs (by congr 1; exact decide_eq_decide.mpr ⟨kdT_inj, fun h => by rw [h]⟩)))) fun _ => et_test (ev_op (ev_fld rfl (f_token G h2)) (ev_fld rfl (f_bound G h2)) rd_inLs)) (by rw [Bool.eq_iff_iff]; simp)) (fun hl H3 e3 => ?_) (fun hl H3 e3 => ?_)
      · have hl := of_decide_eq_true hl
        have h3 := h2.exx e3
        have hd : Mi.delta k.kind k.tok c = .go { c with value := pair kLetter (Mi.str k.tok), w := .more, words := [], isBase := true } := by rw [delta_base hw]; unfold dBase; rw [if_neg hk, if_neg hn, if_pos hl]
        have okt := ok_tok h.ot h.ia
        refine r_tup ?_ fun P P' m => ?_
        · show tMeth g.Reader "step" (sp_Reader_step g) [] E0 (tVar 0) tNil _ H3 _
          refine m_step rfl h3 fun H4 p4 h4 => ?_
          show 2 ≤ 1000 ∧ _
          refine ⟨by decide, fun p hp => f_value_end (d := pair kLetter (Mi.str k.tok)) G rfl (h4.exx (Ex.new hp)) (at_tupN h4.dm hp (.cons (at_str (by decide +kernel)) (.cons (at_str okt) .nil))) fun H5 p5 h5 => ?_⟩
          refine s_more G rfl h5 fun H6 p6 h6 => ?_
          have h6' : RAt g X H6 r o t { c with value := pair kLetter (Mi.str k.tok), w := .more, words := [], isBase := true } (next t k) .non nMore := h6.ww
          exact q H6 _ _ _ _ (((Ex.pr ((e1.trans e2).trans e3)).trans p4).trans (((Ex.pr (Ex.new hp)).trans p5).trans p6)) h6' (nx_go h hd (by show nMore ≠ []; decide) h6')
        · exact mono_meth _ _ fun v H q => m _ _ q
      · have hl := of_decide_eq_false hl
        have h3 := h2.exx e3
        have hbl := h.bl
        have hpl := pl_le h
        have hwl := h.wl.2
        have hd : Mi.delta k.kind k.tok c = .stop (offN k.kind k.tok (c.bound ++ c.words) false) := by rw [delta_base hw, ← stopAt_off]; unfold dBase; rw [if_neg hk, if_neg hn, if_neg hl]
        refine m_stop (ws := c.bound ++ c.words) rfl h3 (evD_is (ev_op (ev_cb (ea_cons (ev_fld rfl (f_bound G h3)) ea_nil) (rc_tupL h3.dm)) (ev_fld rfl (f_words G h3)) (rd_catT h3.dm (by simp; omega))) (by rw [map_app])) (ev_t0 h3.dm) (fun x hx => (List.mem_append.mp hx).elim (h.bn x) (h.wl.1 x)) fun H4 p4 h4 => ?_
        refine s_more G rfl h4 fun H5 p5 h5 => ?_
        exact q H5 _ _ _ _ ((Ex.pr ((e1.trans e2).trans e3)).trans (p4.trans p5)) h5 (nx_stop hd)
end
end Dy
namespace Dy
open PySem L2 Evl Mi
section
variable {g : G8} (G : Gf g) {X : List Addr} {H H' H1 : Hp} {r o l : Addr} {t : T} {c c' : Co} {k k' : Lk} {st : V} {wn : T} {σ : L2.St} {Q : VK} {i : Nat} {D : Ends} {tz : TS} {tv tw ts : TE} {d : PyData}
theorem RAt.more {xs : List V} (h : RAt g X H r o t c k st wn) (hl : H l = none) : RAt g (l :: X) (upd H l (.lst xs)) r o t c k st wn := by
  have h1 := h.exx (Ex.new (o := .lst xs) hl)
  obtain ⟨dx, b, v, w, os, i, g1, g2, g3, g4, g5, g6, g7⟩ := h1.ex
  obtain ⟨_, b', v', w', os', i', k1, k2, k3, k4, k5, k6, k7⟩ := h.ex
  have e1 := (Ex.new (o := .lst xs) hl) _ _ k1
  have e6 := (Ex.new (o := .lst xs) hl) _ _ k6
  have mv : ∀ v d, At g.K X H v d → At g.K (l :: X) (upd H l (.lst xs)) v d := fun v d a => (a.more hl).pr (pr_upd List.mem_cons_self)
  have mvs : ∀ v d, Ats g.K X H v d → Ats g.K (l :: X) (upd H l (.lst xs)) v d := fun v d a => (a.more hl).pr (pr_upd List.mem_cons_self)
  exact { h with rx := List.mem_cons_of_mem _ h.rx, ox := List.mem_cons_of_mem _ h.ox, dm := h.dm.more (Ex.new hl) (by rw [upd_same]; simp), ex := ⟨_, _, _, _, _, _, e1, k2, mv _ _ k3, mv _ _ k4, mv _ _ k5, e6, mvs _ _ k7⟩ }
theorem RAt.less (h : RAt g (l :: X) H r o t c k st wn) (hr : r ∈ X) (ho : o ∈ X) : RAt g X H r o t c k st wn := by
  obtain ⟨dx, b, v, w, os, i, g1, g2, g3, g4, g5, g6, g7⟩ := h.ex
  have s : ∀ a ∈ X, a ∈ l :: X := fun a m => List.mem_cons_of_mem _ m
  exact { h with rx := hr, ox := ho, dm := fun a m => h.dm a (s a m), ex := ⟨_, _, _, _, _, _, g1, g2, g3.less s, g4.less s, g5.less s, g6, g7.less s⟩ }
theorem RAt.prl (h : RAt g (l :: X) H r o t c k st wn) (p : Pr [l] H H') (hr : r ≠ l) (ho : o ≠ l) (hl : H' l ≠ none) : RAt g (l :: X) H' r o t c k st wn := by
  obtain ⟨dx, b, v, w, os, i, g1, g2, g3, g4, g5, g6, g7⟩ := h.ex
  have n : ∀ a, a ≠ l → a ∉ [l] := fun a h m => h (List.mem_singleton.mp m)
  have px : Pr (l :: X) H H' := p.mono fun a m => by rw [List.mem_singleton.mp m]; exact List.mem_cons_self
  exact { h with dm := h.dm.prs p (fun a m => by rw [List.mem_singleton.mp m]; exact hl), ex := ⟨_, _, _, _, _, _, p _ _ (n _ hr) g1, g2, g3.pr px, g4.pr px, g5.pr px, p _ _ (n _ ho) g6, g7.pr px⟩ }
theorem pr_fresh {A : List Addr} {H1 H2 : Hp} (p : Pr A H H1) (q : Pr [l] H1 H2) (hl : H l = none) : Pr A H H2 := fun a u n h => q a u (fun m => by rw [List.mem_singleton.mp m, hl] at h; cases h) (p a u n h)
theorem LAt.pr2 {K : PySem.W.Frag} {Y : List Addr} {ds : List PyData} (h : LAt K Y H l ds) (p : Pr [r, o] H H') (hr : r ∈ Y) (ho : o ∈ Y) (nr : l ≠ r) (no : l ≠ o) : LAt K Y H' l ds := h.pr p (fun a m => by
  rcases List.mem_cons.mp m with e | m
  · rw [e]; exact hr
  · rw [List.mem_singleton.mp m]; exact ho) (by simp [nr, no])
theorem mu_lt2 (h : RAt g X H r o t c k st wn) {c' : Co} {k' : Lk} (hp : k.place < k'.place) (h' : RAt g X H' r o t c' k' st' wn') : mu c' k' < mu c k := by
  have h2 := pl_le h'
  have h3 := h'.ol
  have h4 : rk c'.w ≤ 3 := by cases c'.w <;> simp [rk]
  unfold mu
  have : (10000 - k'.place) * 20000 + 20000 ≤ (10000 - k.place) * 20000 := by
    have : 10000 - k'.place + 1 ≤ 10000 - k.place := by omega
    have := Nat.mul_le_mul_right 20000 this
    omega
  omega
def rb_rest (g : G8) : TS := (tSeq (tIfS (tNot (tB (tMeth g.Reader "at" (sp_Reader_at g) [] E0 (tVar 0) (tCons (tC (.str "sign")) (tCons (tTup (tCons (tC (.str ":")) tNil)) tNil))))) (tSeq (tDrop (tMeth g.Reader "stop" (sp_Reader_stop g) [] E0 (tVar 0) (tCons (tTup tNil) (tCons (tTup tNil) tNil)))) tRetN) tNext) (tSeq (tDrop (tMeth g.Reader "step" (sp_Reader_step g) [] E0 (tVar 0) tNil)) (tSeq (tDrop (tBM g.K "list" rAppend (tFld g.K (tVar 0) "opened") (tCons (tTup (tCons (tVar 1) (tCons (tVar 2) (tCons (tCB (rLenA g.K) (tCons (tFld g.K (tVar 0) "bound") tNil)) tNil)))) tNil))) (sFld g.K (tVar 0) (tOp rCat (tFld g.K (tVar 0) "bound") (tVar 2)) "bound"))))
theorem nameStop_delta {h : T} {ns : List T} (c : Co) (k : Mi.Kind) (u : T) : Mi.delta k u { c with w := .name h ns } = match nameStop k u with
    | some p => .stop p
    | none => .go { c with w := .comma h (ns ++ [u]) } := by
  unfold Mi.delta nameStop
  simp only
  split
  · rw [stopAt_off]
  · split
    · rfl
    · split <;> rfl
theorem nameStop_len {k : Mi.Kind} {u : T} (h : nameStop k u = none) : u.length ≤ 8 ∧ k ≠ .fin := by
  unfold nameStop at h
  split at h
  · cases h
  · rename_i hk
    split at h
    · cases h
    · refine ⟨by omega, fun e => hk ?_⟩
      rw [e]; decide
include G in
theorem u_read_bound : ∀ vs H Q E, sp_read_bound g vs H Q E → t_read_bound g (EQ Q) (start ["reader", "head", "names", "name"] vs) H := fun vs H Q E ⟨X, r, o, t, c, k, e, h, hkw, hka, hw, q⟩ => by
  subst e
  have hd0 : Mi.delta k.kind k.tok c = .go { c with w := .name k.tok [] } := by
    rw [delta_unit hw]; unfold dUnit
    rw [if_neg (by rintro (⟨_, e⟩ | ⟨e, _⟩) <;> first | (rw [hkw] at e; cases e) | (rcases hka with z | z <;> rw [z] at e <;> revert e <;> decide)), if_pos ⟨hkw, hka⟩]
  have okt := ok_tok h.ot h.ia
  have hpos0 := h.ia.pos (delta_go hd0)
  have np0 := next_place (t := t) (k := k)
  have hol := h.ol
  have hbl := h.bl
  -- what comes behind the names
  have rest : ∀ l H1 k2 ns x3, H l = none → Pr [r, o] H H1 → RAt g (l :: X) H1 r o t c k2 .non nUnit → LAt g.K (l :: X) H1 l (ns.map Mi.str) → pz t c k = pz t { c with w := .comma k.tok ns } k2 → ¬ (k2.kind = .sign ∧ k2.tok = [44]) → c.bound.length + ns.length ≤ 8 + k2.place → (∀ x ∈ ns, x.length ≤ 8) → k.place < k2.place →
      rb_rest g (EQ Q) [some (.ref r), some (.str (S k.tok)), some (.ref l), x3] H1 := fun l H1 k2 ns x3 hl p1 h1 la hpz hn hlen hns hpl => by
    have hX : l ∉ X := fun m => h.dm l m hl
    have h1' := h1.less h.rx h.ox
    refine Evl.q_when (b := !decide (k2.kind = .sign ∧ k2.tok = [58])) (Evl.et_not (et_at (K0 := .sign) rfl h1' (ev_t1 (t := [58]) h1'.dm) (by simp))) (fun hk H2 e2 => ?_) (fun hk H2 e2 => ?_)
    · have hk : ¬ (k2.kind = .sign ∧ k2.tok = [58]) := by rw [Bool.not_eq_true'] at hk; exact of_decide_eq_false hk
      have h2 := h1'.exx e2
      refine q_drop (m_stop rfl h2 (ev_t0 h2.dm) (ev_t0 h2.dm) (by simp) fun H3 p3 h3 => ?_)
      refine q H3 _ _ _ _ ((p1.trans (Ex.pr e2)).trans p3) h3 (.inl ⟨_, rfl, ?_⟩)
      rw [hpz]
      refine pz_stop ?_
      show (if _ then _ else if _ then _ else _) = _
      rw [if_neg hn, if_neg hk, stopAt_off]; rfl
    · have hk : k2.kind = .sign ∧ k2.tok = [58] := by simpa using hk
      have h2 := h1'.exx e2
      have hd : Mi.delta k2.kind k2.tok { c with w := .comma k.tok ns } = .go { c with opened := .quant k.tok ns c.bound.length :: c.opened, bound := c.bound ++ ns, w := .unit } := by
        show (if _ then _ else if _ then _ else _) = _
        rw [if_neg hn, if_pos hk]
      have hpos := h1.ia.pos (delta_go hd)
      have np := next_place (t := t) (k := k2)
      refine q_drop (m_step rfl h2 fun H3 p3 h3 => ?_)
      obtain ⟨hlY, us, hul, aus⟩ := la
      have hlo : l ∉ [r, o] := fun m => hX (by
        rcases List.mem_cons.mp m with z | z
        · rw [z]; exact h.rx
        · rw [List.mem_singleton.mp z]; exact h.ox)
      have aus3 : Ats g.K X H3 us (ns.map Mi.str) := (((aus.less fun a m => List.mem_cons_of_mem _ m).ex e2).pr (prX h3 p3))
      have al3 : At g.K X H3 (.ref l) (.list (ns.map Mi.str)) := at_lst hX (p3 _ _ hlo (e2 _ _ hul)) aus3
      refine q_drop (m_push_e G rfl h3 (p := .quant k.tok ns c.bound.length) ⟨by rcases hka with z | z <;> rw [show Op.head (.quant k.tok ns c.bound.length) = k.tok from rfl, z] <;> decide, hka⟩ (by omega) (ev_tup h3.dm (ea_cons (ev_var rfl (at_str okt)) (ea_cons (ev_var rfl al3) (ea_cons (evD_is (ev_cb (ea_cons (ev_fld rfl (f_bound G h3)) ea_nil) rc_lenL) (by rw [List.length_map])) ea_nil))) (by simp)) fun H4 p4 h4 => ?_)
      have al4 := al3.pr (prX h4 p4)
      refine s_bound (bs := c.bound ++ ns) G rfl h4 (by rw [List.length_append]; omega) (fun x hx => (List.mem_append.mp hx).elim (h.bn x) (hns x)) (evD_is (ev_op (ev_fld rfl (f_bound G h4)) (ev_var rfl al4) (rd_catL h4.dm (by have := pl_le h4; simp; omega))) (by rw [map_app])) fun H5 p5 h5 => ?_
      have h5' : RAt g X H5 r o t { c with opened := .quant k.tok ns c.bound.length :: c.opened, bound := c.bound ++ ns, w := .unit } (next t k2) .non nUnit := h5.ww
      refine q H5 _ _ _ _ (((((p1.trans (Ex.pr e2)).trans p3).trans p4).trans p5)) h5' (.inr (.inl ⟨rfl, rfl, by show nUnit ≠ []; decide, ?_, mu_lt2 h (by omega) h5'⟩))
      rw [hpz]
      exact (pz_go h1.ia hd).symm
  show tMeth g.Reader "step" (sp_Reader_step g) [] E0 (tVar 0) tNil _ H _
  refine m_step rfl h fun H1 p1 h1 => ?_
  refine ⟨by decide, fun l hl => ⟨_, _, rfl, ?_⟩⟩
  have hl0 : H l = none := by
    cases hh : H l with
    | none => rfl
    | some u =>
      exfalso
      by_cases hm : l ∈ [r, o]
      · have : l ∈ X := by
          rcases List.mem_cons.mp hm with z | z
          · rw [z]; exact h.rx
          · rw [List.mem_singleton.mp z]; exact h.ox
        exact h1.dm l this hl
      · rw [p1 l u hm hh] at hl; cases hl
  have hX : l ∉ X := fun m => h.dm l m hl0
  have hrl : r ≠ l := fun z => hX (by rw [← z]; exact h.rx)
  have hol' : o ≠ l := fun z => hX (by rw [← z]; exact h.ox)
  have h1m := h1.more (xs := []) hl
  dsimp only
  refine q_loop (fun m σ' H' => ∃ k1 ns x3, σ' = [some (.ref r), some (.str (S k.tok)), some (.ref l), x3] ∧ Pr [r, o] H H' ∧ RAt g (l :: X) H' r o t c k1 .non nUnit ∧ LAt g.K (l :: X) H' l (ns.map Mi.str) ∧ pz t c k = pz t { c with w := .name k.tok ns } k1 ∧ c.bound.length + ns.length ≤ 8 + k1.place ∧ (∀ x ∈ ns, x.length ≤ 8) ∧ k.place < k1.place ∧ m = 10001 - k1.place) _
    ⟨next t k, [], none, rfl, p1.trans (Ex.pr (Ex.new hl)), h1m, LAt.new .nil hl, pz_go h.ia hd0, by simp; omega, by simp, by omega, rfl⟩ fun m σ' H2 ⟨k1, ns, x3, hσ, p2, h2, la, hpz, hlen, hns, hpl, hm⟩ => ?_
  subst hσ
  refine ⟨true, fun H1 e1 Q q => ⟨true, rfl, q H1 (Ex.refl _)⟩, fun _ H3 e3 => ?_, fun h => by cases h⟩
  have h3 := h2.exx e3
  have la3 := la.ex e3
  have dnm := nameStop_delta (h := k.tok) (ns := ns) c k1.kind k1.tok
  refine q_asgR (c1 rfl ⟨l :: X, r, o, t, c, k1, .non, nUnit, rfl, h3, fun p hp H4 p4 h4 => ?_, fun hp H4 p4 h4 => ?_⟩)
  · rw [hp] at dnm
    refine Evl.q_when (b := true) (et_test (ev_op (K := g.K) (X := X) (ev_var rfl at_non) ev_non (rd_isN true fun H1 v a => by rw [at_non_inv a]; rfl))) (fun _ H5 e5 => ?_) (fun h => by cases h)
    refine q H5 _ _ _ _ (((p2.trans (Ex.pr e3)).trans p4).trans (Ex.pr e5)) ((h4.exx e5).less h.rx h.ox) (.inl ⟨_, rfl, ?_⟩)
    rw [hpz]
    exact pz_stop dnm
  · rw [hp] at dnm
    obtain ⟨ht8, hnf⟩ := nameStop_len hp
    have hpos := h2.ia.pos hnf
    have np := next_place (t := t) (k := k1)
    have okt1 := ok_tok h.ot h2.ia
    refine Evl.q_when (b := false) (et_test (ev_op (K := g.K) (X := X) (ev_var rfl (at_str okt1)) ev_non (rd_isN false fun H1 v a => by rw [at_str_inv a]; rfl))) (fun h => by cases h) fun _ H5 e5 => ?_
    have la5 := (la3.pr2 p4 h3.rx h3.ox (fun z => hrl z.symm) (fun z => hol' z.symm)).ex e5
    have hpl1 := pl_le h2
    refine q_drop (e_app (K := g.K) (Y := l :: X) rfl la5 (by rw [List.length_map]; omega) (ev_var rfl (at_str okt1)) fun H6 p6 la6 => ?_)
    have h6 := (h4.exx e5).prl p6 hrl hol' la6.dom
    have p06 : Pr [r, o] H H6 := pr_fresh (((p2.trans (Ex.pr e3)).trans p4).trans (Ex.pr e5)) p6 hl0
    have la6' : LAt g.K (l :: X) H6 l ((ns ++ [k1.tok]).map Mi.str) := by rw [List.map_append]; exact la6
    have hpz2 : pz t c k = pz t { c with w := .comma k.tok (ns ++ [k1.tok]) } (next t k1) := by rw [hpz]; exact pz_go h2.ia dnm
    have hns2 : ∀ x ∈ ns ++ [k1.tok], x.length ≤ 8 := fun x hx => (List.mem_append.mp hx).elim (hns x) fun z => by rw [List.mem_singleton.mp z]; exact ht8
    refine Evl.q_when (b := !decide ((next t k1).kind = .sign ∧ (next t k1).tok = [44])) (Evl.et_not (et_at (K0 := .sign) rfl h6 (ev_t1 (t := [44]) h6.dm) (by simp))) (fun hk H7 e7 => ?_) (fun hk H7 e7 => ?_)
    · have hk : ¬ ((next t k1).kind = .sign ∧ (next t k1).tok = [44]) := by rw [Bool.not_eq_true'] at hk; exact of_decide_eq_false hk
      exact rest l H7 (next t k1) (ns ++ [k1.tok]) _ hl0 (p06.trans (Ex.pr e7)) (h6.exx e7) (la6'.ex e7) hpz2 hk (by simp; omega) hns2 (by omega)
    · have hk : (next t k1).kind = .sign ∧ (next t k1).tok = [44] := by simpa using hk
      have h7 := h6.exx e7
      have hd2 : Mi.delta (next t k1).kind (next t k1).tok { c with w := .comma k.tok (ns ++ [k1.tok]) } = .go { c with w := .name k.tok (ns ++ [k1.tok]) } := by
        show (if _ then _ else _) = _
        rw [if_pos hk]
      have hpos2 := h6.ia.pos (delta_go hd2)
      have np2 := next_place (t := t) (k := next t k1)
      have pl2 := pl_le h6
      refine m_step rfl h7 fun H8 p8 h8 => ⟨10001 - (next t (next t k1)).place, by omega, next t (next t k1), ns ++ [k1.tok], _, rfl, (p06.trans (Ex.pr e7)).trans p8, h8, (la6'.ex e7).pr2 p8 h3.rx h3.ox (fun z => hrl z.symm) (fun z => hol' z.symm), ?_, by simp; omega, hns2, by omega, rfl⟩
      rw [hpz2]
      exact pz_go h6.ia hd2
end
end Dy
namespace Dy
open PySem L2 Evl Mi
theorem if_t {A B : Prop} (h : A) : (if (true = true) then A else B) := h
theorem if_f {A B : Prop} (h : B) : (if (false = true) then A else B) := h
section
variable {g : G8} (G : Gf g) {X : List Addr} {H H' H1 : Hp} {r o l : Addr} {t : T} {c c' : Co} {k k' : Lk} {st : V} {wn : T} {σ : L2.St} {Q : VK} {i : Nat} {D : Ends} {tz : TS} {tv tw ts th : TE} {d : PyData}
theorem m_join {hs : List T} (hσ : σ[i]? = some (some (.ref r))) (h : RAt g X H r o t c k st wn) (he : EvD g.K X th σ H (.tuple (hs.map Mi.str))) (hne : [] ∉ hs) (q : ∀ H', Pr [r, o] H H' → RAt g X H' r o t (join c hs) k st wn → Q (.bl (decide (Mi.top c.opened ∈ hs))) H') :
    tCall (sp_join_open g) [] E0 (tCons (tVar i) (tCons th tNil)) σ H Q := by
  refine ⟨_, hσ, ?_⟩
  show th σ H _
  refine he H (Ex.refl _) _ fun v H1 e1 av => ?_
  exact ⟨X, r, o, t, c, k, st, wn, v, hs, rfl, h.exx e1, av, hne, fun H' p h' => q H' ((Ex.pr e1).trans p) h'⟩
theorem m_goon {K0 : Mi.Kind} {kd : Str} {tts : List T} {hh w' : T} {ta : TE} (hσ : σ[i]? = some (some (.ref r))) (h : RAt g X H r o t c k st wn) (ht : EvD g.K X ta σ H (.tuple (tts.map Mi.str))) (e1 : EvD g.K X th σ H (Mi.str hh)) (e2 : EvD g.K X tw σ H (Mi.str w')) (hw : w' ≠ nMore) (hf : FrOk (.two hh .none)) (h0 : K0 ≠ .fin)
    (q1 : k.kind = K0 ∧ k.tok ∈ tts → ∀ H', Pr [r, o] H H' → RAt g X H' r o t { c with opened := .two hh c.value :: c.opened } (next t k) st w' → Q (.bl true) H')
    (q2 : ¬ (k.kind = K0 ∧ k.tok ∈ tts) → ∀ H', Pr [r, o] H H' → RAt g X H' r o t c k st wn → Q (.bl false) H') (hk : kd = S (kdT K0) := by rfl) :
    tCall (sp_go_on g) [] E0 (tCons (tVar i) (tCons (tC (.str kd)) (tCons ta (tCons th (tCons tw tNil))))) σ H Q := by
  subst hk
  refine ⟨_, hσ, ?_⟩
  have main : tCons ta (tCons th (tCons tw tNil)) σ H (fun vs H1 => sp_go_on g (.ref r :: .str (S (kdT K0)) :: vs) H1 Q E0) := ea_cons ht (ea_cons e1 (ea_cons e2 ea_nil)) H (Ex.refl _) _ fun vs H1 x1 avs => by
    obtain ⟨v, u, w, rfl, av, au, aw⟩ := ats3 avs
    cases at_str_inv au
    cases at_str_inv aw
    refine ⟨X, r, o, t, c, k, st, wn, kdT K0, v, tts, hh, w', rfl, fun e => h0 (kdT_inj e), ok_kdT _, at_str_ok au, at_str_ok aw, hw, hf, h.exx x1, av, fun ⟨a, b⟩ H' p h' => q1 ⟨kdT_inj a, b⟩ H' ((Ex.pr x1).trans p) h', fun n H' x2 => q2 (fun ⟨a, b⟩ => n ⟨by rw [a], b⟩) H' ((Ex.pr x1).trans (Ex.pr x2)) ((h.exx x1).exx x2)⟩
  have e : ∀ vs : List V, (V.ref r :: V.str (S (kdT K0)) :: vs) = (V.ref r :: V.str (S (kdT K0)) :: vs) ++ [] := fun vs => (List.append_nil _).symm
  have e2 : (fun (vs : List V) H1 => sp_go_on g (.ref r :: .str (S (kdT K0)) :: vs) H1 Q E0) = fun vs H1 => sp_go_on g ((.ref r :: .str (S (kdT K0)) :: vs) ++ []) H1 Q E0 := by
    funext vs H1; rw [← e]
  rw [e2] at main
  exact main
theorem join_w (c : Co) (hs : List T) : (join c hs).w = c.w ∧ (join c hs).isBase = c.isBase ∧ (join c hs).bound = c.bound ∧ (join c hs).words = c.words := by
  unfold join
  split
  · exact ⟨rfl, rfl, rfl, rfl⟩
  · split <;> exact ⟨rfl, rfl, rfl, rfl⟩
include G in
theorem u_read_more : ∀ vs H Q E, sp_read_more g vs H Q E → t_read_more g (EQ Q) (start ["reader"] vs) H := fun vs H Q E ⟨X, r, o, t, c, k, e, h, hw, q⟩ => by
  subst e
  have dm := delta_more hw k.kind k.tok
  refine Evl.q_when (b := decide (c.isBase = true ∧ k.kind = .sign ∧ k.tok = [94])) (et_is (Evl.et_and (a := c.isBase) (b := decide (k.kind = .sign ∧ k.tok = [94])) (et_B (ev_fld rfl (f_isb G h))) fun _ => et_at (K0 := .sign) rfl h (ev_t1 (t := [94]) h.dm) (by simp)) (by rw [Bool.eq_iff_iff]; simp)) (fun hk H1 e1 => ?_) (fun hk H1 e1 => ?_)
  · have hk := of_decide_eq_true hk
    have hd : Mi.delta k.kind k.tok c = .go { c with w := .expo, isBase := true } := by rw [dm]; unfold dMore; rw [if_pos hk]
    refine q_drop (m_step rfl (h.exx e1) fun H2 p2 h2 => ?_)
    refine sq ?_
    obtain ⟨C, dx, fs, v, f1, f2, f3, f4, f5⟩ := f_value G h2
    have hpz := pz_go h.ia hd
    have hd2 : Mi.delta (next t k).kind (next t k).tok { c with w := .expo, isBase := true } = numOut (next t k).kind (next t k).tok 1 fun n => .go { c with value := trip kPower c.value (.int n), isBase := false, w := .more } := rfl
    rw [numOut_stop] at hd2
    refine ⟨_, rfl, r, C, dx, fs, v, rfl, f1, f2, f3, f4, ?_⟩
    refine ⟨_, rfl, X, r, o, t, c, next t k, .non, nMore, 1, rfl, by omega, h2, fun p hp H3 p3 h3 => ?_, fun hp H3 p3 h3 => ?_⟩
    · rw [hp] at hd2
      have f5' := f5.pr (prX h3 p3)
      refine ⟨by show 3 ≤ sizeLine; decide, fun a ha => f_value_end G rfl (h3.exx (Ex.new ha)) (at_tupN h3.dm ha (.cons (at_str (by decide +kernel)) (.cons f5' (.cons at_non .nil)))) fun H4 p4 h4 => ?_⟩
      refine sq (s_isb G rfl h4 ev_bl fun H5 p5 h5 => ?_)
      exact q H5 _ _ _ _ ((((Ex.pr e1).trans p2).trans p3).trans (((Ex.pr (Ex.new ha)).trans p4).trans p5)) h5 (.inl ⟨_, rfl, by rw [hpz]; exact pz_stop hd2⟩)
    · rw [hp] at hd2
      have f5' := f5.pr (prX h3 p3)
      refine ⟨by show 3 ≤ sizeLine; decide, fun a ha => f_value_end G rfl (h3.exx (Ex.new ha)) (at_tupN h3.dm ha (.cons (at_str (by decide +kernel)) (.cons f5' (.cons at_int .nil)))) fun H4 p4 h4 => ?_⟩
      refine sq (s_isb G rfl h4 ev_bl fun H5 p5 h5 => ?_)
      have h5' : RAt g X H5 r o t { c with value := trip kPower c.value (.int (numOf (next t k).tok : Nat)), isBase := false, w := .more } (next t (next t k)) .non nMore := h5.ww
      have hp2 := h2.ia.pos (delta_go hd2)
      have hp1 := h.ia.pos (delta_go hd)
      have n1 := next_place (t := t) (k := k)
      have n2 := next_place (t := t) (k := next t k)
      refine q H5 _ _ _ _ ((((Ex.pr e1).trans p2).trans p3).trans (((Ex.pr (Ex.new ha)).trans p4).trans p5)) h5' (.inr (.inl ⟨rfl, rfl, by show nMore ≠ []; decide, ?_, mu_lt2 h (by omega) h5'⟩))
      rw [hpz]; exact (pz_go h2.ia hd2).symm
  · have hk := of_decide_eq_false hk
    have h1 := h.exx e1
    have dm1 : Mi.delta k.kind k.tok c = dMul k.kind k.tok (join c [kTimes]) := by rw [dm]; unfold dMore; rw [if_neg hk]
    refine q_drop (m_join rfl h1 (ev_t1 (t := kTimes) h1.dm) (by decide) fun H2 p2 h2 => ?_)
    have jw1 := join_w c [kTimes]
    have jl1 := join_len c [kTimes]
    generalize hc1 : join c [kTimes] = c1 at *
    have P2 := (Ex.pr e1).trans p2
    unfold dMul at dm1
    refine m_goon (K0 := .sign) (w' := nBase) (hh := kTimes) rfl h2 (ev_t1 (t := [42]) h2.dm) (evs (t := kTimes)) (evs (t := nBase)) (by decide) (frTwo (by decide)) (by decide) (fun hs H3 p3 h3 => ⟨true, rfl, if_t ?_⟩) (fun hs H3 p3 h3 => ⟨false, rfl, if_f ?_⟩)
    · have hs' : k.kind = .sign ∧ k.tok = [42] := by simpa using hs
      rw [if_pos hs'] at dm1
      have h3' : RAt g X H3 r o t (pushed c1 kTimes .base) (next t k) .non nBase := h3.free (by decide)
      exact q H3 _ _ _ _ (P2.trans p3) h3' (nx_go h dm1 (by show nBase ≠ []; decide) h3')
    · have hs' : ¬ (k.kind = .sign ∧ k.tok = [42]) := by simpa using hs
      rw [if_neg hs'] at dm1
      refine q_drop (m_join rfl h3 (ev_t3 (t := kPlus) (u := kMinus) (s := kNeg) h3.dm) (by decide) fun H4 p4 h4 => ?_)
      have jw2 := join_w c1 [kPlus, kMinus, kNeg]
      have jl2 := join_len c1 [kPlus, kMinus, kNeg]
      generalize hc2 : join c1 [kPlus, kMinus, kNeg] = c2 at *
      have P4 := (P2.trans p3).trans p4
      unfold dSum at dm1
      refine m_goon (K0 := .sign) (w' := nBase) (hh := kPlus) rfl h4 (ev_t1 (t := [43]) h4.dm) (evs (t := kPlus)) (evs (t := nBase)) (by decide) (frTwo (by decide)) (by decide) (fun hs H5 p5 h5 => ⟨true, rfl, if_t (if_t ?_)⟩) (fun hs H5 p5 h5 => ⟨false, rfl, if_f ?_⟩)
      · have hs' : k.kind = .sign ∧ k.tok = [43] := by simpa using hs
        rw [if_pos hs'] at dm1
        have h5' : RAt g X H5 r o t (pushed c2 kPlus .base) (next t k) .non nBase := h5.free (by decide)
        exact q H5 _ _ _ _ (P4.trans p5) h5' (nx_go h dm1 (by show nBase ≠ []; decide) h5')
      · have hs' : ¬ (k.kind = .sign ∧ k.tok = [43]) := by simpa using hs
        rw [if_neg hs'] at dm1
        have P5 := P4.trans p5
        refine m_goon (K0 := .sign) (w' := nBase) (hh := kMinus) rfl h5 (ev_t1 (t := [45]) h5.dm) (evs (t := kMinus)) (evs (t := nBase)) (by decide) (frTwo (by decide)) (by decide) (fun hs H6 p6 h6 => ⟨true, rfl, if_t ?_⟩) (fun hs H6 p6 h6 => ⟨false, rfl, if_f ?_⟩)
        · have hs' : k.kind = .sign ∧ k.tok = [45] := by simpa using hs
          rw [if_pos hs'] at dm1
          have h6' : RAt g X H6 r o t (pushed c2 kMinus .base) (next t k) .non nBase := h6.free (by decide)
          exact q H6 _ _ _ _ (P5.trans p6) h6' (nx_go h dm1 (by show nBase ≠ []; decide) h6')
        · have hs' : ¬ (k.kind = .sign ∧ k.tok = [45]) := by simpa using hs
          rw [if_neg hs'] at dm1
          have P6 := P5.trans p6
          refine Evl.s_if (b := decide (Mi.top c2.opened = [40])) (et_test (ev_op (ev_top rfl h6) (evs (t := [40])) rd_eqs)) (fun ht H7 e7 => ?_) (fun ht H7 e7 => ?_)
          · have ht := of_decide_eq_true ht
            rw [if_pos ht] at dm1
            refine Dy.c1 rfl ⟨X, r, o, t, c2, k, rfl, h6.exx e7, ht, fun hb H8 p8 h8 => ?_, fun hb H8 p8 h8 => ?_⟩
            · rw [if_pos hb] at dm1
              have h8' : RAt g X H8 r o t { c2 with opened := c2.opened.tail, isBase := true, w := .more } (next t k) .non nMore := h8.ww
              exact q H8 _ _ _ _ ((P6.trans (Ex.pr e7)).trans p8) h8' (nx_go h dm1 (by show nMore ≠ []; decide) h8')
            · rw [if_neg hb, stopAt_off] at dm1
              exact q H8 _ _ _ _ ((P6.trans (Ex.pr e7)).trans p8) h8 (nx_stop dm1)
          · have ht := of_decide_eq_false ht
            rw [if_neg ht] at dm1
            have h7 := h6.exx e7
            refine m_join rfl h7 (ev_cD (aR G)) (by decide) fun H8 p8 h8 => ⟨_, rfl, ?_⟩
            have P8 := (P6.trans (Ex.pr e7)).trans p8
            by_cases hR : Mi.top c2.opened ∈ RELS
            · rw [if_pos hR] at dm1
              rw [decide_eq_true hR]
              refine if_t (s_wanted G rfl h8 (.inl (by decide)) (evs (t := nJoined)) fun H9 p9 h9 => ?_)
              have jl3 := join_len c2 RELS
              have h9' : RAt g X H9 r o t { join c2 RELS with w := .joined, isBase := true } k .non nJoined := h9.free (by decide)
              have dmj : Mi.delta k.kind k.tok c = Mi.delta k.kind k.tok { join c2 RELS with w := .joined, isBase := true } := by
                rw [dm1, delta_joined _ _ _ rfl]
                refine dJ_of ?_
                show (join c2 RELS).opened.length < _
                omega
              refine q H9 _ _ _ _ (P8.trans p9) h9' (nx_same dmj (by show nJoined ≠ []; decide) ?_)
              rw [hw]
              show (join c2 RELS).opened.length + 0 < c.opened.length + 1
              omega
            · rw [if_neg hR] at dm1
              rw [decide_eq_false hR]
              rw [join_no hR] at h8
              refine if_f ?_
              refine Evl.s_if (b := decide (k.kind = .sign ∧ k.tok ∈ RELS)) (et_is (Evl.et_and (a := decide (k.kind = .sign)) (b := decide (k.tok ∈ RELS)) (et_test (ev_op (ev_fld rfl (f_kind G h8)) (evs (t := kdT .sign)) (rd_is rd_eqs (by congr 1; exact decide_eq_decide.mpr ⟨kdT_inj, fun h => by rw [h]⟩)))) fun _ => et_test (ev_op (ev_fld rfl (f_token G h8)) (ev_cD (aR G)) rd_inTs)) (by rw [Bool.eq_iff_iff]; simp)) (fun hs H9 e9 => ?_) (fun hs H9 e9 => ?_)
              · have hs := of_decide_eq_true hs
                rw [if_pos hs] at dm1
                have h9 := h8.exx e9
                have rl : ∀ x ∈ RELS, x ≠ [] ∧ x ≠ kAll ∧ x ≠ kSome := by decide
                refine m_goon (K0 := .sign) (w' := nTerm) (hh := k.tok) rfl h9 (ev_cD (aR G)) (ev_fld rfl (f_token G h9)) (evs (t := nTerm)) (by decide) (frTwo (rl _ hs.2)) (by decide) (fun _ H10 p10 h10 => ?_) (fun hn => absurd hs hn)
                have h10' : RAt g X H10 r o t (pushed c2 k.tok .term) (next t k) .non nTerm := h10.free (by decide)
                exact q H10 _ _ _ _ ((P8.trans (Ex.pr e9)).trans p10) h10' (nx_go h dm1 (by show nTerm ≠ []; decide) h10')
              · have hs := of_decide_eq_false hs
                rw [if_neg hs, stopAt_off] at dm1
                have h9 := h8.exx e9
                refine m_stop (ws := []) (ss := RELS) rfl h9 (ev_t0 h9.dm) (ev_cD (aR G)) (by simp) fun H10 p10 h10 => ?_
                exact q H10 _ _ _ _ ((P8.trans (Ex.pr e9)).trans p10) h10 (nx_stop dm1)
end
end Dy
namespace Dy
open PySem L2 Evl Mi
theorem joinAll_step {c : Co} {hs : List T} (h : Mi.top c.opened ∈ hs) (h0 : [] ∉ hs) : joinAll (join c hs) hs = joinAll c hs ∧ (join c hs).opened.length < c.opened.length := by
  obtain ⟨b, O, w, v, ws, i⟩ := c
  cases O with
  | nil => exact absurd h h0
  | cons p l =>
    have h : p.head ∈ hs := h
    unfold joinAll join
    simp only [if_pos h]
    refine ⟨?_, by simp⟩
    conv => rhs; unfold joins
    simp only [if_pos h]
theorem joinAll_w (c : Co) (hs : List T) : (joinAll c hs).w = c.w ∧ (joinAll c hs).bound = c.bound := ⟨rfl, rfl⟩
theorem cut0 {α : Type} {n : Nat} (ds : List PyData) : cutT ds none (some (n : Nat)) = ds.take n := by
  unfold cutT
  rw [HT.sIx_none, HT.sIx_nat, List.drop_zero, Nat.sub_zero]
  by_cases h : n ≤ ds.length
  · rw [Nat.min_eq_left h]
  · rw [Nat.min_eq_right (by omega), List.take_length, List.take_of_length_le (by omega)]
theorem nest_foldl (h : T) (ns : List T) (v : PyData) : nest h ns v = (ns.reverse).foldl (fun v n => trip h (Mi.str n) v) v := by
  unfold nest
  rw [List.foldl_reverse]
theorem Ats.rev {K : PySem.W.Frag} {X : List Addr} {H : Hp} : ∀ {ds : List PyData} {vs : List V}, Ats K X H vs ds → Ats K X H vs.reverse ds.reverse
  | [], _, h => by cases h; exact .nil
  | d :: ds, _, h => by
    cases h with
    | cons a b =>
      rw [List.reverse_cons, List.reverse_cons]
      exact (Ats.rev (ds := ds) b).app (.cons a .nil)
theorem q_asgT {σ : L2.St} {H : Hp} {te : TE} {gt : TG} {tz : TS} {D : Ends} (h : te σ H fun v H' => gt v σ H' (tz D)) : tSeq (tAsg te gt) tz D σ H := h
theorem ev_revL {K : PySem.W.Frag} {X : List Addr} {σ : L2.St} {H : Hp} {te : TE} {ds : List PyData} (dm : Dom X H) (h : EvD K X te σ H (.list ds)) : EvD K X (tRevL K te) σ H (.list ds.reverse) := fun H1 e1 Q q => h H1 e1 _ fun v H2 e2 av => by
  obtain ⟨a, vs, rfl, n, ha, a1⟩ := at_lst_inv av
  exact ⟨a, vs, rfl, sq_of ha, fun p hp => q _ _ (e2.trans (Ex.new hp)) (at_lst (fun m => (dm.pr (e1.trans e2)) p m hp) upd_same ((a1.rev).ex (Ex.new hp)))⟩
section
variable {g : G8} (G : Gf g) {X : List Addr} {H H' H1 : Hp} {r o l : Addr} {t : T} {c c' : Co} {k k' : Lk} {st : V} {wn : T} {σ : L2.St} {Q : VK} {i : Nat} {D : Ends} {tz : TS} {tv tw ts th : TE} {d : PyData}
/-- while join_open(reader, heads): pass -/
theorem loop_join {hs : List T} (hσ : σ[i]? = some (some (.ref r))) (h : RAt g X H r o t c k st wn) (he : ∀ H', Dom X H' → EvD g.K X th σ H' (.tuple (hs.map Mi.str))) (hne : [] ∉ hs) (q : ∀ H', Pr [r, o] H H' → RAt g X H' r o t (joinAll c hs) k st wn → tz D σ H') :
    tSeq (tWhile (tB (tCall (sp_join_open g) [] E0 (tCons (tVar i) (tCons th tNil)))) tNext) tz D σ H := by
  refine ⟨fun m σ' H' => σ' = σ ∧ ∃ cc, Pr [r, o] H H' ∧ RAt g X H' r o t cc k st wn ∧ joinAll cc hs = joinAll c hs ∧ m = cc.opened.length, ⟨_, rfl, c, Pr.refl, h, rfl, rfl⟩, fun m σ' H' ⟨hs', cc, p, hc, hj, hm⟩ => ?_⟩
  subst hs'
  refine m_join hσ hc (he H' hc.dm) hne fun H2 p2 h2 => ⟨_, rfl, ?_⟩
  by_cases ht : Mi.top cc.opened ∈ hs
  · rw [decide_eq_true ht]
    obtain ⟨j1, j2⟩ := joinAll_step ht hne
    exact if_t ⟨_, fun σ2 H3 hh => hh, ⟨(join cc hs).opened.length, by omega, rfl, join cc hs, p.trans p2, h2, by rw [j1, hj], rfl⟩⟩
  · rw [decide_eq_false ht]
    rw [join_no ht] at h2
    rw [joinAll_no ht] at hj
    subst hj
    exact if_f (q H2 (p.trans p2) h2)
include G in
theorem u_read_joined : ∀ vs H Q E, sp_read_joined g vs H Q E → t_read_joined g (EQ Q) (start ["reader", "head", "names", "many", "name"] vs) H := fun vs H Q E ⟨X, r, o, t, c, k, e, h, hw, q⟩ => by
  subst e
  have dl := delta_joined k.kind k.tok c hw
  rw [dJ_step] at dl
  refine loop_join rfl h (fun H' dm => ev_t1 (t := kNot) dm) (by decide) fun H1 p1 h1 => ?_
  have jl1 := joinAll_len c [kNot]
  have jw1 : (joinAll c [kNot]).w = .joined := hw
  generalize hc1 : joinAll c [kNot] = c1 at *
  refine q_drop (m_join rfl h1 (ev_t1 (t := kAnd) h1.dm) (by decide) fun H2 p2 h2 => ?_)
  have jl2 := join_len c1 [kAnd]
  have jw2 := (join_w c1 [kAnd]).1
  generalize hc2 : join c1 [kAnd] = c2 at *
  have P2 := p1.trans p2
  unfold dAnd at dl
  refine m_goon (K0 := .word) (w' := nUnit) (hh := kAnd) rfl h2 (ev_t1 (t := kAnd) h2.dm) (evs (t := kAnd)) (evs (t := nUnit)) (by decide) (frTwo (by decide)) (by decide) (fun hs H3 p3 h3 => ⟨true, rfl, if_t ?_⟩) (fun hs H3 p3 h3 => ⟨false, rfl, if_f ?_⟩)
  · have hs' : k.kind = .word ∧ k.tok = kAnd := by simpa using hs
    rw [if_pos hs'] at dl
    have h3' : RAt g X H3 r o t (pushed c2 kAnd .unit) (next t k) .non nUnit := h3.free (by decide)
    exact q H3 _ _ _ _ (P2.trans p3) h3' (nx_go h dl (by show nUnit ≠ []; decide) h3')
  · have hs' : ¬ (k.kind = .word ∧ k.tok = kAnd) := by simpa using hs
    rw [if_neg hs'] at dl
    refine q_drop (m_join rfl h3 (ev_t1 (t := kOr) h3.dm) (by decide) fun H4 p4 h4 => ?_)
    have jl3 := join_len c2 [kOr]
    have jw3 := (join_w c2 [kOr]).1
    generalize hc3 : join c2 [kOr] = c3 at *
    have P4 := (P2.trans p3).trans p4
    unfold dOr at dl
    refine m_goon (K0 := .word) (w' := nUnit) (hh := kOr) rfl h4 (ev_t1 (t := kOr) h4.dm) (evs (t := kOr)) (evs (t := nUnit)) (by decide) (frTwo (by decide)) (by decide) (fun hs H5 p5 h5 => ⟨true, rfl, if_t ?_⟩) (fun hs H5 p5 h5 => ⟨false, rfl, if_f ?_⟩)
    · have hs' : k.kind = .word ∧ k.tok = kOr := by simpa using hs
      rw [if_pos hs'] at dl
      have h5' : RAt g X H5 r o t (pushed c3 kOr .unit) (next t k) .non nUnit := h5.free (by decide)
      exact q H5 _ _ _ _ (P4.trans p5) h5' (nx_go h dl (by show nUnit ≠ []; decide) h5')
    · have hs' : ¬ (k.kind = .word ∧ k.tok = kOr) := by simpa using hs
      rw [if_neg hs'] at dl
      have P5 := P4.trans p5
      -- implies, iff
      refine q_for (X := X) (K := g.K) (ei_tup (ev_t2 (t := kImp) (u := kIff) h5.dm)) (fun i σ' H' => (∃ x, σ' = [some (.ref r), x, none, none, none]) ∧ Pr [r, o] H H' ∧ RAt g X H' r o t c3 k .non nJoined ∧ ∀ u ∈ [kImp, kIff].take i, ¬ (k.kind = .word ∧ k.tok = u)) (fun H6 e6 => ⟨⟨_, rfl⟩, P5.trans (Ex.pr e6), h5.exx e6, by simp⟩) (fun H6 i d v σ' H7 e6 p7 hd ad ⟨⟨x, hσ⟩, hP, hR, hno⟩ => ?_) (fun H6 σ' H7 e6 p7 ⟨⟨x, hσ⟩, hP, hR, hno⟩ => ?_)
      · subst hσ
        rw [List.getElem?_map] at hd
        obtain ⟨u, hu, rfl⟩ := Option.map_eq_some_iff.mp hd
        have hm := List.mem_of_getElem? hu
        have tk : [kImp, kIff].take (i + 1) = [kImp, kIff].take i ++ [u] := by rw [List.take_add_one, hu]; rfl
        have fu : ∀ u ∈ [kImp, kIff], u ≠ [] ∧ u ≠ kAll ∧ u ≠ kSome := by decide
        refine m_goon (K0 := .word) (tts := [u]) (w' := nUnit) (hh := u) rfl hR (ev_tup hR.dm (ea_cons (ev_var rfl ad) ea_nil) (by simp)) (ev_var rfl ad) (evs (t := nUnit)) (by decide) (frTwo (fu u hm)) (by decide) (fun hs H8 p8 h8 => ⟨true, rfl, if_t ?_⟩) (fun hs H8 p8 h8 => ⟨false, rfl, if_f ?_⟩)
        · have hs' : k.kind = .word ∧ k.tok = u := by simpa using hs
          have hd : Mi.delta k.kind k.tok c = .go (pushed c3 u .unit) := by
            rw [dl]
            simp only [List.mem_cons, List.not_mem_nil, or_false] at hm
            rcases hm with z | z
            · subst z; rw [if_pos hs']
            · subst z
              rw [if_neg (fun z => absurd (hs'.2.symm.trans z.2) (by decide)), if_pos hs']
          have h8' : RAt g X H8 r o t (pushed c3 u .unit) (next t k) .non nUnit := h8.free (by decide)
          exact q H8 _ _ _ _ (hP.trans p8) h8' (nx_go h hd (by show nUnit ≠ []; decide) h8')
        · have hs' : ¬ (k.kind = .word ∧ k.tok = u) := by simpa using hs
          refine ⟨p7.trans (prX h8 p8), ⟨_, rfl⟩, hP.trans p8, h8, fun y hy => ?_⟩
          rw [tk] at hy
          rcases List.mem_append.mp hy with hy | hy
          · exact hno y hy
          · rw [List.mem_singleton.mp hy]; exact hs'
      · subst hσ
        have n1 := hno kImp (by simp)
        have n2 := hno kIff (by simp)
        rw [if_neg n1, if_neg n2] at dl
        refine loop_join rfl hR (fun H' dm => ev_t2 (t := kImp) (u := kIff) dm) (by decide) fun H8 p8 h8 => ?_
        have jl4 := joinAll_len c3 [kImp, kIff]
        have jw4 : (joinAll c3 [kImp, kIff]).w = .joined := by
          show c3.w = _
          rw [jw3, jw2, jw1]
        generalize hc4 : joinAll c3 [kImp, kIff] = c4 at *
        have P8 := hP.trans p8
        have hoo := h8.oo
        refine Evl.s_if (b := decide (Mi.top c4.opened ∈ [kAll, kSome])) (et_test (ev_op (ev_top rfl h8) (ev_t2 (t := kAll) (u := kSome) h8.dm) rd_inTs)) (fun ht H9 e9 => ?_) (fun ht H9 e9 => ?_)
        · have ht := of_decide_eq_true ht
          have h9 := h8.exx e9
          cases hop : c4.opened with
          | nil => rw [hop] at ht; exact absurd ht (by decide)
          | cons p rest =>
            rw [hop] at ht
            have hp := hoo p (by rw [hop]; exact List.mem_cons_self)
            cases p with
            | one hh =>
              have ht' : hh ∈ [kAll, kSome] := ht
              rcases List.mem_cons.mp ht' with z | z
              · exact absurd z hp.2.1
              · exact absurd (List.mem_singleton.mp z) hp.2.2
            | two hh u =>
              have ht' : hh ∈ [kAll, kSome] := ht
              rcases List.mem_cons.mp ht' with z | z
              · exact absurd z hp.2.1
              · exact absurd (List.mem_singleton.mp z) hp.2.2
            | quant hh ns many =>
              refine q_asgT (m_pop G rfl h9 hop fun v H10 p10 av h10 => ?_)
              have av10 : At g.K X H10 v (.tuple [Mi.str hh, .list (ns.map Mi.str), .int (many : Nat)]) := av.pr (prX h10 p10)
              refine g_tup av10 rfl fun vs as => ?_
              obtain ⟨w1, w2, w3, rfl, a1, a2, a3⟩ := ats3 as
              cases at_str_inv a1
              cases at_int_inv a3
              have okh := at_str_ok a1
              refine ⟨_, _, rfl, _, _, rfl, _, _, rfl, rfl, ?_⟩
              have htl : c4.bound.take many = c4.bound.take many := rfl
              have hbl := h10.bl
              refine sq (s_bound (bs := c4.bound.take many) G rfl h10 (by have hbl' : c4.bound.length ≤ 8 + k.place := hbl; rw [List.length_take]; omega) (fun x hx => h10.bn x (List.mem_of_mem_take hx)) (evD_is (ev_slL h10.dm (ev_fld rfl (f_bound G h10)) eo_none (eo_int (ev_var rfl (at_int (K := g.K) (X := X))))) (by rw [cut0 (α := Unit), ← List.map_take])) fun H11 p11 h11 => ?_)
              have a2' := a2.pr (prX h11 p11)
              have P11 := ((P8.trans (Ex.pr e9)).trans p10).trans p11
              dsimp only
              refine s_for (K := g.K) (X := X) (ds := (ns.map Mi.str).reverse) (ei_lst (ev_revL h11.dm (ev_var rfl a2'))) (fun i σ' H' => (∃ x, σ' = [some (.ref r), some (.str (S hh)), some w2, some (.int (many : Nat)), x]) ∧ Pr [r, o] H H' ∧ RAt g X H' r o t { c4 with opened := rest, bound := c4.bound.take many, value := (ns.reverse.take i).foldl (fun v n => trip hh (Mi.str n) v) c4.value } k .non nJoined) (fun H12 e12 => ⟨⟨_, rfl⟩, P11.trans (Ex.pr e12), h11.exx e12⟩) (fun H12 i d v σ' H13 e12 p13 hd ad ⟨⟨x, hσ⟩, hP, hR⟩ => ?_) (fun H12 σ' H13 e12 p13 ⟨⟨x, hσ⟩, hP, hR⟩ => ?_)
              · subst hσ
                rw [← List.map_reverse, List.getElem?_map] at hd
                obtain ⟨u, hu, rfl⟩ := Option.map_eq_some_iff.mp hd
                show sFld g.K (tVar 0) _ "value" _ [some (.ref r), some (.str (S hh)), some w2, some (.int (many : Nat)), some v] H13
                refine s_value (d := trip hh (Mi.str u) ((ns.reverse.take i).foldl (fun v n => trip hh (Mi.str n) v) c4.value)) G rfl hR (ev_tup hR.dm (ea_cons (ev_var rfl (at_str okh)) (ea_cons (ev_var rfl ad) (ea_cons (ev_fld rfl (f_value G hR)) ea_nil))) (by simp)) fun H14 p14 h14 => ⟨p13.trans (prX h14 p14), ⟨_, rfl⟩, hP.trans p14, ?_⟩
                rw [List.take_add_one, hu, List.foldl_append]
                exact h14
              · subst hσ
                rw [List.length_reverse, List.length_map, ← List.length_reverse, List.take_length, ← nest_foldl] at hR
                have dd : Mi.delta k.kind k.tok c = Mi.delta k.kind k.tok { c4 with w := .joined, opened := rest, bound := c4.bound.take many, value := nest hh ns c4.value } := by
                  rw [dl, delta_joined _ _ _ rfl]
                  obtain ⟨b4, o4, w4, v4, ws4, i4⟩ := c4
                  cases jw4
                  cases hop
                  rfl
                have hR' : RAt g X H13 r o t { c4 with w := .joined, opened := rest, bound := c4.bound.take many, value := nest hh ns c4.value } k .non nJoined := hR.ww
                refine q H13 _ _ _ _ hP hR' (nx_same dd (by show nJoined ≠ []; decide) ?_)
                rw [hw]
                show rest.length + 0 < c.opened.length + 0
                rw [hop, List.length_cons] at jl4
                omega
        · have ht := of_decide_eq_false ht
          have h9 := h8.exx e9
          have P9 := P8.trans (Ex.pr e9)
          have nq : ∀ {p : Op} {rest : List Op}, c4.opened = p :: rest → (dEnd k.kind k.tok (dJ k.kind k.tok) c4 = if p.head = [91] ∧ k.kind = .sign ∧ k.tok = [93] then .go { c4 with opened := rest, w := .joined } else stopAt k.kind k.tok [kAnd, kOr, kImp, kIff] false) := fun {p rest} hop => by
            obtain ⟨b4, o4, w4, v4, ws4, i4⟩ := c4
            cases hop
            have hp := hoo p List.mem_cons_self
            cases p with
            | one hh => rfl
            | two hh u => rfl
            | quant hh ns many =>
              exfalso
              refine ht ?_
              show hh ∈ _
              rcases hp.2 with z | z <;> rw [z] <;> decide
          refine Evl.s_if (b := decide (Mi.top c4.opened = [91] ∧ k.kind = .sign ∧ k.tok = [93])) (et_is (Evl.et_and (a := decide (Mi.top c4.opened = [91])) (b := decide (k.kind = .sign ∧ k.tok = [93])) (et_test (ev_op (ev_top rfl h9) (evs (t := [91])) rd_eqs)) fun _ => et_at (K0 := .sign) rfl h9 (ev_t1 (t := [93]) h9.dm) (by simp)) (by rw [Bool.eq_iff_iff]; simp)) (fun hb H10 e10 => ?_) (fun hb H10 e10 => ?_)
          · have hb := of_decide_eq_true hb
            have h10 := h9.exx e10
            cases hop : c4.opened with
            | nil => rw [hop] at hb; exact absurd hb.1 (by decide)
            | cons p rest =>
              rw [hop] at hb
              have hb : p.head = [91] ∧ k.kind = .sign ∧ k.tok = [93] := hb
              have hd : Mi.delta k.kind k.tok c = .go { c4 with opened := rest, w := .joined } := by rw [dl, nq hop, if_pos hb]
              refine q_drop (m_step rfl h10 fun H11 p11 h11 => ?_)
              refine m_pop G rfl h11 hop fun v H12 p12 av h12 => ?_
              have h12' : RAt g X H12 r o t { c4 with opened := rest, w := .joined } (next t k) .non nJoined := h12.ww
              exact q H12 _ _ _ _ (((P9.trans (Ex.pr e10)).trans p11).trans p12) h12' (nx_go h hd (by show nJoined ≠ []; decide) h12')
          · have hb := of_decide_eq_false hb
            have h10 := h9.exx e10
            refine Evl.s_if (b := decide (Mi.top c4.opened = [] ∧ k.kind = .fin)) (et_is (Evl.et_and (a := decide (Mi.top c4.opened = [])) (b := decide (k.kind = .fin)) (et_test (ev_op (ev_top rfl h10) (evs (t := [])) rd_eqs)) fun _ => et_test (ev_op (ev_fld rfl (f_kind G h10)) (evs (t := kdT .fin)) (rd_is rd_eqs (by congr 1; exact decide_eq_decide.mpr ⟨kdT_inj, fun h => by rw [h]⟩)))) (by rw [Bool.eq_iff_iff]; simp)) (fun hz H11 e11 => ?_) (fun hz H11 e11 => ?_)
            · have hz := of_decide_eq_true hz
              have h11 := h10.exx e11
              cases hop : c4.opened with
              | cons p rest =>
                rw [hop] at hz
                exact absurd hz.1 (hoo p (by rw [hop]; exact List.mem_cons_self)).1
              | nil =>
                refine s_wanted G rfl h11 (.inl (by decide)) (evs (t := nNothing)) fun H12 p12 h12 => ?_
                refine q H12 _ _ _ _ ((P9.trans (Ex.pr (e10.trans e11))).trans p12) h12 (.inr (.inr ⟨rfl, rfl, pz_done ?_⟩))
                rw [dl]
                obtain ⟨b4, o4, w4, v4, ws4, i4⟩ := c4
                cases hop
                show (if _ then _ else _) = _
                rw [if_pos hz.2]
            · have hz := of_decide_eq_false hz
              have h11 := h10.exx e11
              have hd : Mi.delta k.kind k.tok c = .stop (offN k.kind k.tok [kAnd, kOr, kImp, kIff] false) := by
                rw [dl, ← stopAt_off]
                cases hop : c4.opened with
                | nil =>
                  have hz' : ¬ k.kind = .fin := fun z => hz ⟨by rw [hop]; rfl, z⟩
                  obtain ⟨b4, o4, w4, v4, ws4, i4⟩ := c4
                  cases hop
                  show (if _ then _ else _) = _
                  rw [if_neg hz']
                | cons p rest =>
                  rw [hop] at hb
                  have hb : ¬ (p.head = [91] ∧ k.kind = .sign ∧ k.tok = [93]) := hb
                  rw [nq hop, if_neg hb]
              refine m_stop (ws := [kAnd, kOr, kImp, kIff]) (ss := []) rfl h11 (ev_tup h11.dm (ea_cons (evs (t := kAnd)) (ea_cons (evs (t := kOr)) (ea_cons (evs (t := kImp)) (ea_cons (evs (t := kIff)) ea_nil)))) (by simp)) (ev_t0 h11.dm) (by decide) fun H12 p12 h12 => ?_
              exact q H12 _ _ _ _ ((P9.trans (Ex.pr (e10.trans e11))).trans p12) h12 (nx_stop hd)
end
end Dy
namespace Dy
open PySem L2 Evl Mi
section
variable {g : G8} (G : Gf g) {X : List Addr} {H H' H1 : Hp} {r o l : Addr} {t : T} {c c' : Co} {k k' : Lk} {st : V} {wn : T} {σ : L2.St} {Q : VK} {i : Nat} {D : Ends} {tz : TS} {tv tw ts th te : TE} {d e : PyData}
include G in
theorem s_raw {dx : Addr} {fs : List (Str × V)} {f : Str} (h : H r = some (.ins g.Reader dx fs)) (hs : σ[i]? = some (some (.ref r))) (hf : f ∈ (["text", "kind", "token", "place", "bound", "opened", "wanted", "value", "words", "is_base", "stopped"] : List Str)) (hl : fs.length < 1000)
    (he : EvD g.K X tv σ H d) (q : ∀ v H1, Ex H H1 → At g.K X H1 v d → D.nx σ (upd H1 r (.ins g.Reader dx (putF f v fs)))) : sFld g.K (tVar i) tv f D σ H := he H (Ex.refl _) _ fun v H1 e1 av =>
  ⟨_, hs, r, _, dx, fs, rfl, e1 _ _ h, G.cR, G.nR f hf, hl, q v H1 e1 av⟩
theorem pr_r1 {u : HO} : Pr [r] H (upd H r u) := pr_upd List.mem_cons_self
include G in
theorem u_Reader_init : ∀ vs H Q E, sp_Reader_init g vs H Q E → t_Reader_init g (EQ Q) (start ["self", "text", "free"] vs) H := fun vs H Q E ⟨X, r, dx, t, f, free, e, hr, dm, h0, ot, lt, hf, fl, fn, q⟩ => by
  subst e
  have sX : ∀ a ∈ [r], a ∈ X := s1 hr
  refine sq (s_raw (X := X) G h0 rfl (by decide) (by decide) (ev_var rfl (at_str ot)) fun v H1 e1 av => ?_)
  cases at_str_inv av
  have p1 : Pr [r] H (upd H1 r (.ins g.Reader dx (putF "text" (.str (S t)) []))) := (Ex.pr e1).trans pr_r1
  have dm1 : Dom X (upd H1 r (.ins g.Reader dx (putF "text" (.str (S t)) []))) := (dm.pr e1).upd
  generalize hA : upd H1 r (.ins g.Reader dx (putF "text" (.str (S t)) [])) = A at *
  have hAr : A r = some (.ins g.Reader dx [("text", .str (S t))]) := by rw [← hA, upd_same]; rfl
  dsimp only
  refine q_asgG (ev_call (ea_cons (ev_var rfl (at_str ot)) (ea_cons ev_int ea_nil)) (spd (X := X) dm1 ⟨t, 0, Nat.zero_le _, lt, rfl, rfl⟩)) fun v H2 e2 av => g_tup av rfl fun vs as => ?_
  obtain ⟨kv, tv, pv, rfl, a1, a2, a3⟩ := ats3 as
  cases at_str_inv a1
  cases at_str_inv a2
  cases at_int_inv a3
  have hr2 := e2 _ _ hAr
  refine ⟨_, _, rfl, _, rfl, r, _, dx, _, rfl, hr2, G.cR, G.nR _ (by decide), by show 1 < 1000; decide, ?_⟩
  refine ⟨_, _, rfl, _, rfl, r, _, dx, _, rfl, upd_same, G.cR, G.nR _ (by decide), by show 2 < 1000; decide, ?_⟩
  refine ⟨_, _, rfl, _, rfl, r, _, dx, _, rfl, upd_same, G.cR, G.nR _ (by decide), by show 3 < 1000; decide, rfl, ?_⟩
  rw [upd_upd, upd_upd]
  have p2 := (p1.trans (Ex.pr e2)).trans (pr_r1 (u := .ins g.Reader dx [("text", .str (S t)), ("kind", .str (S (kdT (tokenAt t 0).kind))), ("token", .str (S (tokenAt t 0).tok)), ("place", .int ((tokenAt t 0).place : Nat))]))
  have dm2 : Dom X (upd H2 r (.ins g.Reader dx [("text", .str (S t)), ("kind", .str (S (kdT (tokenAt t 0).kind))), ("token", .str (S (tokenAt t 0).tok)), ("place", .int ((tokenAt t 0).place : Nat))])) := (dm1.pr e2).upd
  show tSeq _ _ (EQ Q) _ (upd H2 r (.ins g.Reader dx [("text", .str (S t)), ("kind", .str (S (kdT (tokenAt t 0).kind))), ("token", .str (S (tokenAt t 0).tok)), ("place", .int ((tokenAt t 0).place : Nat))]))
  generalize hB : upd H2 r (.ins g.Reader dx [("text", .str (S t)), ("kind", .str (S (kdT (tokenAt t 0).kind))), ("token", .str (S (tokenAt t 0).tok)), ("place", .int ((tokenAt t 0).place : Nat))]) = B at *
  have hBr : B r = some (.ins g.Reader dx [("text", .str (S t)), ("kind", .str (S (kdT (tokenAt t 0).kind))), ("token", .str (S (tokenAt t 0).tok)), ("place", .int ((tokenAt t 0).place : Nat))]) := by rw [← hB, upd_same]
  have evl : EvD g.K X (tCB (rListA g.K) (tCons (tVar 2) tNil)) (start ["self", "text", "free"] [.ref r, .str (S t), f]) B (.list (free.map Mi.str)) := by
    rcases hf with hf | hf
    · exact ev_cb (ea_cons (ev_var rfl (hf.pr (p2.mono sX))) ea_nil) (rc_listL dm2)
    · exact ev_cb (ea_cons (ev_var rfl (hf.pr (p2.mono sX))) ea_nil) (rc_listT dm2)
  refine sq (s_raw (X := X) G hBr rfl (by decide) (by show 4 < 1000; decide) evl fun bv H3 e3 abv => ?_)
  have p3 := (p2.trans (Ex.pr e3)).trans (pr_r1 (u := .ins g.Reader dx [("text", .str (S t)), ("kind", .str (S (kdT (tokenAt t 0).kind))), ("token", .str (S (tokenAt t 0).tok)), ("place", .int ((tokenAt t 0).place : Nat)), ("bound", bv)]))
  have dm3 : Dom X (upd H3 r (.ins g.Reader dx [("text", .str (S t)), ("kind", .str (S (kdT (tokenAt t 0).kind))), ("token", .str (S (tokenAt t 0).tok)), ("place", .int ((tokenAt t 0).place : Nat)), ("bound", bv)])) := (dm2.pr e3).upd
  have abv3 : At g.K X (upd H3 r (.ins g.Reader dx [("text", .str (S t)), ("kind", .str (S (kdT (tokenAt t 0).kind))), ("token", .str (S (tokenAt t 0).tok)), ("place", .int ((tokenAt t 0).place : Nat)), ("bound", bv)])) bv (.list (free.map Mi.str)) := abv.pr (pr_upd hr)
  show tSeq (sFld g.K (tVar 0) (tLst tNil) "opened") _ (EQ Q) _ (upd H3 r (.ins g.Reader dx [("text", .str (S t)), ("kind", .str (S (kdT (tokenAt t 0).kind))), ("token", .str (S (tokenAt t 0).tok)), ("place", .int ((tokenAt t 0).place : Nat)), ("bound", bv)]))
  generalize hC : upd H3 r (.ins g.Reader dx [("text", .str (S t)), ("kind", .str (S (kdT (tokenAt t 0).kind))), ("token", .str (S (tokenAt t 0).tok)), ("place", .int ((tokenAt t 0).place : Nat)), ("bound", bv)]) = C at *
  have hCr : C r = some (.ins g.Reader dx [("text", .str (S t)), ("kind", .str (S (kdT (tokenAt t 0).kind))), ("token", .str (S (tokenAt t 0).tok)), ("place", .int ((tokenAt t 0).place : Nat)), ("bound", bv)]) := by rw [← hC, upd_same]
  refine sq ⟨by decide, fun o ho => ?_⟩
  have hro : r ≠ o := fun z => by rw [← z, hCr] at ho; cases ho
  have hoX : o ∉ X := fun m => dm3 o m ho
  have ho0 : H o = none := by
    cases hh : H o with
    | none => rfl
    | some u => rw [p3 o u (fun m => hro (List.mem_singleton.mp m).symm) hh] at ho; cases ho
  have dm4 : Dom (o :: X) (upd C o (.lst [])) := dm3.more (Ex.new ho) (by rw [upd_same]; simp)
  have abv4 : At g.K (o :: X) (upd C o (.lst [])) bv (.list (free.map Mi.str)) := (abv3.more ho).pr (pr_upd List.mem_cons_self)
  have p4 : Pr [r] H (upd C o (.lst [])) := p3.trans (Ex.pr (Ex.new ho))
  have hDr : (upd C o (.lst [])) r = some (.ins g.Reader dx [("text", .str (S t)), ("kind", .str (S (kdT (tokenAt t 0).kind))), ("token", .str (S (tokenAt t 0).tok)), ("place", .int ((tokenAt t 0).place : Nat)), ("bound", bv)]) := by rw [upd_ne hro]; exact hCr
  have hDo : (upd C o (.lst [])) o = some (.lst []) := upd_same
  generalize hDd : upd C o (.lst []) = Dd at *
  have hrY : r ∈ o :: X := List.mem_cons_of_mem _ hr
  refine ⟨_, rfl, r, _, dx, _, rfl, hDr, G.cR, G.nR _ (by decide), by show 5 < 1000; decide, ?_⟩
  refine ⟨_, rfl, r, _, dx, _, rfl, upd_same, G.cR, G.nR _ (by decide), by show 6 < 1000; decide, ?_⟩
  refine ⟨_, rfl, r, _, dx, _, rfl, upd_same, G.cR, G.nR _ (by decide), by show 7 < 1000; decide, ?_⟩
  rw [upd_upd, upd_upd]
  dsimp only
  show tSeq _ _ (EQ Q) _ (upd Dd r (.ins g.Reader dx [("text", .str (S t)), ("kind", .str (S (kdT (tokenAt t 0).kind))), ("token", .str (S (tokenAt t 0).tok)), ("place", .int ((tokenAt t 0).place : Nat)), ("bound", bv), ("opened", .ref o), ("wanted", .str (S nUnit)), ("value", .non)]))
  refine sq (s_raw (X := o :: X) G upd_same rfl (by decide) (by show 8 < 1000; decide) (ev_t0 dm4.upd) fun wv H5 e5 awv => ?_)
  have hr5 := e5 _ _ upd_same
  refine ⟨_, rfl, r, _, dx, _, rfl, upd_same, G.cR, G.nR _ (by decide), by show 9 < 1000; decide, ?_⟩
  refine ⟨_, rfl, r, _, dx, _, rfl, upd_same, G.cR, G.nR _ (by decide), by show 10 < 1000; decide, ?_⟩
  rw [upd_upd, upd_upd]
  refine q _ o ((p4.trans pr_r1).trans ((Ex.pr e5).trans pr_r1)) ho0 ⟨hrY, List.mem_cons_self, hro, (dm4.upd.pr e5).upd, ot, lt, ⟨0, Nat.zero_le _, rfl⟩, Nat.le_trans fl (by omega), Nat.zero_le _, fn, ⟨by simp [Mi.start], by simp [Mi.start]⟩, by simp [Mi.start], dx, bv, .non, wv, [], false, upd_same, fun h => absurd h (by decide), (abv4.pr (pr_upd hrY)).ex e5 |>.pr (pr_upd hrY), at_non, awv.pr (pr_upd hrY), ?_, .nil⟩
  rw [upd_ne hro.symm]
  refine e5 _ _ ?_
  rw [upd_ne hro.symm]
  exact hDo
end
end Dy
namespace Dy
open PySem L2 Evl Mi
section
variable {g : G8} (G : Gf g) {X : List Addr} {H H' H1 : Hp} {r o l a b : Addr} {t : T} {c c' : Co} {k k' : Lk} {st : V} {wn : T} {σ : L2.St} {Q : VK} {i : Nat} {D : Ends} {tz : TS} {tv tw ts th te tp : TE} {d e p : PyData}
/-! objects made -/
theorem ex_made {H1 : Hp} {x dx : Addr} {u v : HO} (hx : H1 x = none) (hd : H1 dx = none) (h1 : ∀ a, a ≠ x → H' a = (upd (upd H1 dx u) x v) a) : Ex H1 H' := fun a w q => by
  have hne : a ≠ x := fun z => by rw [z, hx] at q; cases q
  rw [h1 a hne, upd_ne hne, upd_ne (fun z => by rw [z, hd] at q; cases q)]
  exact q
theorem mk_un (h1 : EvD g.K X tp σ H p) (h2 : EvD g.K X te σ H e) (q : ∀ a H', Ex H H' → H a = none → (∃ dx v w, H' a = some (.ins g.Unread dx [("place", v), ("is_end", w)]) ∧ At g.K X H' v p ∧ At g.K X H' w e) → Q (.ref a) H') : tMake g.Unread (sp_Unread_init g) [] E0 (tCons tp (tCons te tNil)) σ H Q :=
  ea_cons h1 (ea_cons h2 ea_nil) H (Ex.refl _) _ fun vs H1 x1 avs => by
    obtain ⟨v, w, rfl, av, aw⟩ := ats2 avs
    intro x dx hx hd hn
    refine ⟨x, dx, v, w, rfl, upd_same, fun H' k1 k2 => ⟨rfl, ?_⟩⟩
    have e2 := ex_made hx hd k1
    exact q x H' (x1.trans e2) (fresh_back x1 hx) ⟨dx, v, w, k2, av.ex e2, aw.ex e2⟩
theorem mk_rd (h1 : EvD g.K X tp σ H p) (q : ∀ a H', Ex H H' → H a = none → (∃ dx v, H' a = some (.ins g.Read dx [("tree", v)]) ∧ At g.K X H' v p) → Q (.ref a) H') : tMake g.Read (sp_Read_init g) [] E0 (tCons tp tNil) σ H Q :=
  ea_cons h1 ea_nil H (Ex.refl _) _ fun vs H1 x1 avs => by
    obtain ⟨v, rfl, av⟩ := ats1 avs
    intro x dx hx hd hn
    refine ⟨x, dx, v, rfl, upd_same, fun H' k1 k2 => ⟨rfl, ?_⟩⟩
    have e2 := ex_made hx hd k1
    exact q x H' (x1.trans e2) (fresh_back x1 hx) ⟨dx, v, k2, av.ex e2⟩
/-! isinstance of own objects -/
include G in
theorem ty_un {dx : Addr} {fs} (h : H a = some (.ins g.Unread dx fs)) : TyX g.K H (.ref a) (.ref g.Unread) := .base (.ins h G.cU G.haU G.hn G.htk G.hmU)
include G in
theorem ty_rd {dx : Addr} {fs} (h : H a = some (.ins g.Read dx fs)) : TyX g.K H (.ref a) (.ref g.Read) := .base (.ins h G.cD G.haD G.hn G.htk G.hmD)
theorem ev_isiO {v : V} {u : Value} {C : Addr} {b : Bool} (hs : σ[i]? = some (some v)) (ht : ∀ H', Ex H H' → TyX g.K H' v u) (hk : PySem.W.kitOne g.K u (.ref C) = some b) : EvD g.K X (tCB (rIsi g.K) (tCons (tVar i) (tCons (tC (.ref C)) tNil))) σ H (.bool b) := fun H1 e1 Q q =>
  ⟨v, hs, v, .ref C, _, _, b, rfl, .own C, ht H1 e1, hk, q _ H1 (Ex.refl _) at_bl⟩
include G in
theorem isi_un {dx : Addr} {fs} {C : Addr} {b : Bool} (hs : σ[i]? = some (some (.ref a))) (h : H a = some (.ins g.Unread dx fs)) (hk : PySem.W.kitOne g.K (.ref g.Unread) (.ref C) = some b) : EvD g.K X (tCB (rIsi g.K) (tCons (tVar i) (tCons (tC (.ref C)) tNil))) σ H (.bool b) := ev_isiO hs (fun H' e => ty_un G (e _ _ h)) hk
include G in
theorem isi_rd {dx : Addr} {fs} {C : Addr} {b : Bool} (hs : σ[i]? = some (some (.ref a))) (h : H a = some (.ins g.Read dx fs)) (hk : PySem.W.kitOne g.K (.ref g.Read) (.ref C) = some b) : EvD g.K X (tCB (rIsi g.K) (tCons (tVar i) (tCons (tC (.ref C)) tNil))) σ H (.bool b) := ev_isiO hs (fun H' e => ty_rd G (e _ _ h)) hk
/-! == -/
theorem lk_place {v w : V} : ([("place", v), ("is_end", w)] : List (Str × V)).lookup ("place" : Str) = some v := rfl
theorem lk_end {v w : V} : ([("place", v), ("is_end", w)] : List (Str × V)).lookup ("is_end" : Str) = some w := rfl
include G in
theorem u_Unread_eq : ∀ vs H Q E, sp_Unread_eq g vs H Q E → t_Unread_eq g (EQ Q) (start ["self", "other"] vs) H := fun vs H Q E ⟨a, b, e, ⟨p, eb, ⟨dx, fs, a1, a2, a3⟩, dy, gs, b1, b2, b3⟩, q⟩ => by
  subst e
  have dm : Dom [] H := fun _ h => by cases h
  have fa1 : Fld g.K [] H a "place" (.int p) := ⟨_, dx, fs, _, a1, G.cU, G.nU1, a2, at_int⟩
  have fa2 : Fld g.K [] H a "is_end" (.bool eb) := ⟨_, dx, fs, _, a1, G.cU, G.nU2, a3, at_bl⟩
  have fb1 : Fld g.K [] H b "place" (.int p) := ⟨_, dy, gs, _, b1, G.cU, G.nU1, b2, at_int⟩
  have fb2 : Fld g.K [] H b "is_end" (.bool eb) := ⟨_, dy, gs, _, b1, G.cU, G.nU2, b3, at_bl⟩
  have hd : (PyData.tuple [.int p, .bool eb]).depth ≤ 200 := by show max 0 (max 0 0) + 1 ≤ 200; decide
  refine s_ret (evD_is (ev_andV (a := true) (b := true) (isi_un G (X := []) rfl b1 G.kUU) fun _ => ev_op (ev_tup dm (ea_cons (ev_fld rfl fa1) (ea_cons (ev_fld rfl fa2) ea_nil)) (by simp)) (ev_tup dm (ea_cons (ev_fld rfl fb1) (ea_cons (ev_fld rfl fb2) ea_nil)) (by simp)) (rd_is (rd_eqN (Nat.le_trans (Nat.min_le_left _ _) hd)) (by rw [SeqAt.eqv_refl _ rfl]))) rfl) fun v H1 e1 av => ?_
  cases at_bl_inv av
  exact q H1 e1
include G in
theorem u_Read_eq : ∀ vs H Q E, sp_Read_eq g vs H Q E → t_Read_eq g (EQ Q) (start ["self", "other"] vs) H := fun vs H Q E ⟨a, b, e, ⟨d, hd, ⟨dx, fs, v, a1, a2, a3⟩, dy, gs, w, b1, b2, b3⟩, q⟩ => by
  subst e
  have fa : Fld g.K [] H a "tree" d := ⟨_, dx, fs, _, a1, G.cD, G.nD, a2, a3⟩
  have fb : Fld g.K [] H b "tree" d := ⟨_, dy, gs, _, b1, G.cD, G.nD, b2, b3⟩
  refine s_ret (evD_is (ev_andV (a := true) (b := true) (isi_rd G (X := []) rfl b1 G.kDD) fun _ => ev_op (ev_fld rfl fa) (ev_fld rfl fb) (rd_is (rd_eqN (Nat.le_trans (Nat.min_le_left _ _) hd)) (by rw [SeqAt.eqv_refl _ a3.lay]))) rfl) fun v H1 e1 av => ?_
  cases at_bl_inv av
  exact q H1 e1
/-! settled -/
theorem len_set {ss : List T} {v : V} (hs : σ[i]? = some (some v)) (h : At g.K X H v (.list (ss.map Mi.str)) ∨ At g.K X H v (.tuple (ss.map Mi.str))) (hn : ss.Nodup) (hl : ss.length ≤ 8) : EvD g.K X (tLenSetS g.K (tVar i)) σ H (.int (ss.length : Nat)) := fun H1 e1 Q q => by
  have mp : ss.map Mi.str = (ss.map S).map PyData.str := by rw [List.map_map]; rfl
  have nd : (ss.map S).Nodup := List.Pairwise.map _ (fun a b hab h => hab (S_inj h)) hn
  refine ⟨v, hs, ?_⟩
  have qq : Q (.int ((ss.map S).length : Nat)) H1 := by rw [List.length_map]; exact q _ H1 (Ex.refl _) at_int
  rcases h with h | h
  · obtain ⟨l, vs, rfl, _, hl', a1⟩ := at_lst_inv (h.ex e1)
    rw [mp] at a1
    rw [ats_strs a1] at hl'
    exact ⟨l, ss.map S, rfl, .inl (sq_of hl'), nd, by rw [List.length_map]; omega, qq⟩
  · obtain ⟨l, vs, rfl, hl', a1⟩ := at_tup_inv (h.ex e1)
    rw [mp] at a1
    rw [ats_strs a1] at hl'
    exact ⟨l, ss.map S, rfl, .inr (ex_t hx_ex hl'), nd, by rw [List.length_map]; omega, qq⟩
theorem FreeAt.ex {f : V} {free : List T} (h : FreeAt g X H f free) (e : Ex H H') : FreeAt g X H' f free := ⟨h.1.imp (·.ex e) (·.ex e), h.2⟩
theorem u_need_text : ∀ vs H Q E, sp_need_text g vs H Q E → t_need_text g (EQ Q) (start ["text", "free", "name"] vs) H := fun vs H Q E ⟨X, t, f, free, e, dm, ot, hf, q⟩ => by
  subst e
  refine Evl.q_when (b := false) (Evl.et_not (a := true) (et_B (ev_isi (X := X) (ev_var rfl (at_str ot)) (b := true) rfl))) (fun h => by cases h) fun _ H1 e1 => ?_
  have hf1 := hf.ex e1
  have dm1 := dm.pr e1
  obtain ⟨ha, hl, hn, hnd⟩ := hf1
  have hrow : EvT (tB (tCall (sp_is_row g) [] E0 (tCons (tVar 1) tNil))) (start ["text", "free", "name"] [.str (S t), f]) H1 true := by
    rcases ha with ha | ha
    · exact et_B (ev_call (ea_cons (ev_var rfl ha) ea_nil) (spd (X := X) dm1 ⟨_, rfl, .inl ⟨_, rfl⟩, rfl⟩))
    · exact et_B (ev_call (ea_cons (ev_var rfl ha) ea_nil) (spd (X := X) dm1 ⟨_, rfl, .inr ⟨_, rfl⟩, rfl⟩))
  have hlen : ∀ H2, Ex H1 H2 → EvD g.K X (tCB (rLenA g.K) (tCons (tVar 1) tNil)) (start ["text", "free", "name"] [.str (S t), f]) H2 (.int (free.length : Nat)) := fun H2 e2 => by
    rcases ha with ha | ha
    · exact evD_is (ev_cb (ea_cons (ev_var rfl (ha.ex e2)) ea_nil) rc_lenL) (by rw [List.length_map])
    · exact evD_is (ev_cb (ea_cons (ev_var rfl (ha.ex e2)) ea_nil) rc_lenT) (by rw [List.length_map])
  have hit : EvI g.K X (iSeq g.K (tVar 1)) (start ["text", "free", "name"] [.str (S t), f]) H1 (free.map Mi.str) := by
    rcases ha with ha | ha
    · exact ei_seqL (ev_var rfl ha)
    · exact ei_seqT (ev_var rfl ha)
  have hall : EvD g.K X (tCB (rAll g.K) (tCons (tLc (iSeq g.K (tVar 1)) (gName 2) tYes (tCall (sp_is_name g) [] E0 (tCons (tVar 2) tNil)) [2]) tNil)) (start ["text", "free", "name"] [.str (S t), f]) H1 (.bool true) := by
    refine ev_cb (ea_cons (ev_lc dm1 hit (fun _ => true) (fun _ => .bool true) (by rw [List.length_map]; omega) (fun Y H2 k dY v d ad hd => fun H3 e3 Q q => q H3 (Ex.refl _)) fun Y H2 k dY v d ad hd _ => ?_) ea_nil) ?_
    · obtain ⟨x, hx, rfl⟩ := List.mem_map.mp hd
      exact ev_call (ea_cons (ev_var rfl ad) ea_nil) (spd dY ⟨x, hn x hx, rfl, rfl⟩)
    · have : (((free.map Mi.str).filter fun _ => true).map fun _ => PyData.bool true) = (free.map fun _ => true).map .bool := by
        rw [List.filter_eq_self.mpr (fun _ _ => rfl), List.map_map, List.map_map]; rfl
      rw [this]
      exact rc_is rc_all (congrArg PyData.bool (by simp))
  refine Evl.q_when (b := false) (et_is (Evl.et_or (a := false) (b := false) (Evl.et_not (a := true) hrow) fun _ => et_is (Evl.et_or (a := false) (b := false) (et_test (ev_op (hlen _ (Ex.refl _)) ev_int (rd_is (rd_gtN (n := 8)) (by rw [decide_eq_false (by omega)])))) fun _ => Evl.et_not (a := true) (et_B hall)) rfl) rfl) (fun h => by cases h) fun _ H2 e2 => ?_
  refine Evl.s_when (b := false) (et_test (ev_op (len_set rfl (ha.imp (·.ex e2) (·.ex e2)) hnd hl) (hlen H2 e2) (rd_is rd_neI (by simp)))) (fun h => by cases h) fun _ H3 e3 => q H3 ((e1.trans e2).trans e3)
theorem wT_ne (w : W) : wT w ≠ nNothing := by cases w <;> simp [wT]
theorem ex_pr2 {H1 H2 : Hp} (e : Ex H H1) (h : Pr [r, o] H1 H2) (hr : H r = none) (ho : H o = none) : Ex H H2 := fun a u q => h a u (fun m => by
  rcases List.mem_cons.mp m with z | z
  · rw [z, hr] at q; cases q
  · rw [List.mem_singleton.mp z, ho] at q; cases q) (e a u q)
theorem isN_int {K : PySem.W.Frag} {n : Int} : ∀ H1 v, At K X H1 v (.int n) → decide (v = .non) = false := fun H1 v a => by rw [at_int_inv a]; rfl
include G in
theorem u_settled_formula : ∀ vs H Q E, sp_settled_formula g vs H Q E → t_settled_formula g (EQ Q) (start ["text", "free", "reader"] vs) H := fun vs H Q E ⟨X, t, f, free, e, dm, ot, lt, hf, q⟩ => by
  subst e
  obtain ⟨ha, fl, fn, fd⟩ := hf
  refine q_asgR ⟨_, rfl, _, rfl, fun r dx hr hd hdr => ?_⟩
  have em : Ex H (upd (upd H dx (.own r)) r (.ins g.Reader dx [])) := ex_made hr hd fun _ _ => rfl
  have dmm : Dom (r :: X) (upd (upd H dx (.own r)) r (.ins g.Reader dx [])) := dm.more em (by rw [upd_same]; simp)
  refine ⟨r :: X, r, dx, t, f, free, rfl, List.mem_cons_self, dmm, upd_same, ot, lt, ha.imp (fun a => (a.more hr).ex em) (fun a => (a.more hr).ex em), fl, fun x hx => (fn x hx).len, fun H1 o p1 ho hR => ⟨rfl, ?_⟩⟩
  have ho0 : H o = none := fresh_back em ho
  have e1 : Ex H H1 := ex_pr em p1 hr
  have hRX : ∀ a ∈ X, a ∈ o :: r :: X := fun a m => List.mem_cons_of_mem _ (List.mem_cons_of_mem _ m)
  refine q_loop (fun m σ' H' => ∃ c k wn, σ' = [some (.str (S t)), some f, some (.ref r)] ∧ Ex H H' ∧ RAt g (o :: r :: X) H' r o t c k .non wn ∧ ((wn = wT c.w ∧ wT c.w ≠ [] ∧ pz t c k = settle t free ∧ m = mu c k + 1) ∨ (wn = nNothing ∧ settle t free = .read c.value ∧ m = 0))) _ ⟨start free, tokenAt t 0, nUnit, rfl, e1, hR, .inl ⟨rfl, by show nUnit ≠ []; decide, (settle_pz t free).symm, rfl⟩⟩ fun m σ' H2 ⟨c, k, wn, hσ, e2, h2, hc⟩ => ?_
  subst hσ
  have okw : ok (S wn) := by
    rcases hc with ⟨e, hne, _, _⟩ | ⟨e, _, _⟩
    · subst e
      revert hne
      cases c.w <;> intro hne <;> first | exact absurd rfl hne | decide +kernel
    · subst e; decide +kernel
  refine ⟨!decide (wn = nNothing), et_test (ev_op (ev_fld rfl (f_wanted G h2 okw)) (evs (t := nNothing)) rd_nes), fun hb H3 e3 => ?_, fun hb H3 e3 => ?_⟩
  · have hb : wn ≠ nNothing := by simpa using hb
    rcases hc with ⟨hw, hne, hpz, hm⟩ | ⟨e, _, _⟩
    · subst hw
      have h3 := h2.exx e3
      refine q_drop (c1 rfl ⟨o :: r :: X, r, o, t, c, k, rfl, h3, hne, fun H4 c' k' st' wn' p4 h4 nx => ?_⟩)
      rw [hpz] at nx
      have e4 : Ex H H4 := ex_pr2 (e2.trans e3) p4 hr ho0
      rcases nx with ⟨p, hst, hres⟩ | ⟨hst, hw', hne', hpz', hlt⟩ | ⟨hst, hw', hres⟩
      · subst hst
        refine Evl.s_when (b := true) (et_test (ev_op (ev_fld rfl (f_stopped G h4 at_int)) ev_non (rd_notN false isN_int))) (fun _ H5 e5 => ?_) (fun h => by cases h)
        have h5 := h4.exx e5
        refine mk_un (X := o :: r :: X) (ev_fld rfl (f_stopped G h5 at_int)) (ev_op (ev_fld rfl (f_stopped G h5 at_int)) (ev_cb (ea_cons (ev_var rfl (at_str ot)) ea_nil) (rc_lenSs lt)) rd_eqNn) fun a H6 e6 ha6 ⟨dx6, v, w, g1, g2, g3⟩ => ?_
        cases at_int_inv g2
        cases at_bl_inv g3
        refine q H6 a ((e4.trans e5).trans e6) (fresh_back (e4.trans e5) ha6) ?_
        rw [hres]
        exact ⟨dx6, g1⟩
      · subst hst
        refine Evl.s_when (b := false) (et_test (ev_op (ev_fld rfl (f_stopped G h4 at_non)) ev_non (rd_notN true fun H1 v a => by rw [at_non_inv a]; rfl))) (fun h => by cases h) fun _ H5 e5 => ⟨mu c' k' + 1, by omega, c', k', wn', rfl, e4.trans e5, h4.exx e5, .inl ⟨hw', hne', hpz', rfl⟩⟩
      · subst hst
        refine Evl.s_when (b := false) (et_test (ev_op (ev_fld rfl (f_stopped G h4 at_non)) ev_non (rd_notN true fun H1 v a => by rw [at_non_inv a]; rfl))) (fun h => by cases h) fun _ H5 e5 => ⟨0, by omega, c', k', wn', rfl, e4.trans e5, h4.exx e5, .inr ⟨hw', hres, rfl⟩⟩
    · exact absurd e hb
  · have hb : wn = nNothing := by simpa using hb
    rcases hc with ⟨hw, hne, hpz, hm⟩ | ⟨_, hres, _⟩
    · exfalso
      rw [hb] at hw
      exact wT_ne c.w hw.symm
    · have h3 := h2.exx e3
      refine mk_rd (X := o :: r :: X) (ev_fld rfl (f_value G h3)) fun a H4 e4 ha4 ⟨dx4, v, g1, g2⟩ => ?_
      refine q H4 a ((e2.trans e3).trans e4) (fresh_back (e2.trans e3) ha4) ?_
      rw [hres]
      exact ⟨dx4, v, g1, g2.less hRX⟩
theorem u_settle_formula : ∀ vs H Q E, sp_settle_formula g vs H Q E → t_settle_formula g (EQ Q) (start ["text", "free"] vs) H := fun vs H Q E ⟨X, t, f, free, e, dm, ot, lt, hf, q⟩ => by
  subst e
  refine q_drop ⟨_, rfl, _, rfl, X, t, f, free, rfl, dm, ot, hf, fun H1 e1 => ?_⟩
  exact ⟨_, rfl, _, rfl, X, t, f, free, rfl, dm.pr e1, ot, lt, hf.ex e1, fun H2 a e2 ha hr => q H2 a (e1.trans e2) (fresh_back e1 ha) hr⟩
theorem u_settle_text : ∀ vs H Q E, sp_settle_text g vs H Q E → t_settle_text g (EQ Q) (start ["text"] vs) H := fun vs H Q E ⟨X, t, e, dm, ot, lt, q⟩ => by
  subst e
  have fr : ∀ (H' : Hp) (p : Addr), Ex H H' → H' p = none → FreeAt g X (upd H' p (.tup [])) (.ref p) [] := fun H' p e hp => ⟨.inr (at_tup (fun m => (dm.pr e) p m hp) upd_same .nil), by simp, by simp, by simp⟩
  refine q_drop ⟨_, rfl, by decide, fun p hp => ?_⟩
  refine ⟨X, t, .ref p, [], rfl, dm.pr (Ex.new hp), ot, fr H p (Ex.refl _) hp, fun H1 e1 => ?_⟩
  have e01 : Ex H H1 := (Ex.new hp).trans e1
  refine ⟨_, rfl, by decide, fun p2 hp2 => ?_⟩
  have e02 := e01.trans (Ex.new (o := .tup []) hp2)
  exact ⟨X, t, .ref p2, [], rfl, dm.pr e02, ot, lt, fr H1 p2 e01 hp2, fun H2 a e2 ha hr => q H2 a (e02.trans e2) (fresh_back e02 ha) hr⟩
end
end Dy
namespace Dy
open PySem L2 Evl Mi
theorem depth_pair (h : T) (d : PyData) : (pair h d).depth = d.depth + 1 := by
  show max 0 (max d.depth 0) + 1 = _
  omega
theorem depth_trip (h : T) (d e : PyData) : (trip h d e).depth = max d.depth e.depth + 1 := by
  show max 0 (max d.depth (max e.depth 0)) + 1 = _
  omega
theorem term_depth {d : PyData} (h : TermD d) : d.depth ≤ nd d := by
  induction h with
  | num h => rw [depth_pair, nd_pair]; show 0 + 1 ≤ 1 + 0; omega
  | var h => rw [depth_pair, nd_pair]; show 0 + 1 ≤ 1 + 0; omega
  | neg h ih => rw [depth_pair, nd_pair]; omega
  | bin h a b iha ihb => rw [depth_trip, nd_trip]; omega
  | pow a h ih => rw [depth_trip, nd_trip]; show max _ 0 + 1 ≤ _; omega
theorem say_depth {d : PyData} (h : SayD d) : d.depth ≤ nd d := by
  induction h with
  | rel h a b =>
    have := term_depth a
    have := term_depth b
    rw [depth_trip, nd_trip]; omega
  | not h ih => rw [depth_pair, nd_pair]; omega
  | bin h a b iha ihb => rw [depth_trip, nd_trip]; omega
  | quant h hx a ih => rw [depth_trip, nd_trip]; show max 0 _ + 1 ≤ _; omega
section
variable {g : G8} (G : Gf g) {X : List Addr} {H H' H1 : Hp} {σ : L2.St} {Q : VK} {i : Nat}
include G in
theorem u_reading_fault : ∀ vs H Q E, sp_reading_fault g vs H Q E → t_reading_fault g (EQ Q) (start ["text", "free", "answer", "due"] vs) H := fun vs H Q E ⟨X, t, f, free, v, A, z, e, dm, ot, lt, hf, hA, hflt, q⟩ => by
  subst e
  refine q_drop ⟨_, rfl, _, rfl, X, t, f, free, rfl, dm, ot, hf, fun H1 e1 => ?_⟩
  refine q_asgR ⟨_, rfl, _, rfl, X, t, f, free, rfl, dm.pr e1, ot, lt, hf.ex e1, fun H2 b e2 hb hres => ?_⟩
  have e12 := e1.trans e2
  have dm2 := dm.pr e12
  revert hflt hres
  generalize settle t free = R
  intro hflt hres
  cases hflt with
  | @rdU p d =>
    obtain ⟨a, dx, x, rfl, ha, hax⟩ := hA
    obtain ⟨dy, hb2⟩ := hres
    refine Evl.q_if (b := true) (et_B (isi_rd G (X := X) rfl (e12 _ _ ha) G.kDD)) (fun _ H3 e3 => ?_) (fun h => by cases h)
    refine Evl.q_when (b := true) (et_B (isi_un G (X := X) rfl (e3 _ _ hb2) G.kUU)) (fun _ H4 e4 => ?_) (fun h => by cases h)
    have e24 := e3.trans e4
    exact s_ret (ev_t1 (t := [117, 110, 114, 101, 97, 100]) (dm2.pr e24)) fun u H5 e5 au => q H5 u ((e12.trans e24).trans e5) au
  | @rdR d hs hn =>
    obtain ⟨a, dx, x, rfl, ha, hax⟩ := hA
    obtain ⟨dy, y, hb2, hby⟩ := hres
    refine Evl.q_if (b := true) (et_B (isi_rd G (X := X) rfl (e12 _ _ ha) G.kDD)) (fun _ H3 e3 => ?_) (fun h => by cases h)
    refine Evl.q_when (b := false) (et_B (isi_rd G (X := X) rfl (e3 _ _ hb2) G.kDU)) (fun h => by cases h) fun _ H4 e4 => ?_
    have e24 := e3.trans e4
    have e14 := e12.trans e24
    have dm4 := dm2.pr e24
    have ha4 := e14 _ _ ha
    have hb4 := e24 _ _ hb2
    have hax4 := hax.ex e14
    have hby4 := hby.ex e24
    have fa : Fld g.K X H4 a "tree" d := ⟨_, dx, _, _, ha4, G.cD, G.nD, rfl, hax4⟩
    have heq : EvD g.K X (tOp (rEqO g) (tVar 2) (tVar 3)) [some (.str (S t)), some f, some (.ref a), some (.ref b)] H4 (.bool true) := fun H5 e5 Q q => by
      refine ⟨_, rfl, _, rfl, .inr ⟨⟨a, b, dx, dy, _, _, rfl, rfl, e5 _ _ ha4, e5 _ _ hb4, d, ?_, ⟨dx, _, x, e5 _ _ ha4, rfl, (hax4.ex e5).less fun a m => by cases m⟩, dy, _, y, e5 _ _ hb4, rfl, (hby4.ex e5).less fun a m => by cases m⟩, fun H' e' => q _ H' e' at_bl⟩⟩
      have := say_depth hs
      omega
    exact s_ret (ev_if (b := true) (et_is (Evl.et_and (a := true) (b := true) (et_B (ev_call (ea_cons (ev_fld rfl fa) ea_nil) (spd dm4 ⟨d, hs, by omega, rfl, rfl⟩))) fun _ => et_test heq) rfl) (fun _ => ev_non) (fun h => by cases h)) fun u H5 e5 au => q H5 u (e14.trans e5) au
  | @num p i =>
    have hv : v = .int i := hA
    subst hv
    obtain ⟨dy, hb2⟩ := hres
    refine Evl.q_if (b := false) (et_B (ev_isiO (X := X) (u := .type "int") rfl (fun H' e => .base (.int i)) G.kiD)) (fun h => by cases h) fun _ H3 e3 => ?_
    refine Evl.q_when (b := true) (Evl.et_not (a := false) (et_B (ev_isiO (X := X) (u := .type "int") rfl (fun H' e => .base (.int i)) G.kiU))) (fun _ H4 e4 => ?_) (fun h => by cases h)
    have e24 := e3.trans e4
    exact s_ret (ev_t1 (t := [97, 110, 115, 119, 101, 114]) (dm2.pr e24)) fun u H5 e5 au => q H5 u ((e12.trans e24).trans e5) au
  | pl0 =>
    rename_i p e
    obtain ⟨a, dx, x, y, rfl, ha, hax, hay⟩ := hA
    obtain ⟨dy, hb2⟩ := hres
    refine Evl.q_if (b := false) (et_B (isi_un G (X := X) rfl (e12 _ _ ha) G.kUD)) (fun h => by cases h) fun _ H3 e3 => ?_
    have e13 := e12.trans e3
    refine Evl.q_when (b := false) (Evl.et_not (a := true) (et_B (isi_un G (X := X) rfl (e13 _ _ ha) G.kUU))) (fun h => by cases h) fun _ H4 e4 => ?_
    have e14 := e13.trans e4
    refine Evl.q_when (b := false) (et_B (isi_un G (X := X) rfl (e4 _ _ (e3 _ _ hb2)) G.kUD)) (fun h => by cases h) fun _ H5 e5 => ?_
    have e15 := e14.trans e5
    have dm5 := dm.pr e15
    have fa : Fld g.K X H5 a "place" .none := ⟨_, dx, _, _, e15 _ _ ha, G.cU, G.nU1, rfl, hax.ex e15⟩
    refine Evl.q_when (b := true) (et_is (Evl.et_or (a := true) (b := true) (Evl.et_not (a := false) (et_B (ev_call (ea_cons (ev_fld rfl fa) ea_nil) (spd dm5 ⟨_, rfl, .inr ⟨rfl, rfl⟩⟩)))) fun h => by cases h) rfl) (fun _ H6 e6 => ?_) (fun h => by cases h)
    exact s_ret (ev_t1 (t := nPlace) (dm5.pr e6)) fun u H7 e7 au => q H7 u ((e15.trans e6).trans e7) au
  | @plN p n e hne =>
    obtain ⟨a, dx, x, y, rfl, ha, hax, hay⟩ := hA
    obtain ⟨dy, hb2⟩ := hres
    refine Evl.q_if (b := false) (et_B (isi_un G (X := X) rfl (e12 _ _ ha) G.kUD)) (fun h => by cases h) fun _ H3 e3 => ?_
    have e13 := e12.trans e3
    refine Evl.q_when (b := false) (Evl.et_not (a := true) (et_B (isi_un G (X := X) rfl (e13 _ _ ha) G.kUU))) (fun h => by cases h) fun _ H4 e4 => ?_
    have e14 := e13.trans e4
    refine Evl.q_when (b := false) (et_B (isi_un G (X := X) rfl (e4 _ _ (e3 _ _ hb2)) G.kUD)) (fun h => by cases h) fun _ H5 e5 => ?_
    have e15 := e14.trans e5
    have dm5 := dm.pr e15
    have hb5 := e5 _ _ (e4 _ _ (e3 _ _ hb2))
    have fa : Fld g.K X H5 a "place" (.int n) := ⟨_, dx, _, _, e15 _ _ ha, G.cU, G.nU1, rfl, hax.ex e15⟩
    have fb : Fld g.K X H5 b "place" (.int (p : Nat)) := ⟨_, dy, _, _, hb5, G.cU, G.nU1, rfl, at_int⟩
    refine Evl.q_when (b := true) (et_is (Evl.et_or (a := false) (b := true) (Evl.et_not (a := true) (et_B (ev_call (ea_cons (ev_fld rfl fa) ea_nil) (spd dm5 ⟨_, rfl, .inl ⟨n, rfl, rfl⟩⟩)))) fun _ => et_test (ev_op (ev_fld rfl fa) (ev_fld rfl fb) (rd_is rd_neI (by simp [hne])))) rfl) (fun _ H6 e6 => ?_) (fun h => by cases h)
    exact s_ret (ev_t1 (t := nPlace) (dm5.pr e6)) fun u H7 e7 au => q H7 u ((e15.trans e6).trans e7) au
  | @en0 p =>
    obtain ⟨a, dx, x, y, rfl, ha, hax, hay⟩ := hA
    obtain ⟨dy, hb2⟩ := hres
    refine Evl.q_if (b := false) (et_B (isi_un G (X := X) rfl (e12 _ _ ha) G.kUD)) (fun h => by cases h) fun _ H3 e3 => ?_
    have e13 := e12.trans e3
    refine Evl.q_when (b := false) (Evl.et_not (a := true) (et_B (isi_un G (X := X) rfl (e13 _ _ ha) G.kUU))) (fun h => by cases h) fun _ H4 e4 => ?_
    have e14 := e13.trans e4
    refine Evl.q_when (b := false) (et_B (isi_un G (X := X) rfl (e4 _ _ (e3 _ _ hb2)) G.kUD)) (fun h => by cases h) fun _ H5 e5 => ?_
    have e15 := e14.trans e5
    have dm5 := dm.pr e15
    have hb5 := e5 _ _ (e4 _ _ (e3 _ _ hb2))
    have fa : Fld g.K X H5 a "place" (.int (p : Nat)) := ⟨_, dx, _, _, e15 _ _ ha, G.cU, G.nU1, rfl, hax.ex e15⟩
    have fb : Fld g.K X H5 b "place" (.int (p : Nat)) := ⟨_, dy, _, _, hb5, G.cU, G.nU1, rfl, at_int⟩
    refine Evl.q_when (b := false) (et_is (Evl.et_or (a := false) (b := false) (Evl.et_not (a := true) (et_B (ev_call (ea_cons (ev_fld rfl fa) ea_nil) (spd dm5 ⟨_, rfl, .inl ⟨_, rfl, rfl⟩⟩)))) fun _ => et_test (ev_op (ev_fld rfl fa) (ev_fld rfl fb) (rd_is rd_neI (by simp)))) rfl) (fun h => by cases h) fun _ H6 e6 => ?_
    have e16 := e15.trans e6
    have fe : Fld g.K X H6 a "is_end" .none := ⟨_, dx, _, _, e16 _ _ ha, G.cU, G.nU2, rfl, hay.ex e16⟩
    exact s_ret (ev_if (b := false) (et_is (Evl.et_and (a := false) (b := false) (et_B (ev_isi (ev_fld rfl fe) (b := false) rfl)) fun h => by cases h) rfl) (fun h => by cases h) fun _ => ev_t1 (t := nEnd) (dm5.pr e6)) fun u H7 e7 au => q H7 u (e16.trans e7) au
  | @enB p be =>
    obtain ⟨a, dx, x, y, rfl, ha, hax, hay⟩ := hA
    obtain ⟨dy, hb2⟩ := hres
    refine Evl.q_if (b := false) (et_B (isi_un G (X := X) rfl (e12 _ _ ha) G.kUD)) (fun h => by cases h) fun _ H3 e3 => ?_
    have e13 := e12.trans e3
    refine Evl.q_when (b := false) (Evl.et_not (a := true) (et_B (isi_un G (X := X) rfl (e13 _ _ ha) G.kUU))) (fun h => by cases h) fun _ H4 e4 => ?_
    have e14 := e13.trans e4
    refine Evl.q_when (b := false) (et_B (isi_un G (X := X) rfl (e4 _ _ (e3 _ _ hb2)) G.kUD)) (fun h => by cases h) fun _ H5 e5 => ?_
    have e15 := e14.trans e5
    have dm5 := dm.pr e15
    have hb5 := e5 _ _ (e4 _ _ (e3 _ _ hb2))
    have fa : Fld g.K X H5 a "place" (.int (p : Nat)) := ⟨_, dx, _, _, e15 _ _ ha, G.cU, G.nU1, rfl, hax.ex e15⟩
    have fb : Fld g.K X H5 b "place" (.int (p : Nat)) := ⟨_, dy, _, _, hb5, G.cU, G.nU1, rfl, at_int⟩
    refine Evl.q_when (b := false) (et_is (Evl.et_or (a := false) (b := false) (Evl.et_not (a := true) (et_B (ev_call (ea_cons (ev_fld rfl fa) ea_nil) (spd dm5 ⟨_, rfl, .inl ⟨_, rfl, rfl⟩⟩)))) fun _ => et_test (ev_op (ev_fld rfl fa) (ev_fld rfl fb) (rd_is rd_neI (by simp)))) rfl) (fun h => by cases h) fun _ H6 e6 => ?_
    have e16 := e15.trans e6
    have fe : Fld g.K X H6 a "is_end" (.bool be) := ⟨_, dx, _, _, e16 _ _ ha, G.cU, G.nU2, rfl, hay.ex e16⟩
    have ff : Fld g.K X H6 b "is_end" (.bool (decide (p = t.length))) := ⟨_, dy, _, _, e6 _ _ hb5, G.cU, G.nU2, rfl, at_bl⟩
    refine s_ret (ev_if (b := be == decide (p = t.length)) (et_is (Evl.et_and (a := true) (et_B (ev_isi (ev_fld rfl fe) (b := true) rfl)) fun _ => et_test (ev_op (ev_fld rfl fe) (ev_fld rfl ff) (rd_eqN (Nat.zero_le _)))) rfl) (fun h => by rw [if_pos (by simpa using h)]; exact ev_non) fun h => by rw [if_neg (by simpa using h)]; exact ev_t1 (t := nEnd) (dm5.pr e6)) fun u H7 e7 au => q H7 u (e16.trans e7) au
end
end Dy
namespace Dy
open PySem L2 Evl Mi
abbrev penL (vc : V) (a n : Nat) (d f : Int) : List (Key × V) := [(.inr "cells", vc), (.inr "at", .int (a : Nat)), (.inr "digits", .int d), (.inr "count", .int (n : Nat)), (.inr "fold", .int f)]
section
variable {g : G8} {X : List Addr} {H H' H1 : Hp} {p : Addr} {σ : L2.St} {Q : VK} {i : Nat} {D : Ends} {tz : TS} {tv tw ts th te tp : TE} {d z : PyData} {v : V} {kvs : List (Key × V)} {ky : Str}
theorem ev_dget (hs : σ[i]? = some (some (.ref p))) (h : H p = some (.dK kvs)) (hv : valV kvs (.inr ky) = some v) (a : At g.K X H v z) : EvD g.K X (tDGet (tVar i) (tC (.str ky))) σ H z := fun H1 e1 Q q =>
  ⟨_, hs, p, v, rfl, .inl ⟨kvs, .inr ky, .inl (e1 _ _ h), rfl, hv.symm⟩, q v H1 (Ex.refl _) (a.ex e1)⟩
theorem s_dput (hs : σ[i]? = some (some (.ref p))) (h : H p = some (.dK kvs)) (hl : kvs.length < 1000) (he : EvD g.K X tv σ H d) (q : ∀ v H1, Ex H H1 → At g.K X H1 v d → D.nx σ (upd H1 p (.dK (putK kvs (.inr ky) v)))) : sDPut (tVar i) (tC (.str ky)) tv D σ H := he H (Ex.refl _) _ fun v H1 e1 av =>
  ⟨_, hs, p, _, rfl, .inl ⟨kvs, .inr ky, e1 _ _ h, rfl, Nat.lt_trans hl (by decide), rfl⟩, q v H1 e1 av⟩
theorem pr_p {u : HO} : Pr [p] H (upd H p u) := pr_upd List.mem_cons_self
theorem PenAt.dq {N : Nat} (h : PenAt g X H p N) : ∃ vc, ∃ cells : List Int, ∃ a n : Nat, ∃ d f : Int, H p = some (.dK (penL vc a n d f)) ∧ At g.K X H vc (.list (cells.map .int)) ∧ 0 ≤ d ∧ n ≤ N ∧ 0 ≤ f ∧ f < 2147483647 := h.ex
theorem u_law_draw : ∀ vs H Q E, sp_law_draw g vs H Q E → t_law_draw g (EQ Q) (start ["pen", "many", "cell", "digit", "mixed"] vs) H := fun vs H Q E ⟨X, p, m, N, e, hm, hmm, hN, h, q⟩ => by
  subst e
  have px := h.px
  have dm := h.dm
  obtain ⟨vc, cells, a, n, d, f, hp, ac, hd, hn, hf, hf2⟩ := h.dq
  refine sq (s_dput (g := g) (X := X) rfl hp (by show 5 < 1000; decide) (ev_op (ev_dget (g := g) (X := X) rfl hp (v := .int (n : Nat)) rfl at_int) ev_int (rd_addN (n := 1))) fun v H1 e1 av => ?_)
  cases at_int_inv av
  have p1 : Pr [p] H (upd H1 p (.dK (penL vc a (n + 1) d f))) := (Ex.pr e1).trans pr_p
  have ac1 : At g.K X (upd H1 p (.dK (penL vc a (n + 1) d f))) vc (.list (cells.map .int)) := ac.pr (p1.lift px)
  have dm1 : Dom X (upd H1 p (.dK (penL vc a (n + 1) d f))) := (dm.pr e1).upd
  show tSeq _ _ (EQ Q) _ (upd H1 p (.dK (penL vc a (n + 1) d f)))
  generalize hB : upd H1 p (.dK (penL vc a (n + 1) d f)) = B at *
  have hBp : B p = some (.dK (penL vc a (n + 1) d f)) := by rw [← hB, upd_same]
  -- the rest, once digits and fold stand
  have rest : ∀ (x2 : Option V) (C : Hp) (a' : Nat) (d' f' : Int), Pr [p] H C → C p = some (.dK (penL vc a' (n + 1) d' f')) → At g.K X C vc (.list (cells.map .int)) → Dom X C → 0 ≤ d' → 0 ≤ f' → f' < 2147483647 →
      tSeq (tIfS (tTest (tOp rGtI (tDGet (tVar 0) (tC (.str "digits"))) (tC (.int 0)))) (tSeq (tAsg (tOp rModI (tCB rIntA (tCons (tDGet (tVar 0) (tC (.str "digits"))) tNil)) (tVar 1)) (gName 3)) (tSeq (sDPut (tVar 0) (tC (.str "digits")) (tOp rDivI (tDGet (tVar 0) (tC (.str "digits"))) (tVar 1))) (tRet (tVar 3)))) tNext) (tSeq (tAsg (tOp rAddI (tOp rAddI (tDGet (tVar 0) (tC (.str "fold"))) (tOp rMulI (tDGet (tVar 0) (tC (.str "count"))) (tC (.int 7907)))) (tC (.int 37))) (gName 4)) (tRet (tOp rModI (tOp rDivI (tCB rIntA (tCons (tOp rModI (tOp rPowI (tVar 4) (tC (.int 17))) (tC (.int 2305843009213693951))) tNil)) (tC (.int 128))) (tVar 1))))
        (EQ Q) [some (.ref p), some (.int (m : Nat)), x2, none, none] C := by
    intro x2 C a' d' f' pC hC aC dC h1 h2 h3
    refine Evl.q_when (b := decide (0 < d')) (et_test (ev_op (ev_dget (g := g) (X := X) rfl hC (v := .int d') rfl at_int) ev_int rd_gt)) (fun hb C2 e2 => ?_) (fun hb C2 e2 => ?_)
    · have hb := of_decide_eq_true hb
      have hC2 := e2 _ _ hC
      refine q_asg (ev_op (ev_cb (ea_cons (ev_dget (g := g) (X := X) rfl hC2 (v := .int d') rfl at_int) ea_nil) rc_int) (ev_var rfl at_int) (rd_mod (by omega))) fun w C3 e3 aw => ?_
      cases at_int_inv aw
      have hC3 := e3 _ _ hC2
      refine sq (s_dput (g := g) (X := X) rfl hC3 (by show 5 < 1000; decide) (ev_op (ev_dget (g := g) (X := X) rfl hC3 (v := .int d') rfl at_int) (ev_var rfl at_int) (rd_div ⟨by omega, ?_⟩)) fun w2 C4 e4 aw2 => ?_)
      · have : (m : Int).natAbs = m := by simp
        rw [this]
        have : m.log2 ≤ m := Nat.log2_le_self m
        have h2 : m < 2 ^ 20 := by omega
        have := (Nat.log2_lt (by omega : m ≠ 0)).mpr h2
        omega
      · cases at_int_inv aw2
        dsimp only
        refine s_ret (K := g.K) (X := X) (ev_var rfl at_int) fun w5 C5 e5 aw5 => ?_
        have hmod := Int.emod_nonneg d' (by omega : (m : Int) ≠ 0)
        have hlt := Int.emod_lt_of_pos d' (by omega : (0 : Int) < m)
        obtain ⟨r, hr⟩ := Int.eq_ofNat_of_zero_le hmod
        rw [hr] at aw5 hlt
        cases at_int_inv aw5
        have P5 : Pr [p] H C5 := ((pC.trans (Ex.pr ((e2.trans e3).trans e4))).trans (pr_p (u := .dK (penL vc a' (n + 1) (d' / m) f')))).trans (Ex.pr e5)
        refine q C5 r P5 (by omega) ⟨px, ((dC.pr ((e2.trans e3).trans e4)).upd).pr e5, vc, cells, a', n + 1, d' / m, f', e5 _ _ upd_same, ac.pr (P5.lift px), Int.ediv_nonneg h1 (by omega), by omega, h2, h3⟩
    · have hC2 := e2 _ _ hC
      refine q_asg (ev_op (ev_op (ev_dget (g := g) (X := X) rfl hC2 (v := .int f') rfl at_int) (ev_op (ev_dget (g := g) (X := X) rfl hC2 (v := .int ((n + 1 : Nat) : Int)) rfl at_int) ev_int (rd_mul ?_)) rd_add) ev_int rd_add) fun w C3 e3 aw => ?_
      · have : ((n + 1 : Nat) : Int).natAbs = n + 1 := by omega
        show ((n + 1 : Nat) : Int).natAbs.log2 + Nat.log2 7907 < 1000000
        rw [this]
        have : (n + 1).log2 ≤ n + 1 := Nat.log2_le_self _
        have h2 : n + 1 < 2 ^ 20 := by omega
        have := (Nat.log2_lt (by omega : n + 1 ≠ 0)).mpr h2
        have : Nat.log2 7907 ≤ 7907 := Nat.log2_le_self _
        omega
      · cases at_int_inv aw
        refine s_ret (K := g.K) (X := X) (ev_op (ev_op (ev_cb (ea_cons (ev_op (ev_op (ev_var rfl at_int) ev_int (rd_pow ⟨by decide, by decide, by omega⟩)) ev_int (rd_mod (by decide))) ea_nil) rc_int) ev_int (rd_div ⟨by decide, by decide +kernel⟩)) (ev_var rfl at_int) (rd_mod (by omega))) fun w5 C5 e5 aw5 => ?_
        revert aw5
        generalize ((f' + ((n + 1 : Nat) : Int) * 7907 + 37) ^ Int.toNat 17 % 2305843009213693951 / 128) = y
        intro aw5
        have hmod := Int.emod_nonneg y (by omega : (m : Int) ≠ 0)
        have hlt := Int.emod_lt_of_pos y (by omega : (0 : Int) < m)
        obtain ⟨r, hr⟩ := Int.eq_ofNat_of_zero_le hmod
        rw [hr] at aw5 hlt
        cases at_int_inv aw5
        have e25 := (e2.trans e3).trans e5
        exact q C5 r (pC.trans (Ex.pr e25)) (by omega) ⟨px, dC.pr e25, vc, cells, a', n + 1, d', f', e25 _ _ hC, aC.ex e25, h1, by omega, h2, h3⟩
  refine Evl.q_when (b := decide (d = 0) && decide (a < cells.length)) (Evl.et_and (et_test (ev_op (ev_dget (g := g) (X := X) rfl hBp (v := .int d) rfl at_int) ev_int rd_eqI)) fun _ => et_test (ev_op (ev_dget (g := g) (X := X) rfl hBp (v := .int (a : Nat)) rfl at_int) (ev_cb (ea_cons (ev_dget (g := g) (X := X) rfl hBp (v := vc) rfl ac1) ea_nil) rc_lenL) (rd_is rd_ltN (by rw [List.length_map])))) (fun hb C e2 => ?_) (fun hb C e2 => ?_)
  · simp only [Bool.and_eq_true, decide_eq_true_eq] at hb
    have hC := e2 _ _ hBp
    have aC := ac1.ex e2
    have dC := dm1.pr e2
    refine q_asg (ev_op (ev_dget (g := g) (X := X) rfl hC (v := vc) rfl aC) (ev_dget (g := g) (X := X) rfl hC (v := .int (a : Nat)) rfl at_int) (rd_ixL (j := a) (z := .int (cells[a]'hb.2)) (by rw [List.getElem?_map, List.getElem?_eq_getElem hb.2]; rfl))) fun w C3 e3 aw => ?_
    cases at_int_inv aw
    have hC3 := e3 _ _ hC
    have aC3 := aC.ex e3
    have dC3 := dC.pr e3
    refine sq (s_dput (g := g) (X := X) rfl hC3 (by show 5 < 1000; decide) (ev_op (ev_dget (g := g) (X := X) rfl hC3 (v := .int (a : Nat)) rfl at_int) ev_int (rd_addN (n := 1))) fun w4 C4 e4 aw4 => ?_)
    cases at_int_inv aw4
    have P4 : Pr [p] H (upd C4 p (.dK (penL vc (a + 1) (n + 1) d f))) := ((p1.trans (Ex.pr ((e2.trans e3).trans e4)))).trans pr_p
    have dm4 : Dom X (upd C4 p (.dK (penL vc (a + 1) (n + 1) d f))) := (dC3.pr e4).upd
    have key : upd C4 p (.dK (putK (penL vc a (n + 1) d f) (.inr "at") (.int ((a + 1 : Nat) : Int)))) = upd C4 p (.dK (penL vc (a + 1) (n + 1) d f)) := rfl
    rw [key]
    dsimp only
    generalize hZ : upd C4 p (.dK (penL vc (a + 1) (n + 1) d f)) = Z at *
    have hZp : Z p = some (.dK (penL vc (a + 1) (n + 1) d f)) := by rw [← hZ, upd_same]
    have aZ := ac.pr (P4.lift px)
    have ten : ∀ {σ : L2.St} {H : Hp}, EvD g.K X (tOp rPowI (tC (.int 10)) (tC (.int 18))) σ H (.int 1000000000000000000) := fun {σ H} => ev_op ev_int ev_int (rd_is (rd_pow ⟨by decide, by decide, by decide⟩) rfl)
    refine Evl.s_if (b := decide ((1000000000000000000 : Int) ≤ cells[a]'hb.2)) (et_test (ev_op (ev_var rfl at_int) ten rd_ge)) (fun hc C5 e5 => ?_) (fun hc C5 e5 => ?_)
    · have hc := of_decide_eq_true hc
      have hC5 := e5 _ _ hZp
      refine s_dput (g := g) (X := X) rfl hC5 (by show 5 < 1000; decide) (ev_op (ev_var rfl at_int) ten rd_sub) fun w6 C6 e6 aw6 => ?_
      cases at_int_inv aw6
      have P6 : Pr [p] H (upd C6 p (.dK (penL vc (a + 1) (n + 1) ((cells[a]'hb.2) - 1000000000000000000) f))) := (P4.trans (Ex.pr (e5.trans e6))).trans pr_p
      exact rest _ _ (a + 1) _ f P6 upd_same (ac.pr (P6.lift px)) ((dm4.pr (e5.trans e6)).upd) (by omega) hf hf2
    · have hC5 := e5 _ _ hZp
      refine s_dput (g := g) (X := X) rfl hC5 (by show 5 < 1000; decide) (ev_op (ev_cb (ea_cons (ev_op (ev_op (ev_dget (g := g) (X := X) rfl hC5 (v := .int f) rfl at_int) ev_int (rd_mul ?_)) (ev_var rfl at_int) rd_add) ea_nil) rc_int) ev_int (rd_mod (by decide))) fun w6 C6 e6 aw6 => ?_
      · show f.natAbs.log2 + Nat.log2 69069 < 1000000
        have hz : f.natAbs < 2 ^ 31 := by omega
        have h1 : f.natAbs.log2 < 31 := by
          by_cases hz0 : f.natAbs = 0
          · rw [hz0]; decide
          · exact (Nat.log2_lt hz0).mpr hz
        have : Nat.log2 69069 ≤ 69069 := Nat.log2_le_self _
        omega
      · cases at_int_inv aw6
        have g1 := Int.emod_nonneg (f * 69069 + cells[a]'hb.2) (by decide : (2147483587 : Int) ≠ 0)
        have g2 := Int.emod_lt_of_pos (f * 69069 + cells[a]'hb.2) (by decide : (0 : Int) < 2147483587)
        have P6 : Pr [p] H (upd C6 p (.dK (penL vc (a + 1) (n + 1) d ((f * 69069 + cells[a]'hb.2) % 2147483587)))) := (P4.trans (Ex.pr (e5.trans e6))).trans pr_p
        exact rest _ _ (a + 1) d _ P6 upd_same (ac.pr (P6.lift px)) ((dm4.pr (e5.trans e6)).upd) hd g1 (by omega)
  · exact rest none C a d f (p1.trans (Ex.pr e2)) (e2 _ _ hBp) (ac1.ex e2) (dm1.pr e2) hd hf hf2
end
end Dy
namespace Dy
open PySem L2 Evl Mi
section
variable {g : G8} {X Y : List Addr} {H H' H1 : Hp} {p l : Addr} {σ : L2.St} {Q : VK} {i : Nat} {D : Ends} {tz : TS} {tv tw ts th te tp : TE} {d z : PyData} {v : V} {N : Nat}
theorem PenAt.exx (h : PenAt g X H p N) (e : Ex H H') : PenAt g X H' p N := by
  obtain ⟨vc, cells, a, n, d, f, hp, ac, r⟩ := h.ex
  exact ⟨h.px, h.dm.pr e, vc, cells, a, n, d, f, e _ _ hp, ac.ex e, r⟩
theorem PenAt.up {M : Nat} (h : PenAt g X H p N) (hn : N ≤ M) : PenAt g X H p M := by
  obtain ⟨vc, cells, a, n, d, f, hp, ac, r1, r2, r3⟩ := h.ex
  exact ⟨h.px, h.dm, vc, cells, a, n, d, f, hp, ac, r1, Nat.le_trans r2 hn, r3⟩
theorem PenAt.more {xs : List V} (h : PenAt g X H p N) (hl : H l = none) : PenAt g (l :: X) (upd H l (.lst xs)) p N := by
  obtain ⟨vc, cells, a, n, d, f, hp, ac, r⟩ := h.ex
  exact ⟨List.mem_cons_of_mem _ h.px, h.dm.more (Ex.new hl) (by rw [upd_same]; simp), vc, cells, a, n, d, f, Ex.new hl _ _ hp, (ac.more hl).pr (pr_upd List.mem_cons_self), r⟩
theorem PenAt.less (h : PenAt g (l :: X) H p N) (hp : p ∈ X) : PenAt g X H p N := by
  obtain ⟨vc, cells, a, n, d, f, hq, ac, r⟩ := h.ex
  exact ⟨hp, fun a m => h.dm a (List.mem_cons_of_mem _ m), vc, cells, a, n, d, f, hq, ac.less fun a m => List.mem_cons_of_mem _ m, r⟩
theorem PenAt.prl (h : PenAt g Y H p N) (q : Pr [l] H H') (hl : l ∈ Y) (hpl : p ≠ l) (hd : H' l ≠ none) : PenAt g Y H' p N := by
  obtain ⟨vc, cells, a, n, d, f, hp, ac, r⟩ := h.ex
  exact ⟨h.px, h.dm.prs q (fun a m => by rw [List.mem_singleton.mp m]; exact hd), vc, cells, a, n, d, f, q _ _ (fun m => hpl (List.mem_singleton.mp m)) hp, ac.pr (q.lift hl), r⟩
theorem m_draw {m : Nat} (hs : σ[i]? = some (some (.ref p))) (h : PenAt g X H p N) (he : EvD g.K X te σ H (.int (m : Nat))) (h0 : 0 < m) (h1 : m ≤ 1000000) (hN : N < 1000000) (q : ∀ H', ∀ d : Nat, Pr [p] H H' → d < m → PenAt g X H' p (N + 1) → Q (.int (d : Nat)) H') :
    tCall (sp_law_draw g) [] E0 (tCons (tVar i) (tCons te tNil)) σ H Q := by
  refine ⟨_, hs, ?_⟩
  show te σ H _
  refine he H (Ex.refl _) _ fun v H1 e1 av => ?_
  cases at_int_inv av
  exact ⟨X, p, m, N, rfl, h0, h1, hN, h.exx e1, fun H' d p1 hd h' => q H' d ((Ex.pr e1).trans p1) hd h'⟩
theorem m_pick {ds : List PyData} (hs : σ[i]? = some (some (.ref p))) (h : PenAt g X H p N) (he : EvD g.K X te σ H (.list ds)) (h0 : ds ≠ []) (h1 : ds.length ≤ 1000) (hN : N < 1000000) (q : ∀ H' u d, Pr [p] H H' → d ∈ ds → PenAt g X H' p (N + 1) → At g.K X H' u d → Q u H') :
    tCall (sp_law_pick g) [] E0 (tCons (tVar i) (tCons te tNil)) σ H Q := by
  refine ⟨_, hs, ?_⟩
  show te σ H _
  refine he H (Ex.refl _) _ fun v H1 e1 av => ?_
  exact ⟨X, p, v, ds, N, rfl, h0, h1, hN, h.exx e1, av, fun H' u d p1 hd h' au => q H' u d ((Ex.pr e1).trans p1) hd h' au⟩
theorem u_law_pick : ∀ vs H Q E, sp_law_pick g vs H Q E → t_law_pick g (EQ Q) (start ["pen", "some"] vs) H := fun vs H Q E ⟨X, p, v, ds, N, e, h0, h1, hN, h, av, q⟩ => by
  subst e
  have hlen : 0 < ds.length := List.length_pos_iff.mpr h0
  refine ⟨_, rfl, m_draw (m := ds.length) rfl h (ev_cb (ea_cons (ev_var rfl av) ea_nil) rc_lenL) hlen (by omega) hN fun H1 d p1 hd h1' => ?_⟩
  have av1 := av.pr (p1.lift h.px)
  obtain ⟨a, vs, rfl, na, ha, a1⟩ := at_lst_inv av1
  obtain ⟨u, hu, au⟩ := a1.get (List.getElem?_eq_getElem hd)
  exact .inl ⟨a, vs, d, u, rfl, rfl, sq_of ha, atI_nat hu, q H1 u _ p1 (List.getElem_mem hd) h1' au⟩
theorem ats_ints {K : PySem.W.Frag} : ∀ {ns : List Int}, Ats K Y H (ns.map V.int) (ns.map PyData.int)
  | [] => .nil
  | n :: ns => .cons at_int (ats_ints (ns := ns))
theorem u_law_pen : ∀ vs H Q E, sp_law_pen g vs H Q E → t_law_pen g (EQ Q) (start ["script", "fold", "cell"] vs) H := fun vs H Q E ⟨X, a, cells, e, dm, hS, q⟩ => by
  subst e
  have still : ∀ {H'}, Ex H H' → SqL g.K H' a (cells.map V.int) := fun e => hS.ext e
  refine q_asg (K := g.K) (X := X) ev_int fun w H1 e1 aw => ?_
  cases at_int_inv aw
  refine ⟨_, rfl, a, rfl, ⟨_, still e1⟩, for_list (K := g.K) (a := a) (xs := cells.map V.int) (fun i σ' H' => ∃ x2, ∃ f : Int, σ' = [some (.ref a), some (.int f), x2] ∧ 0 ≤ f ∧ f < 1000000007 ∧ Ex H H') ⟨_, _, rfl, by decide, by decide, e1⟩ (fun i σ' H' _ ⟨_, _, _, _, _, hx⟩ => still hx) ?_ ?_⟩
  · rintro i y σ' H3 hi ⟨x2, f, rfl, hf, hf2, hx⟩
    rw [List.getElem?_map] at hi
    obtain ⟨c, hc, rfl⟩ := Option.map_eq_some_iff.mp hi
    refine s_asg (K := g.K) (X := X) (ev_op (ev_cb (ea_cons (ev_op (ev_op (ev_var rfl at_int) ev_int (rd_mul ?_)) (ev_var rfl at_int) rd_add) ea_nil) rc_int) ev_int (rd_mod (by decide))) fun w H4 e4 aw => ?_
    · show f.natAbs.log2 + Nat.log2 47 < 1000000
      have h1 : f.natAbs.log2 < 31 := by
        by_cases hz0 : f.natAbs = 0
        · rw [hz0]; decide
        · exact (Nat.log2_lt hz0).mpr (by omega)
      have : Nat.log2 47 ≤ 47 := Nat.log2_le_self _
      omega
    · cases at_int_inv aw
      have g1 := Int.emod_nonneg (f * 47 + c) (by decide : (1000000007 : Int) ≠ 0)
      have g2 := Int.emod_lt_of_pos (f * 47 + c) (by decide : (0 : Int) < 1000000007)
      exact ⟨_, _, rfl, g1, g2, hx.trans e4⟩
  · rintro σ' H3 ⟨x2, f, rfl, hf, hf2, hx⟩
    intro p hp
    have hp0 : H p = none := fresh_back hx hp
    have dm3 : Dom (p :: X) (upd H3 p (.dK [])) := (dm.pr hx).more (Ex.new hp) (by rw [upd_same]; simp)
    show (tCB (rListA g.K) (tCons (tVar 0) tNil)) _ (upd H3 p (.dK [])) _
    refine ⟨_, rfl, a, _, rfl, .inl ((still hx).ext (Ex.new hp)), fun l hl => ?_⟩
    have e4 : Ex (upd H3 p (.dK [])) (upd (upd H3 p (.dK [])) l (.lst (cells.map V.int))) := Ex.new hl
    have aw : At g.K (p :: X) (upd (upd H3 p (.dK [])) l (.lst (cells.map V.int))) (.ref l) (.list (cells.map .int)) := at_lst (fun m => dm3 l m hl) upd_same ats_ints
    refine ⟨_, rfl, e4 _ _ upd_same, penL (.ref l) 0 0 0 f, rfl, by show 5 ≤ 15; decide, ?_⟩
    have hx4 := (hx.trans (Ex.new hp)).trans e4
    refine q _ p (ex_pr hx4 pr_p hp0) hp0 ⟨List.mem_cons_self, (dm3.pr e4).upd, .ref l, cells, 0, 0, 0, f, upd_same, aw.pr (pr_upd List.mem_cons_self), by decide, Nat.le_refl _, hf, by omega⟩
/-! the stack of a drawn tree -/
theorem l_app {ds : List PyData} (h : LAt g.K Y H l ds) (hn : ds.length ≤ 100000) (av : At g.K Y H v d) (k : ∀ H', Pr [l] H H' → LAt g.K Y H' l (ds ++ [d]) → Q .non H') : rAppend (.ref l) [v] H Q := by
  obtain ⟨h1, vs, h2, h3⟩ := h
  refine ⟨l, vs, v, rfl, rfl, h2, ?_, k _ pr1 (LAt.upd h1 (h3.app (.cons av .nil)))⟩
  rw [h3.len]; exact Nat.lt_of_le_of_lt hn (by decide)
theorem t_app (hs : σ[i]? = some (some (.ref l))) {ds : List PyData} (h : LAt g.K Y H l ds) (k : te σ H fun v H1 => rAppend (.ref l) [v] H1 Q) : tBM g.K "list" rAppend (tVar i) (tCons te tNil) σ H Q := by
  obtain ⟨h1, vs, h2, h3⟩ := h
  exact ⟨_, hs, .inl ⟨rfl, vs, sq_of h2⟩, k⟩
theorem szs_app : ∀ as bs : List Tm, szs (as ++ bs) = szs as + szs bs
  | [], bs => by rw [List.nil_append]; show _ = 0 + _; omega
  | a :: as, bs => by
    show a.sz + szs (as ++ bs) = a.sz + szs as + szs bs
    rw [szs_app as]; omega
theorem szs_len : ∀ as : List Tm, as.length ≤ szs as
  | [] => Nat.le_refl _
  | a :: as => by
    have := a.sz_pos
    have := szs_len as
    show as.length + 1 ≤ a.sz + szs as
    omega
theorem NmAt.ex {ns : List T} (h : NmAt g X H v ns) (e : Ex H H') : NmAt g X H' v ns := ⟨h.at_.ex e, h.ne, h.len, h.ok⟩
theorem NmAt.pr {ns : List T} (h : NmAt g X H v ns) (e : Pr X H H') : NmAt g X H' v ns := ⟨h.at_.pr e, h.ne, h.len, h.ok⟩
theorem eqv_nil {ds : List PyData} : PyData.eqv (.list ds) (.list []) = decide (ds = []) := by
  cases ds with
  | nil => rfl
  | cons d ds => rfl
theorem rd_neNil {K : PySem.W.Frag} {ds : List PyData} : RD K X (rNeN K 200) (.list ds) (.list []) H (.bool (!decide (ds = []))) := rd_is (rd_neN (Nat.le_trans (Nat.min_le_right _ _) (by show 0 + 1 ≤ 200; decide))) (by rw [eqv_nil])
theorem rd_eqNil {K : PySem.W.Frag} {ds : List PyData} : RD K X (rEqN K 200) (.list ds) (.list []) H (.bool (decide (ds = []))) := rd_is (rd_eqN (Nat.le_trans (Nat.min_le_right _ _) (by show 0 + 1 ≤ 200; decide))) (by rw [eqv_nil])
end
end Dy
namespace Dy
open PySem L2 Evl Mi
section
variable {g : G8} {X Y : List Addr} {H H' H1 A : Hp} {p l q : Addr} {σ : L2.St} {Q : VK} {i : Nat} {D : Ends} {tz : TS} {tv tw ts th te tp : TE} {d z : PyData} {v : V} {N n : Nat} {ds : List PyData}
theorem push_tup {vs : List V} {ds0 : List PyData} (hp : PenAt g Y A p n) (hl : LAt g.K Y A l ds) (hpl : p ≠ l) (hn : ds.length ≤ 100000) (hv : Ats g.K Y A vs ds0) (hq : A q = none) (k : ∀ C, Pr [l] A C → PenAt g Y C p n → LAt g.K Y C l (ds ++ [.tuple ds0]) → Q .non C) : rAppend (.ref l) [.ref q] (upd A q (.tup vs)) Q :=
  l_app (hl.ex (Ex.new hq)) hn (at_tupN hp.dm hq hv) fun C p1 h1 => k C ((Ex.pr (Ex.new hq)).trans p1) ((hp.exx (Ex.new hq)).prl p1 hl.1 hpl h1.dom) h1
theorem LAt.prp {ds : List PyData} (h : LAt g.K Y H l ds) (q : Pr [p] H H') (hp : p ∈ Y) (hpl : p ≠ l) : LAt g.K Y H' l ds := h.pr q (s1 hp) fun m => hpl (List.mem_singleton.mp m).symm
theorem NmAt.prl {ns : List T} (h : NmAt g Y H v ns) (q : Pr [l] H H') (hl : l ∈ Y) : NmAt g Y H' v ns := h.pr (q.lift hl)
theorem map_ne {as : List Tm} (h : as ≠ []) : ∃ bs a, as = bs ++ [a] := by
  rcases List.eq_nil_or_concat as with e | ⟨bs, a, e⟩
  · exact absurd e h
  · exact ⟨bs, a, by rw [e, List.concat_eq_append]⟩
theorem draw_if {m : Nat} {te1 te2 : TE} {tt : TT} {b : Bool} (ht : EvT tt σ H b) (h1 : b = true → ∀ H1, Ex H H1 → te1 σ H1 Q) (h2 : b = false → ∀ H1, Ex H H1 → te2 σ H1 Q) : tIf tt te1 te2 σ H Q := ht H (Ex.refl _) _ fun H1 e1 => by
  cases b with
  | true => exact h1 rfl H1 e1
  | false => exact h2 rfl H1 e1
theorem u_law_s_term : ∀ vs H Q E, sp_law_s_term g vs H Q E → t_law_s_term g (EQ Q) (start ["pen", "names", "size", "some", "lap", "head", "other"] vs) H := fun vs H Q E ⟨X, p, nv, ns, sz, N, e, hn, hs1, hs4, hN, h, q⟩ => by
  subst e
  refine q_asgR ⟨by decide, fun l hl => ?_⟩
  have hlX : l ∉ X := fun m => h.dm l m hl
  have hpl : p ≠ l := fun z => hlX (by rw [← z]; exact h.px)
  have hp1 := h.more (xs := []) hl
  have hn1 : NmAt g (l :: X) (upd H l (.lst [])) nv ns := ⟨(hn.at_.more hl).pr (pr_upd List.mem_cons_self), hn.ne, hn.len, hn.ok⟩
  have hl1 : LAt g.K (l :: X) (upd H l (.lst [])) l (([] : List Tm).map Tm.data) := LAt.new .nil hl
  have hlY : l ∈ l :: X := List.mem_cons_self
  have hpY : p ∈ l :: X := List.mem_cons_of_mem _ h.px
  refine q_for (X := l :: X) (ei_rng (K := g.K) (n := sz) (by omega) (ev_var rfl at_int)) (fun i σ' H' => ∃ x4 x5 x6 as, σ' = [some (.ref p), some nv, some (.int (sz : Nat)), some (.ref l), x4, x5, x6] ∧ Pr [p] H H' ∧ PenAt g (l :: X) H' p (N + 3 * i) ∧ LAt g.K (l :: X) H' l (as.map Tm.data) ∧ (∀ a ∈ as, a.Wf ∧ ∀ x ∈ a.vars, x ∈ ns) ∧ szs as ≤ i ∧ (0 < i → as ≠ []) ∧ NmAt g (l :: X) H' nv ns)
    (fun H2 e2 => ⟨none, none, none, [], rfl, (Ex.pr (Ex.new hl)).trans (Ex.pr e2), hp1.exx e2, hl1.ex e2, by simp, Nat.le_refl _, fun h => absurd h (by omega), hn1.ex e2⟩) (fun H2 i d u σ' H3 e2 p3 hd ad ⟨x4, x5, x6, as, hσ, P3, hp3, hl3, hw, hz, hne, hn3⟩ => ?_) (fun H2 σ' H3 e2 p3 ⟨x4, x5, x6, as, hσ, P3, hp3, hl3, hw, hz, hne, hn3⟩ => ?_)
  · subst hσ
    have hi : i < sz := by
      have := (List.getElem?_eq_some_iff.mp hd).1
      rw [List.length_map, List.length_range] at this
      exact this
    -- when one more stands on the stack
    have fin : ∀ (C : Hp) (y4 y5 y6 : Option V) (as' : List Tm) (n : Nat), Pr (l :: X) H2 C → Pr [p] H C → PenAt g (l :: X) C p n → n ≤ N + 3 * (i + 1) → LAt g.K (l :: X) C l (as'.map Tm.data) → (∀ a ∈ as', a.Wf ∧ ∀ x ∈ a.vars, x ∈ ns) → szs as' ≤ i + 1 → as' ≠ [] → NmAt g (l :: X) C nv ns →
        Pr (l :: X) H2 C ∧ ∃ x4 x5 x6 as, [some (.ref p), some nv, some (.int (sz : Nat)), some (.ref l), y4, y5, y6] = [some (.ref p), some nv, some (.int (sz : Nat)), some (.ref l), x4, x5, x6] ∧ Pr [p] H C ∧ PenAt g (l :: X) C p (N + 3 * (i + 1)) ∧ LAt g.K (l :: X) C l (as.map Tm.data) ∧ (∀ a ∈ as, a.Wf ∧ ∀ x ∈ a.vars, x ∈ ns) ∧ szs as ≤ i + 1 ∧ (0 < i + 1 → as ≠ []) ∧ NmAt g (l :: X) C nv ns :=
      fun C y4 y5 y6 as' n a1 a2 a3 a4 a5 a6 a7 a8 a9 => ⟨a1, y4, y5, y6, as', rfl, a2, a3.up a4, a5, a6, a7, fun _ => a8, a9⟩
    have hal : (as.map Tm.data).length ≤ 100000 := by
      have := szs_len as
      rw [List.length_map]; omega
    -- a head is drawn
    have body : ∀ (C : Hp) (k : Nat), Pr [p] H3 C → PenAt g (l :: X) C p (N + 3 * i + 1) → k < 7 → (1 < k → 1 < as.length) →
        (tIfS (tAnd (tTest (tOp rEq (tVar 5) (tC (.int 0)))) (tTest (tOp (rNeN g.K 200) (tVar 1) (tLst tNil)))) (tDrop (tBM g.K "list" rAppend (tVar 3) (tCons (tTup (tCons (tC (.str "letter")) (tCons (tCall (sp_law_pick g) [] E0 (tCons (tVar 0) (tCons (tVar 1) tNil))) tNil))) tNil))) (tIfS (tTest (tOp rLtI (tVar 5) (tC (.int 2)))) (tDrop (tBM g.K "list" rAppend (tVar 3) (tCons (tTup (tCons (tC (.str "number")) (tCons (tCall (sp_law_pick g) [] E0 (tCons (tVar 0) (tCons (tLst (tCons (tC (.int 0)) (tCons (tC (.int 1)) (tCons (tC (.int 2)) (tCons (tC (.int 3)) (tCons (tC (.int 7)) tNil)))))) tNil))) tNil))) tNil))) (tIfS (tTest (tOp rEq (tVar 5) (tC (.int 2)))) (tDrop (tBM g.K "list" rAppend (tVar 3) (tCons (tTup (tCons (tC (.str "negative")) (tCons (tBM0 g.K "list" rPop (tVar 3)) tNil))) tNil))) (tIfS (tTest (tOp rEq (tVar 5) (tC (.int 3)))) (tDrop (tBM g.K "list" rAppend (tVar 3) (tCons (tTup (tCons (tC (.str "power")) (tCons (tBM0 g.K "list" rPop (tVar 3)) (tCons (tCall (sp_law_draw g) [] E0 (tCons (tVar 0) (tCons (tC (.int 4)) tNil))) tNil)))) tNil))) (tSeq (tAsg (tBM0 g.K "list" rPop (tVar 3)) (gName 6)) (tDrop (tBM g.K "list" rAppend (tVar 3) (tCons (tTup (tCons (tOp (rIx g.K) (tLst (tCons (tC (.str "plus")) (tCons (tC (.str "minus")) (tCons (tC (.str "times")) tNil)))) (tOp rSubI (tVar 5) (tC (.int 4)))) (tCons (tBM0 g.K "list" rPop (tVar 3)) (tCons (tVar 6) tNil)))) tNil))))))))
          { nx := fun σ3 C => Pr (l :: X) H2 C ∧ ∃ x4 x5 x6 as, σ3 = [some (.ref p), some nv, some (.int (sz : Nat)), some (.ref l), x4, x5, x6] ∧ Pr [p] H C ∧ PenAt g (l :: X) C p (N + 3 * (i + 1)) ∧ LAt g.K (l :: X) C l (as.map Tm.data) ∧ (∀ a ∈ as, a.Wf ∧ ∀ x ∈ a.vars, x ∈ ns) ∧ szs as ≤ i + 1 ∧ (0 < i + 1 → as ≠ []) ∧ NmAt g (l :: X) C nv ns, rt := Q,
            ct := fun σ3 C => Pr (l :: X) H2 C ∧ ∃ x4 x5 x6 as, σ3 = [some (.ref p), some nv, some (.int (sz : Nat)), some (.ref l), x4, x5, x6] ∧ Pr [p] H C ∧ PenAt g (l :: X) C p (N + 3 * (i + 1)) ∧ LAt g.K (l :: X) C l (as.map Tm.data) ∧ (∀ a ∈ as, a.Wf ∧ ∀ x ∈ a.vars, x ∈ ns) ∧ szs as ≤ i + 1 ∧ (0 < i + 1 → as ≠ []) ∧ NmAt g (l :: X) C nv ns, bk := tRet (tOp (rIx g.K) (tVar 3) (tUn (rU fun i => .int (-i)) (tC (.int 1)))) (EQ Q) }
          [some (.ref p), some nv, some (.int (sz : Nat)), some (.ref l), some u, some (.int (k : Nat)), x6] C := by
      intro C k pC hpC hk hk2
      have hlC := hl3.prp pC hpY hpl
      have hnC := hn3.pr (pC.lift hpY)
      have PC : Pr [p] H C := P3.trans pC
      have PYC : Pr (l :: X) H2 C := p3.trans (pC.lift hpY)
      -- Pr grows along what is drawn and put
      have grow : ∀ {C1 C2 C3 : Hp}, Pr [p] C C1 → Pr [l] C1 C2 → (Pr [p] H C2 ∧ Pr (l :: X) H2 C2) := fun a b => ⟨pr_fresh (PC.trans a) b hl, (PYC.trans (a.lift hpY)).trans (b.lift hlY)⟩
      refine Evl.s_if (b := decide (k = 0) && true) (Evl.et_and (et_test (ev_op (K := g.K) (X := l :: X) (ev_var rfl at_int) ev_int (rd_eqNn (n := 0)))) fun _ => et_test (ev_op (ev_var rfl hnC.at_) (ev_lst hpC.dm ea_nil (by simp)) (rd_is rd_neNil (by simp [hn.ne])))) (fun hb C1 e1 => ?_) (fun hb C1 e1 => ?_)
      · refine t_app rfl (hlC.ex e1) ?_
        show tCall (sp_law_pick g) [] E0 _ _ C1 _
        refine m_pick rfl (hpC.exx e1) (ev_var rfl (hnC.ex e1).at_) (by simpa using hn.ne) (by rw [List.length_map]; have := hn.len; omega) (by omega) fun C2 u2 d2 p2 hm hp2 au2 => ⟨by show 2 ≤ sizeLine; decide, fun q2 hq2 => ?_⟩
        obtain ⟨x, hx, rfl⟩ := List.mem_map.mp hm
        refine push_tup hp2 ((hlC.ex e1).prp p2 hpY hpl) hpl hal (.cons (at_str (by decide +kernel)) (.cons au2 .nil)) hq2 fun C3 p3' hp3' hl3' => ?_
        obtain ⟨g1, g2⟩ := grow (C3 := C3) ((Ex.pr e1).trans p2) p3'
        refine fin C3 _ _ _ (as ++ [.var x]) _ g2 g1 hp3' (by omega) (by rw [List.map_append]; exact hl3') (fun a ha => ?_) (by rw [szs_app]; show _ + (1 + 0) ≤ _; omega) (by simp) (((hnC.ex e1).pr (p2.lift hpY)).prl p3' hlY)
        rcases List.mem_append.mp ha with ha | ha
        · exact hw a ha
        · rw [List.mem_singleton.mp ha]
          exact ⟨hn.ok x hx, fun y hy => by rw [List.mem_singleton.mp hy]; exact hx⟩
      · have hpC1 := hpC.exx e1
        have hlC1 := hlC.ex e1
        have hnC1 := hnC.ex e1
        refine Evl.s_if (b := decide (k < 2)) (et_test (ev_op (K := g.K) (X := l :: X) (ev_var rfl at_int) ev_int (rd_ltN (n := 2)))) (fun hb C2 e2' => ?_) (fun hb C2 e2' => ?_)
        · refine t_app rfl (hlC1.ex e2') ?_
          show tCall (sp_law_pick g) [] E0 _ _ C2 _
          refine m_pick (ds := [0, 1, 2, 3, 7].map fun n : Nat => .int n) rfl (hpC1.exx e2') (ev_lst (hpC1.dm.pr e2') (ea_cons ev_int (ea_cons ev_int (ea_cons ev_int (ea_cons ev_int (ea_cons ev_int ea_nil))))) (by simp)) (by simp) (by simp) (by omega) fun C3 u2 d2 p2 hm hp2 au2 => ⟨by show 2 ≤ sizeLine; decide, fun q2 hq2 => ?_⟩
          obtain ⟨x, hx, rfl⟩ := List.mem_map.mp hm
          have hx9 : x ≤ 9 := (by decide : ∀ x ∈ [0, 1, 2, 3, 7], x ≤ 9) x hx
          refine push_tup hp2 ((hlC1.ex e2').prp p2 hpY hpl) hpl hal (.cons (at_str (by decide +kernel)) (.cons au2 .nil)) hq2 fun C4 p3' hp3' hl3' => ?_
          obtain ⟨g1, g2⟩ := grow (C3 := C4) (((Ex.pr e1).trans (Ex.pr e2')).trans p2) p3'
          refine fin C4 _ _ _ (as ++ [.num x]) _ g2 g1 hp3' (by omega) (by rw [List.map_append]; exact hl3') (fun a ha => ?_) (by rw [szs_app]; show _ + (1 + 0) ≤ _; omega) (by simp) (((hnC1.ex e2').pr (p2.lift hpY)).prl p3' hlY)
          rcases List.mem_append.mp ha with ha | ha
          · exact hw a ha
          · rw [List.mem_singleton.mp ha]
            exact ⟨hx9, fun y hy => by cases hy⟩
        · have hb := of_decide_eq_false hb
          have hlen : 1 < as.length := hk2 (by omega)
          obtain ⟨bs, b, hasb⟩ := map_ne (as := as) (fun z => by rw [z] at hlen; simp at hlen)
          have hpC2 := hpC1.exx e2'
          have hlC2 := hlC1.ex e2'
          have hnC2 := hnC1.ex e2'
          have hzs : szs bs + b.sz ≤ i := by
            rw [hasb, szs_app] at hz
            have : szs [b] = b.sz := rfl
            omega
          have hwb := hw b (by rw [hasb]; simp)
          have hwbs : ∀ a ∈ bs, a.Wf ∧ ∀ x ∈ a.vars, x ∈ ns := fun a ha => hw a (by rw [hasb]; simp [ha])
          have hbl : (bs.map Tm.data).length ≤ 100000 := by
            rw [hasb] at hal
            simp at hal ⊢; omega
          rw [hasb, List.map_append] at hlC2
          have hlC2 : LAt g.K (l :: X) C2 l (bs.map Tm.data ++ [b.data]) := hlC2
          refine Evl.s_if (b := decide (k = 2)) (et_test (ev_op (K := g.K) (X := l :: X) (ev_var rfl at_int) ev_int (rd_eqNn (n := 2)))) (fun hb2 C3 e3 => ?_) (fun hb2 C3 e3 => ?_)
          · refine t_app rfl (hlC2.ex e3) ?_
            show tBM0 g.K "list" rPop (tVar 3) _ C3 _
            refine r_pop rfl (hlC2.ex e3) fun v4 C4 p4 hl4 av4 => ⟨by show 2 ≤ sizeLine; decide, fun q2 hq2 => ?_⟩
            have hp4 := (hpC2.exx e3).prl p4 hlY hpl hl4.dom
            refine push_tup hp4 hl4 hpl hbl (.cons (at_str (by decide +kernel)) (.cons av4 .nil)) hq2 fun C5 p5 hp5 hl5 => ?_
            obtain ⟨g1, g2⟩ := grow (C3 := C5) (((Ex.pr e1).trans (Ex.pr e2')).trans (Ex.pr e3)) (p4.trans p5)
            refine fin C5 _ _ _ (bs ++ [.neg b]) _ g2 g1 hp5 (by omega) (by rw [List.map_append]; exact hl5) (fun a ha => ?_) (by rw [szs_app]; show _ + (b.sz + 1 + 0) ≤ _; omega) (by simp) (((hnC2.ex e3).prl p4 hlY).prl p5 hlY)
            rcases List.mem_append.mp ha with ha | ha
            · exact hwbs a ha
            · rw [List.mem_singleton.mp ha]; exact hwb
          · refine Evl.s_if (b := decide (k = 3)) (et_test (ev_op (K := g.K) (X := l :: X) (ev_var rfl at_int) ev_int (rd_eqNn (n := 3)))) (fun hb3 C4 e4 => ?_) (fun hb3 C4 e4 => ?_)
            · have e34 := e3.trans e4
              refine t_app rfl (hlC2.ex e34) ?_
              show tBM0 g.K "list" rPop (tVar 3) _ C4 _
              refine r_pop rfl (hlC2.ex e34) fun v5 C5 p5 hl5 av5 => ?_
              have hp5 := (hpC2.exx e34).prl p5 hlY hpl hl5.dom
              show tCall (sp_law_draw g) [] E0 _ _ C5 _
              refine m_draw (m := 4) rfl hp5 ev_int (by omega) (by omega) (by omega) fun C6 d6 p6 hd6 hp6 => ⟨by show 3 ≤ sizeLine; decide, fun q2 hq2 => ?_⟩
              have hl6 := hl5.prp p6 hpY hpl
              refine push_tup hp6 hl6 hpl hbl (.cons (at_str (by decide +kernel)) (.cons (av5.pr (p6.lift hpY)) (.cons at_int .nil))) hq2 fun C7 p7 hp7 hl7 => ?_
              have P5 : Pr [p] H C5 := pr_fresh (PC.trans (Ex.pr ((e1.trans e2').trans e34))) p5 hl
              have P7 : Pr [p] H C7 := pr_fresh (P5.trans p6) p7 hl
              have Y7 : Pr (l :: X) H2 C7 := (((PYC.trans (Ex.pr ((e1.trans e2').trans e34))).trans (p5.lift hlY)).trans (p6.lift hpY)).trans (p7.lift hlY)
              refine fin C7 _ _ _ (bs ++ [.pow b d6]) _ Y7 P7 hp7 (by omega) (by rw [List.map_append]; exact hl7) (fun a ha => ?_) (by rw [szs_app]; show _ + (b.sz + 1 + 0) ≤ _; omega) (by simp) ((((hnC2.ex e34).prl p5 hlY).pr (p6.lift hpY)).prl p7 hlY)
              rcases List.mem_append.mp ha with ha | ha
              · exact hwbs a ha
              · rw [List.mem_singleton.mp ha]; exact ⟨⟨hwb.1, by omega⟩, hwb.2⟩
            · have hb2 := of_decide_eq_false hb2
              have hb3 := of_decide_eq_false hb3
              have e34 := e3.trans e4
              obtain ⟨cs, c, hbc⟩ := map_ne (as := bs) (fun z => by rw [hasb, z] at hlen; simp at hlen)
              refine q_asgR (r_pop rfl (hlC2.ex e34) fun v5 C5 p5 hl5 av5 => ?_)
              have hp5 := (hpC2.exx e34).prl p5 hlY hpl hl5.dom
              rw [hbc, List.map_append] at hl5
              have hl5 : LAt g.K (l :: X) C5 l (cs.map Tm.data ++ [c.data]) := hl5
              refine t_app rfl hl5 ?_
              have hzc : szs cs + c.sz = szs bs := by
                rw [hbc, szs_app]
                show _ = _ + (c.sz + 0)
                omega
              have hwc := hwbs c (by rw [hbc]; simp)
              have hwcs : ∀ a ∈ cs, a.Wf ∧ ∀ x ∈ a.vars, x ∈ ns := fun a ha => hwbs a (by rw [hbc]; simp [ha])
              have hcl : (cs.map Tm.data).length ≤ 100000 := by
                rw [hbc] at hbl
                simp at hbl ⊢; omega
              obtain ⟨o, ho⟩ : ∃ o : BO, [kPlus, kMinus, kTimes][k - 4]? = some o.name := by
                have : k = 4 ∨ k = 5 ∨ k = 6 := by omega
                rcases this with z | z | z
                · subst z; exact ⟨.plus, rfl⟩
                · subst z; exact ⟨.minus, rfl⟩
                · subst z; exact ⟨.times, rfl⟩
              have hk4 : (k : Int) - 4 = ((k - 4 : Nat) : Int) := by omega
              have eo : EvD g.K (l :: X) (tOp (rIx g.K) (tLst (tCons (tC (.str "plus")) (tCons (tC (.str "minus")) (tCons (tC (.str "times")) tNil)))) (tOp rSubI (tVar 5) (tC (.int 4)))) [some (.ref p), some nv, some (.int (sz : Nat)), some (.ref l), some u, some (.int (k : Nat)), some v5] C5 (Mi.str o.name) :=
                ev_op (ev_lst hp5.dm (ea_cons (evs (t := kPlus)) (ea_cons (evs (t := kMinus)) (ea_cons (evs (t := kTimes)) ea_nil))) (by simp)) (evD_is (ev_op (ev_var rfl at_int) ev_int rd_sub) (by rw [hk4])) (rd_ixL (ds := [kPlus, kMinus, kTimes].map Mi.str) (by rw [List.getElem?_map, ho]; rfl))
              refine eo C5 (Ex.refl _) _ fun w6 C6 e6 aw6 => ?_
              show tBM0 g.K "list" rPop (tVar 3) _ C6 _
              refine r_pop rfl (hl5.ex e6) fun v7 C7 p7 hl7 av7 => ?_
              have hp7 := (hp5.exx e6).prl p7 hlY hpl hl7.dom
              refine ⟨_, rfl, by show 3 ≤ sizeLine; decide, fun q2 hq2 => ?_⟩
              refine push_tup hp7 hl7 hpl hcl (.cons (aw6.pr (p7.lift hlY)) (.cons av7 (.cons ((av5.ex e6).pr (p7.lift hlY)) .nil))) hq2 fun C8 p8 hp8 hl8 => ?_
              have P5 : Pr [p] H C5 := pr_fresh (PC.trans (Ex.pr ((e1.trans e2').trans e34))) p5 hl
              have P8 : Pr [p] H C8 := pr_fresh (P5.trans (Ex.pr e6)) (p7.trans p8) hl
              have Y8 : Pr (l :: X) H2 C8 := (((PYC.trans (Ex.pr ((e1.trans e2').trans e34))).trans (p5.lift hlY)).trans (Ex.pr e6)).trans ((p7.trans p8).lift hlY)
              refine fin C8 _ _ _ (cs ++ [.bin o c b]) _ Y8 P8 hp8 (by omega) (by rw [List.map_append]; exact hl8) (fun a ha => ?_) (by rw [szs_app]; show _ + (c.sz + b.sz + 1 + 0) ≤ _; omega) (by simp) (((((hnC2.ex e34).prl p5 hlY).ex e6).prl p7 hlY).prl p8 hlY)
              rcases List.mem_append.mp ha with ha | ha
              · exact hwcs a ha
              · rw [List.mem_singleton.mp ha]
                exact ⟨⟨hwc.1, hwb.1⟩, fun x hx => (List.mem_append.mp hx).elim (hwc.2 x) (hwb.2 x)⟩
    refine q_asgR (draw_if (m := 0) (b := decide (1 < as.length)) (et_test (ev_op (ev_lenLA rfl hl3) ev_int (rd_is (rd_gtN (n := 1)) (by rw [List.length_map])))) (fun hb C e3 => ?_) (fun hb C e3 => ?_))
    · exact m_draw (m := 7) rfl (hp3.exx e3) ev_int (by omega) (by omega) (by omega) fun C2 k p2 hk hp2 => body C2 k ((Ex.pr e3).trans p2) hp2 hk fun _ => of_decide_eq_true hb
    · exact m_draw (m := 2) rfl (hp3.exx e3) ev_int (by omega) (by omega) (by omega) fun C2 k p2 hk hp2 => body C2 k ((Ex.pr e3).trans p2) hp2 (by omega) fun h => by omega
  · subst hσ
    rw [List.length_map, List.length_range] at hp3 hz hne
    obtain ⟨bs, b, hasb⟩ := map_ne (hne (by omega))
    obtain ⟨_, vs, hvs, avs⟩ := hl3
    rw [hasb, List.map_append] at avs
    obtain ⟨us, w, rfl, _, aw⟩ := Ats.snoc (d := b.data) avs
    have hb := hw b (by rw [hasb]; simp)
    have hbz : b.sz ≤ 4 := by
      rw [hasb, szs_app] at hz
      have : szs [b] = b.sz := rfl
      omega
    exact ⟨_, rfl, 1, rfl, .inl ⟨l, us ++ [w], -1, w, rfl, rfl, sq_of hvs, atI_last us w, q H3 w b P3 ((hp3.less h.px).up (by omega)) hb.1 hb.2 hbz (aw.less fun a m => List.mem_cons_of_mem _ m)⟩⟩
end
end Dy
namespace Mi
def szy : List Sy → Nat
  | [] => 0
  | a :: as => a.sz + szy as
theorem szy_app : ∀ as bs : List Sy, szy (as ++ bs) = szy as + szy bs
  | [], bs => by rw [List.nil_append]; show _ = 0 + _; omega
  | a :: as, bs => by
    show a.sz + szy (as ++ bs) = a.sz + szy as + szy bs
    rw [szy_app as]; omega
theorem szy_len : ∀ as : List Sy, as.length ≤ szy as
  | [] => Nat.le_refl _
  | a :: as => by
    have := a.sz_pos
    have := szy_len as
    show as.length + 1 ≤ a.sz + szy as
    omega
end Mi
namespace Dy
open PySem L2 Evl Mi
section
variable {g : G8} {X Y : List Addr} {H H' H1 A : Hp} {p l q : Addr} {σ : L2.St} {Q : VK} {i : Nat} {D : Ends} {tz : TS} {tv tw ts th te tp : TE} {d z : PyData} {v nv : V} {N n : Nat} {ds : List PyData}
theorem m_term {ns : List T} (h0 : σ[0]? = some (some (.ref p))) (h1 : σ[1]? = some (some nv)) (h2 : σ[2]? = some (some (.int 4))) (hp : PenAt g X H p N) (hn : NmAt g X H nv ns) (hN : N + 120 ≤ 1000000) (q : ∀ H' u, ∀ a : Tm, Pr [p] H H' → PenAt g X H' p (N + 21) → a.Wf → (∀ x ∈ a.vars, x ∈ ns) → a.sz ≤ 4 → At g.K X H' u a.data → Q u H') :
    tCall (sp_law_s_term g) [] E0 (tCons (tVar 0) (tCons (tVar 1) (tCons (tOp rAddI (tC (.int 1)) (tCall (sp_law_draw g) [] E0 (tCons (tVar 0) (tCons (tVar 2) tNil)))) tNil))) σ H Q := by
  refine ⟨_, h0, _, h1, ?_⟩
  show tCall (sp_law_draw g) [] E0 _ σ H _
  refine m_draw (m := 4) h0 hp (ev_var h2 at_int) (by omega) (by omega) (by omega) fun H2 d p2 hd hp2 => ⟨1, d, rfl, rfl, ?_⟩
  have e : (1 : Int) + (d : Int) = ((1 + d : Nat) : Int) := by omega
  refine ⟨X, p, nv, ns, 1 + d, N + 1, by show [V.ref p, nv, V.int (1 + (d : Int))] = [V.ref p, nv, V.int ((1 + d : Nat) : Int)]; rw [e], hn.pr (p2.lift hp.px), by omega, by omega, by omega, hp2, fun H' u a p3 hp3 => q H' u a (p2.trans p3) (hp3.up (by omega))⟩
theorem u_law_s_atom : ∀ vs H Q E, sp_law_s_atom g vs H Q E → t_law_s_atom g (EQ Q) (start ["pen", "names", "size", "rel"] vs) H := fun vs H Q E ⟨X, p, nv, ns, N, e, hn, hN, h, q⟩ => by
  subst e
  refine q_asgR (m_pick (ds := RELS.map Mi.str) rfl h (ev_lst h.dm (ea_cons (evs (t := [61])) (ea_cons (evs (t := [33, 61])) (ea_cons (evs (t := [60])) (ea_cons (evs (t := [60, 61])) (ea_cons (evs (t := [62])) (ea_cons (evs (t := [62, 61])) ea_nil)))))) (by show 6 ≤ 100000; decide)) (by decide) (by decide) (by omega) fun H1 u d p1 hm hp1 au => ?_)
  obtain ⟨r, hr, rfl⟩ := List.mem_map.mp hm
  refine ⟨_, rfl, ?_⟩
  show tCall (sp_law_s_term g) [] E0 _ _ H1 _
  refine m_term rfl rfl rfl hp1 (hn.pr (p1.lift h.px)) (by omega) fun H2 v a p2 hp2 wa va za aa => ?_
  show tCall (sp_law_s_term g) [] E0 _ _ H2 _
  refine m_term rfl rfl rfl hp2 ((hn.pr (p1.lift h.px)).pr (p2.lift h.px)) (by omega) fun H3 w b p3 hp3 wb vb zb ab => ⟨by show 3 ≤ sizeLine; decide, fun s hs => ?_⟩
  refine q _ _ (.rel r a b) (((p1.trans p2).trans p3).trans (Ex.pr (Ex.new hs))) ((hp3.exx (Ex.new hs)).up (by omega)) ⟨hr, wa, wb⟩ (fun x hx => hx.elim (va x) (vb x)) (by show a.sz + b.sz + 1 ≤ 9; omega) ?_
  exact at_tupN hp3.dm hs (.cons ((au.pr (p2.lift h.px)).pr (p3.lift h.px)) (.cons (aa.pr (p3.lift h.px)) (.cons ab .nil)))
theorem map_neS {as : List Sy} (h : as ≠ []) : ∃ bs a, as = bs ++ [a] := by
  rcases List.eq_nil_or_concat as with e | ⟨bs, a, e⟩
  · exact absurd e h
  · exact ⟨bs, a, by rw [e, List.concat_eq_append]⟩
theorem u_law_s_saying : ∀ vs H Q E, sp_law_s_saying g vs H Q E → t_law_s_saying g (EQ Q) (start ["pen", "names", "size", "term", "some", "lap", "head", "other"] vs) H := fun vs H Q E ⟨X, p, nv, ns, sz, N, e, hn, hs1, hs8, hN, h, q⟩ => by
  subst e
  refine q_asgR ⟨by decide, fun l hl => ?_⟩
  have hlX : l ∉ X := fun m => h.dm l m hl
  have hpl : p ≠ l := fun z => hlX (by rw [← z]; exact h.px)
  have hp1 := h.more (xs := []) hl
  have hn1 : NmAt g (l :: X) (upd H l (.lst [])) nv ns := ⟨(hn.at_.more hl).pr (pr_upd List.mem_cons_self), hn.ne, hn.len, hn.ok⟩
  have hl1 : LAt g.K (l :: X) (upd H l (.lst [])) l (([] : List Sy).map Sy.data) := LAt.new .nil hl
  have hlY : l ∈ l :: X := List.mem_cons_self
  have hpY : p ∈ l :: X := List.mem_cons_of_mem _ h.px
  refine q_for (X := l :: X) (ei_rng (K := g.K) (n := sz) (by omega) (ev_var rfl at_int)) (fun i σ' H' => ∃ x5 x6 x7 as, σ' = [some (.ref p), some nv, some (.int (sz : Nat)), some (.int 4), some (.ref l), x5, x6, x7] ∧ Pr [p] H H' ∧ PenAt g (l :: X) H' p (N + 62 * i) ∧ LAt g.K (l :: X) H' l (as.map Sy.data) ∧ (∀ a ∈ as, a.Wf ∧ ∀ x, a.Free x → x ∈ ns) ∧ szy as ≤ 9 * i ∧ (0 < i → as ≠ []) ∧ NmAt g (l :: X) H' nv ns)
    (fun H2 e2 => ⟨none, none, none, [], rfl, (Ex.pr (Ex.new hl)).trans (Ex.pr e2), hp1.exx e2, hl1.ex e2, by simp, Nat.le_refl _, fun h => absurd h (by omega), hn1.ex e2⟩) (fun H2 i d u σ' H3 e2 p3 hd ad ⟨x5, x6, x7, as, hσ, P3, hp3, hl3, hw, hz, hne, hn3⟩ => ?_) (fun H2 σ' H3 e2 p3 ⟨x5, x6, x7, as, hσ, P3, hp3, hl3, hw, hz, hne, hn3⟩ => ?_)
  · subst hσ
    have hi : i < sz := by
      have := (List.getElem?_eq_some_iff.mp hd).1
      rw [List.length_map, List.length_range] at this
      exact this
    have fin : ∀ (C : Hp) (y5 y6 y7 : Option V) (as' : List Sy) (n : Nat), Pr (l :: X) H2 C → Pr [p] H C → PenAt g (l :: X) C p n → n ≤ N + 62 * (i + 1) → LAt g.K (l :: X) C l (as'.map Sy.data) → (∀ a ∈ as', a.Wf ∧ ∀ x, a.Free x → x ∈ ns) → szy as' ≤ 9 * (i + 1) → as' ≠ [] → NmAt g (l :: X) C nv ns →
        Pr (l :: X) H2 C ∧ ∃ x5 x6 x7 as, [some (.ref p), some nv, some (.int (sz : Nat)), some (.int 4), some (.ref l), y5, y6, y7] = [some (.ref p), some nv, some (.int (sz : Nat)), some (.int 4), some (.ref l), x5, x6, x7] ∧ Pr [p] H C ∧ PenAt g (l :: X) C p (N + 62 * (i + 1)) ∧ LAt g.K (l :: X) C l (as.map Sy.data) ∧ (∀ a ∈ as, a.Wf ∧ ∀ x, a.Free x → x ∈ ns) ∧ szy as ≤ 9 * (i + 1) ∧ (0 < i + 1 → as ≠ []) ∧ NmAt g (l :: X) C nv ns :=
      fun C y4 y5 y6 as' n a1 a2 a3 a4 a5 a6 a7 a8 a9 => ⟨a1, y4, y5, y6, as', rfl, a2, a3.up a4, a5, a6, a7, fun _ => a8, a9⟩
    have hal : (as.map Sy.data).length ≤ 100000 := by
      have := szy_len as
      rw [List.length_map]; omega
    have body : ∀ (C : Hp) (k : Nat), Pr [p] H3 C → PenAt g (l :: X) C p (N + 62 * i + 1) → k < 9 → (3 < k → 1 < as.length) →
        (tIfS (tOr (tTest (tOp rLtI (tVar 6) (tC (.int 2)))) (tTest (tOp (rEqN g.K 200) (tVar 4) (tLst tNil)))) (tDrop (tBM g.K "list" rAppend (tVar 4) (tCons (tCall (sp_law_s_atom g) [] E0 (tCons (tVar 0) (tCons (tVar 1) (tCons (tVar 3) tNil)))) tNil))) (tIfS (tTest (tOp rEq (tVar 6) (tC (.int 2)))) (tDrop (tBM g.K "list" rAppend (tVar 4) (tCons (tTup (tCons (tC (.str "not")) (tCons (tBM0 g.K "list" rPop (tVar 4)) tNil))) tNil))) (tIfS (tOr (tTest (tOp rEq (tVar 6) (tC (.int 3)))) (tTest (tOp rEq (tVar 6) (tC (.int 8))))) (tDrop (tBM g.K "list" rAppend (tVar 4) (tCons (tTup (tCons (tCall (sp_law_pick g) [] E0 (tCons (tVar 0) (tCons (tLst (tCons (tC (.str "all")) (tCons (tC (.str "some")) tNil))) tNil))) (tCons (tCall (sp_law_pick g) [] E0 (tCons (tVar 0) (tCons (tVar 1) tNil))) (tCons (tBM0 g.K "list" rPop (tVar 4)) tNil)))) tNil))) (tSeq (tAsg (tBM0 g.K "list" rPop (tVar 4)) (gName 7)) (tDrop (tBM g.K "list" rAppend (tVar 4) (tCons (tTup (tCons (tOp (rIx g.K) (tLst (tCons (tC (.str "and")) (tCons (tC (.str "or")) (tCons (tC (.str "implies")) (tCons (tC (.str "iff")) tNil))))) (tOp rSubI (tVar 6) (tC (.int 4)))) (tCons (tBM0 g.K "list" rPop (tVar 4)) (tCons (tVar 7) tNil)))) tNil)))))))
          { nx := fun σ3 C => Pr (l :: X) H2 C ∧ ∃ x5 x6 x7 as, σ3 = [some (.ref p), some nv, some (.int (sz : Nat)), some (.int 4), some (.ref l), x5, x6, x7] ∧ Pr [p] H C ∧ PenAt g (l :: X) C p (N + 62 * (i + 1)) ∧ LAt g.K (l :: X) C l (as.map Sy.data) ∧ (∀ a ∈ as, a.Wf ∧ ∀ x, a.Free x → x ∈ ns) ∧ szy as ≤ 9 * (i + 1) ∧ (0 < i + 1 → as ≠ []) ∧ NmAt g (l :: X) C nv ns, rt := Q,
            ct := fun σ3 C => Pr (l :: X) H2 C ∧ ∃ x5 x6 x7 as, σ3 = [some (.ref p), some nv, some (.int (sz : Nat)), some (.int 4), some (.ref l), x5, x6, x7] ∧ Pr [p] H C ∧ PenAt g (l :: X) C p (N + 62 * (i + 1)) ∧ LAt g.K (l :: X) C l (as.map Sy.data) ∧ (∀ a ∈ as, a.Wf ∧ ∀ x, a.Free x → x ∈ ns) ∧ szy as ≤ 9 * (i + 1) ∧ (0 < i + 1 → as ≠ []) ∧ NmAt g (l :: X) C nv ns, bk := tRet (tOp (rIx g.K) (tVar 4) (tUn (rU fun i => .int (-i)) (tC (.int 1)))) (EQ Q) }
          [some (.ref p), some nv, some (.int (sz : Nat)), some (.int 4), some (.ref l), some u, some (.int (k : Nat)), x7] C := by
      intro C k pC hpC hk hk2
      have hlC := hl3.prp pC hpY hpl
      have hnC := hn3.pr (pC.lift hpY)
      have PC : Pr [p] H C := P3.trans pC
      have PYC : Pr (l :: X) H2 C := p3.trans (pC.lift hpY)
      have grow : ∀ {C1 C2 C3 : Hp}, Pr [p] C C1 → Pr [l] C1 C2 → (Pr [p] H C2 ∧ Pr (l :: X) H2 C2) := fun a b => ⟨pr_fresh (PC.trans a) b hl, (PYC.trans (a.lift hpY)).trans (b.lift hlY)⟩
      have hXd : Dom X C := fun a m => hpC.dm a (List.mem_cons_of_mem _ m)
      have evas : At g.K X C (.ref l) (.list (as.map Sy.data)) := by
        obtain ⟨_, vs, hvs, avs⟩ := hlC
        exact at_lst hlX hvs (avs.less fun a m => List.mem_cons_of_mem _ m)
      refine Evl.s_if (b := decide (k < 2) || decide (as = [])) (Evl.et_or (et_test (ev_op (K := g.K) (X := X) (ev_var rfl at_int) ev_int (rd_ltN (n := 2)))) fun _ => et_test (ev_op (ev_var rfl evas) (ev_lst hXd ea_nil (by simp)) (rd_is rd_eqNil (by simp)))) (fun hb C1 e1 => ?_) (fun hb C1 e1 => ?_)
      · refine t_app rfl (hlC.ex e1) ?_
        refine ⟨_, rfl, _, rfl, _, rfl, l :: X, p, nv, ns, N + 62 * i + 1, rfl, hnC.ex e1, by omega, hpC.exx e1, fun C2 v2 f p2 hp2 wf vf zf af => ?_⟩
        refine l_app ((hlC.ex e1).prp p2 hpY hpl) hal af fun C3 p3' hl3' => ?_
        have hp3' := hp2.prl p3' hlY hpl hl3'.dom
        obtain ⟨g1, g2⟩ := grow (C3 := C3) ((Ex.pr e1).trans p2) p3'
        refine fin C3 _ _ _ (as ++ [f]) _ g2 g1 hp3' (by omega) (by rw [List.map_append]; exact hl3') (fun a ha => ?_) (by rw [szy_app]; show _ + (f.sz + 0) ≤ _; omega) (by simp) (((hnC.ex e1).pr (p2.lift hpY)).prl p3' hlY)
        rcases List.mem_append.mp ha with ha | ha
        · exact hw a ha
        · rw [List.mem_singleton.mp ha]; exact ⟨wf, vf⟩
      · simp only [Bool.or_eq_false_iff, decide_eq_false_iff_not] at hb
        obtain ⟨bs, b, hasb⟩ := map_neS hb.2
        have hpC1 := hpC.exx e1
        have hlC1 := hlC.ex e1
        have hnC1 := hnC.ex e1
        have hzs : szy bs + b.sz ≤ 9 * i := by
          rw [hasb, szy_app] at hz
          have : szy [b] = b.sz := rfl
          omega
        have hwb := hw b (by rw [hasb]; simp)
        have hwbs : ∀ a ∈ bs, a.Wf ∧ ∀ x, a.Free x → x ∈ ns := fun a ha => hw a (by rw [hasb]; simp [ha])
        have hbl : (bs.map Sy.data).length ≤ 100000 := by
          rw [hasb] at hal
          simp at hal ⊢; omega
        rw [hasb, List.map_append] at hlC1
        have hlC1 : LAt g.K (l :: X) C1 l (bs.map Sy.data ++ [b.data]) := hlC1
        refine Evl.s_if (b := decide (k = 2)) (et_test (ev_op (K := g.K) (X := l :: X) (ev_var rfl at_int) ev_int (rd_eqNn (n := 2)))) (fun hb2 C2 e2' => ?_) (fun hb2 C2 e2' => ?_)
        · refine t_app rfl (hlC1.ex e2') ?_
          show tBM0 g.K "list" rPop (tVar 4) _ C2 _
          refine r_pop rfl (hlC1.ex e2') fun v4 C4 p4 hl4 av4 => ⟨by show 2 ≤ sizeLine; decide, fun q2 hq2 => ?_⟩
          have hp4 := (hpC1.exx e2').prl p4 hlY hpl hl4.dom
          refine push_tup hp4 hl4 hpl hbl (.cons (at_str (by decide +kernel)) (.cons av4 .nil)) hq2 fun C5 p5 hp5 hl5 => ?_
          obtain ⟨g1, g2⟩ := grow (C3 := C5) ((Ex.pr e1).trans (Ex.pr e2')) (p4.trans p5)
          refine fin C5 _ _ _ (bs ++ [.not b]) _ g2 g1 hp5 (by omega) (by rw [List.map_append]; exact hl5) (fun a ha => ?_) (by rw [szy_app]; show _ + (b.sz + 1 + 0) ≤ _; omega) (by simp) (((hnC1.ex e2').prl p4 hlY).prl p5 hlY)
          rcases List.mem_append.mp ha with ha | ha
          · exact hwbs a ha
          · rw [List.mem_singleton.mp ha]; exact hwb
        · have hb2 := of_decide_eq_false hb2
          have e12 := e1.trans e2'
          have hpC2 := hpC1.exx e2'
          have hlC2 := hlC1.ex e2'
          have hnC2 := hnC1.ex e2'
          refine Evl.s_if (b := decide (k = 3) || decide (k = 8)) (Evl.et_or (et_test (ev_op (K := g.K) (X := l :: X) (ev_var rfl at_int) ev_int (rd_eqNn (n := 3)))) fun _ => et_test (ev_op (K := g.K) (X := l :: X) (ev_var rfl at_int) ev_int (rd_eqNn (n := 8)))) (fun hb3 C3 e3 => ?_) (fun hb3 C3 e3 => ?_)
          · refine t_app rfl (hlC2.ex e3) ?_
            show tCall (sp_law_pick g) [] E0 _ _ C3 _
            refine m_pick (ds := [kAll, kSome].map Mi.str) rfl (hpC2.exx e3) (ev_lst (hpC2.exx e3).dm (ea_cons (evs (t := kAll)) (ea_cons (evs (t := kSome)) ea_nil)) (by show 2 ≤ 100000; decide)) (by simp) (by simp) (by omega) fun C4 u4 d4 p4 hm4 hp4 au4 => ?_
            obtain ⟨qn, hqn, rfl⟩ := List.mem_map.mp hm4
            obtain ⟨qb, hqb⟩ : ∃ qb, qn = qName qb := by
              rcases List.mem_cons.mp hqn with z | z
              · exact ⟨true, z⟩
              · exact ⟨false, List.mem_singleton.mp z⟩
            subst hqb
            have hn4 := (hnC2.ex e3).pr (p4.lift hpY)
            show tCall (sp_law_pick g) [] E0 _ _ C4 _
            refine m_pick rfl hp4 (ev_var rfl hn4.at_) (by simpa using hn.ne) (by rw [List.length_map]; have := hn.len; omega) (by omega) fun C5 u5 d5 p5 hm5 hp5 au5 => ?_
            obtain ⟨x, hx, rfl⟩ := List.mem_map.mp hm5
            have hl5 := ((hlC2.ex e3).prp p4 hpY hpl).prp p5 hpY hpl
            show tBM0 g.K "list" rPop (tVar 4) _ C5 _
            refine r_pop rfl hl5 fun v6 C6 p6 hl6 av6 => ⟨by show 3 ≤ sizeLine; decide, fun q2 hq2 => ?_⟩
            have hp6 := hp5.prl p6 hlY hpl hl6.dom
            refine push_tup hp6 hl6 hpl hbl (.cons (((au4.pr (p5.lift hpY))).pr (p6.lift hlY)) (.cons (au5.pr (p6.lift hlY)) (.cons av6 .nil))) hq2 fun C7 p7 hp7 hl7 => ?_
            obtain ⟨g1, g2⟩ := grow (C3 := C7) ((((Ex.pr e12).trans (Ex.pr e3)).trans p4).trans p5) (p6.trans p7)
            refine fin C7 _ _ _ (bs ++ [.quant qb x b]) _ g2 g1 hp7 (by omega) (by rw [List.map_append]; exact hl7) (fun a ha => ?_) (by rw [szy_app]; show _ + (b.sz + 1 + 0) ≤ _; omega) (by simp) (((hn4.pr (p5.lift hpY)).prl p6 hlY).prl p7 hlY)
            rcases List.mem_append.mp ha with ha | ha
            · exact hwbs a ha
            · rw [List.mem_singleton.mp ha]
              exact ⟨⟨hn.ok x hx, hwb.1⟩, fun y hy => hwb.2 y hy.2⟩
          · simp only [Bool.or_eq_false_iff, decide_eq_false_iff_not] at hb3
            have hlen : 1 < as.length := hk2 (by omega)
            obtain ⟨cs, c, hbc⟩ := map_neS (as := bs) (fun z => by rw [hasb, z] at hlen; simp at hlen)
            refine q_asgR (r_pop rfl (hlC2.ex e3) fun v5 C5 p5 hl5 av5 => ?_)
            have hp5 := (hpC2.exx e3).prl p5 hlY hpl hl5.dom
            rw [hbc, List.map_append] at hl5
            have hl5 : LAt g.K (l :: X) C5 l (cs.map Sy.data ++ [c.data]) := hl5
            refine t_app rfl hl5 ?_
            have hzc : szy cs + c.sz = szy bs := by
              rw [hbc, szy_app]
              show _ = _ + (c.sz + 0)
              omega
            have hwc := hwbs c (by rw [hbc]; simp)
            have hwcs : ∀ a ∈ cs, a.Wf ∧ ∀ x, a.Free x → x ∈ ns := fun a ha => hwbs a (by rw [hbc]; simp [ha])
            have hcl : (cs.map Sy.data).length ≤ 100000 := by
              rw [hbc] at hbl
              simp at hbl ⊢; omega
            obtain ⟨o, ho⟩ : ∃ o : WO, [kAnd, kOr, kImp, kIff][k - 4]? = some o.name := by
              have : k = 4 ∨ k = 5 ∨ k = 6 ∨ k = 7 := by omega
              rcases this with z | z | z | z
              · subst z; exact ⟨.and, rfl⟩
              · subst z; exact ⟨.or, rfl⟩
              · subst z; exact ⟨.imp, rfl⟩
              · subst z; exact ⟨.iff, rfl⟩
            have hk4 : (k : Int) - 4 = ((k - 4 : Nat) : Int) := by omega
            have eo : EvD g.K (l :: X) (tOp (rIx g.K) (tLst (tCons (tC (.str "and")) (tCons (tC (.str "or")) (tCons (tC (.str "implies")) (tCons (tC (.str "iff")) tNil))))) (tOp rSubI (tVar 6) (tC (.int 4)))) [some (.ref p), some nv, some (.int (sz : Nat)), some (.int 4), some (.ref l), some u, some (.int (k : Nat)), some v5] C5 (Mi.str o.name) :=
              ev_op (ev_lst hp5.dm (ea_cons (evs (t := kAnd)) (ea_cons (evs (t := kOr)) (ea_cons (evs (t := kImp)) (ea_cons (evs (t := kIff)) ea_nil)))) (by show 4 ≤ 100000; decide)) (evD_is (ev_op (ev_var rfl at_int) ev_int rd_sub) (by rw [hk4])) (rd_ixL (ds := [kAnd, kOr, kImp, kIff].map Mi.str) (by rw [List.getElem?_map, ho]; rfl))
            refine eo C5 (Ex.refl _) _ fun w6 C6 e6 aw6 => ?_
            show tBM0 g.K "list" rPop (tVar 4) _ C6 _
            refine r_pop rfl (hl5.ex e6) fun v7 C7 p7 hl7 av7 => ?_
            have hp7 := (hp5.exx e6).prl p7 hlY hpl hl7.dom
            refine ⟨_, rfl, by show 3 ≤ sizeLine; decide, fun q2 hq2 => ?_⟩
            refine push_tup hp7 hl7 hpl hcl (.cons (aw6.pr (p7.lift hlY)) (.cons av7 (.cons ((av5.ex e6).pr (p7.lift hlY)) .nil))) hq2 fun C8 p8 hp8 hl8 => ?_
            have P5 : Pr [p] H C5 := pr_fresh (PC.trans (Ex.pr (e12.trans e3))) p5 hl
            have P8 : Pr [p] H C8 := pr_fresh (P5.trans (Ex.pr e6)) (p7.trans p8) hl
            have Y8 : Pr (l :: X) H2 C8 := (((PYC.trans (Ex.pr (e12.trans e3))).trans (p5.lift hlY)).trans (Ex.pr e6)).trans ((p7.trans p8).lift hlY)
            refine fin C8 _ _ _ (cs ++ [.bin o c b]) _ Y8 P8 hp8 (by omega) (by rw [List.map_append]; exact hl8) (fun a ha => ?_) (by rw [szy_app]; show _ + (c.sz + b.sz + 1 + 0) ≤ _; omega) (by simp) (((((hnC2.ex e3).prl p5 hlY).ex e6).prl p7 hlY).prl p8 hlY)
            rcases List.mem_append.mp ha with ha | ha
            · exact hwcs a ha
            · rw [List.mem_singleton.mp ha]
              exact ⟨⟨hwc.1, hwb.1⟩, fun x hx => hx.elim (hwc.2 x) (hwb.2 x)⟩
    refine q_asgR (draw_if (m := 0) (b := decide (1 < as.length)) (et_test (ev_op (ev_lenLA rfl hl3) ev_int (rd_is (rd_gtN (n := 1)) (by rw [List.length_map])))) (fun hb C e3 => ?_) (fun hb C e3 => ?_))
    · exact m_draw (m := 9) rfl (hp3.exx e3) ev_int (by omega) (by omega) (by omega) fun C2 k p2 hk hp2 => body C2 k ((Ex.pr e3).trans p2) hp2 hk fun _ => of_decide_eq_true hb
    · exact m_draw (m := 4) rfl (hp3.exx e3) ev_int (by omega) (by omega) (by omega) fun C2 k p2 hk hp2 => body C2 k ((Ex.pr e3).trans p2) hp2 (by omega) fun h => by omega
  · subst hσ
    rw [List.length_map, List.length_range] at hp3 hz hne
    obtain ⟨bs, b, hasb⟩ := map_neS (hne (by omega))
    obtain ⟨_, vs, hvs, avs⟩ := hl3
    rw [hasb, List.map_append] at avs
    obtain ⟨us, w, rfl, _, aw⟩ := Ats.snoc (d := b.data) avs
    have hb := hw b (by rw [hasb]; simp)
    have hbz : b.sz ≤ 72 := by
      rw [hasb, szy_app] at hz
      have : szy [b] = b.sz := rfl
      omega
    exact ⟨_, rfl, 1, rfl, .inl ⟨l, us ++ [w], -1, w, rfl, rfl, sq_of hvs, atI_last us w, q H3 w b P3 ((hp3.less h.px).up (by omega)) hb.1 hb.2 hbz (aw.less fun a m => List.mem_cons_of_mem _ m)⟩⟩
end
end Dy
namespace Dy
open PySem L2 Evl Mi
section
variable {g : G8} {X Y : List Addr} {H H' H1 A : Hp} {p l q : Addr} {σ : L2.St} {Q : VK} {i : Nat} {D : Ends} {tz : TS} {tv tw ts th te tp : TE} {d z : PyData} {v nv : V} {N n : Nat} {ds : List PyData}
/-- the head of a tree -/
def Sy.hd : Sy → T
  | .rel r _ _ => r
  | .not _ => kNot
  | .bin o _ _ => o.name
  | .quant q _ _ => qName q
theorem ev_rels (dm : Dom X H) : EvD g.K X (tLst (tCons (tC (.str "=")) (tCons (tC (.str "!=")) (tCons (tC (.str "<")) (tCons (tC (.str "<=")) (tCons (tC (.str ">")) (tCons (tC (.str ">=")) tNil))))))) σ H (.list (RELS.map Mi.str)) :=
  ev_lst dm (ea_cons (evs (t := [61])) (ea_cons (evs (t := [33, 61])) (ea_cons (evs (t := [60])) (ea_cons (evs (t := [60, 61])) (ea_cons (evs (t := [62])) (ea_cons (evs (t := [62, 61])) ea_nil)))))) (by show 6 ≤ 100000; decide)
theorem ev_allsome (dm : Dom X H) : EvD g.K X (tLst (tCons (tC (.str "all")) (tCons (tC (.str "some")) tNil))) σ H (.list ([kAll, kSome].map Mi.str)) := ev_lst dm (ea_cons (evs (t := kAll)) (ea_cons (evs (t := kSome)) ea_nil)) (by show 2 ≤ 100000; decide)
theorem name_no (o : WO) : o.name ∉ RELS ∧ o.name ∉ [kAll, kSome] ∧ o.name ≠ kNot := by cases o <;> decide
theorem q_no (o : Bool) : qName o ∉ RELS ∧ qName o ∈ [kAll, kSome] ∧ qName o ≠ kNot := by cases o <;> decide
theorem ix0 {h : PyData} {r : List PyData} (hs : σ[i]? = some (some v)) (a : At g.K X H v (.tuple (h :: r))) : EvD g.K X (tOp (rIx g.K) (tVar i) (tC (.int 0))) σ H h := ev_op (ev_var hs a) ev_int (rd_ixT (j := 0) rfl)
theorem ix1 {h k : PyData} {r : List PyData} (hs : σ[i]? = some (some v)) (a : At g.K X H v (.tuple (h :: k :: r))) : EvD g.K X (tOp (rIx g.K) (tVar i) (tC (.int 1))) σ H k := ev_op (ev_var hs a) ev_int (rd_ixT (j := 1) rfl)
theorem ix2 {h k m : PyData} {r : List PyData} (hs : σ[i]? = some (some v)) (a : At g.K X H v (.tuple (h :: k :: m :: r))) : EvD g.K X (tOp (rIx g.K) (tVar i) (tC (.int 2))) σ H m := ev_op (ev_var hs a) ev_int (rd_ixT (j := 2) rfl)
theorem u_law_s_parts : ∀ vs H Q E, sp_law_s_parts g vs H Q E → t_law_s_parts g (EQ Q) (start ["tree"] vs) H := fun vs H Q E ⟨X, ds, z, dm, ax, ⟨f, wf, e, hz⟩, q⟩ => by
  subst e hz
  obtain ⟨v, rfl, a⟩ := ats1 ax
  cases f with
  | rel r b c =>
    refine Evl.q_when (b := true) (et_test (ev_op (ix0 rfl a) (ev_rels dm) (rd_is rd_inLs (by rw [decide_eq_true wf.1])))) (fun _ H1 e1 => ?_) (fun h => by cases h)
    exact s_ret (ev_lst (dm.pr e1) ea_nil (by simp)) fun v H2 e2 av => q v H2 (e1.trans e2) av
  | not f =>
    refine Evl.q_when (b := false) (et_test (ev_op (ix0 rfl a) (ev_rels dm) (rd_is (rd_inLs (x := kNot)) rfl))) (fun h => by cases h) fun _ H1 e1 => ?_
    have a1 : At g.K X H1 v (.tuple [Mi.str kNot, f.data]) := a.ex e1
    exact s_ret (ev_if (b := false) (et_test (ev_op (ix0 rfl a1) (ev_allsome (dm.pr e1)) (rd_is (rd_inLs (x := kNot)) rfl))) (fun h => by cases h) fun _ => evD_is (ev_cb (ea_cons (ev_slT (dm.pr e1) (ev_var rfl a1) eo_i eo_none sl1) ea_nil) (rc_listT (dm.pr e1))) (by rw [cut1]; rfl)) fun v H2 e2 av => q v H2 (e1.trans e2) av
  | bin o f k =>
    obtain ⟨n1, n2, _⟩ := name_no o
    refine Evl.q_when (b := false) (et_test (ev_op (ix0 rfl a) (ev_rels dm) (rd_is (rd_inLs (x := o.name)) (by rw [decide_eq_false n1])))) (fun h => by cases h) fun _ H1 e1 => ?_
    have a1 : At g.K X H1 v (.tuple [Mi.str o.name, f.data, k.data]) := a.ex e1
    exact s_ret (ev_if (b := false) (et_test (ev_op (ix0 rfl a1) (ev_allsome (dm.pr e1)) (rd_is (rd_inLs (x := o.name)) (by rw [decide_eq_false n2])))) (fun h => by cases h) fun _ => evD_is (ev_cb (ea_cons (ev_slT (dm.pr e1) (ev_var rfl a1) eo_i eo_none sl1) ea_nil) (rc_listT (dm.pr e1))) (by rw [cut1]; rfl)) fun v H2 e2 av => q v H2 (e1.trans e2) av
  | quant o x f =>
    obtain ⟨n1, n2, _⟩ := q_no o
    refine Evl.q_when (b := false) (et_test (ev_op (ix0 rfl a) (ev_rels dm) (rd_is (rd_inLs (x := qName o)) (by rw [decide_eq_false n1])))) (fun h => by cases h) fun _ H1 e1 => ?_
    have a1 : At g.K X H1 v (.tuple [Mi.str (qName o), Mi.str x, f.data]) := a.ex e1
    exact s_ret (ev_if (b := true) (et_test (ev_op (ix0 rfl a1) (ev_allsome (dm.pr e1)) (rd_is (rd_inLs (x := qName o)) (by rw [decide_eq_true n2])))) (fun _ => ev_lst (dm.pr e1) (ea_cons (ix2 rfl a1) ea_nil) (by simp)) (fun h => by cases h)) fun v H2 e2 av => q v H2 (e1.trans e2) av
/-! words to numbers -/
theorem ev_str1 {n : Nat} (h : n ≤ 9) (he : EvD g.K X te σ H (.int (n : Nat))) : EvD g.K X (tCB rStrI (tCons te tNil)) σ H (Mi.str (dig n)) := fun H1 e1 Q q => he H1 e1 _ fun v H2 e2 av => by
  cases at_int_inv av
  refine ⟨n, rfl, ?_, ?_⟩
  · have : (n : Int).natAbs = n := by simp
    rw [this]
    have : n.log2 ≤ n := Nat.log2_le_self _
    omega
  · have : ∀ n : Nat, n ≤ 9 → (Str.ofString (toString (n : Int)) = S (dig n) ∧ ok (S (dig n))) := by
      intro n h
      have : n = 0 ∨ n = 1 ∨ n = 2 ∨ n = 3 ∨ n = 4 ∨ n = 5 ∨ n = 6 ∨ n = 7 ∨ n = 8 ∨ n = 9 := by omega
      rcases this with z | z | z | z | z | z | z | z | z | z <;> subst z <;> exact ⟨by decide +kernel, by decide +kernel⟩
    obtain ⟨h1, h2⟩ := this n h
    show Q (.str (Str.ofString (toString (n : Int)))) H2
    rw [h1]
    exact q _ H2 e2 (at_str h2)
/-- d.get(k, x) of a written dict of numbers -/
theorem pairs_int : ∀ (kis : List (Str × Int)) (σ : L2.St) (H : Hp) (Q : List (V × V) → Hp → Prop), Q (kis.map fun x => (V.str x.1, V.int x.2)) H → tPairs (kis.map fun x => (tC (.str x.1), tC (.int x.2))) σ H Q
  | [], σ, H, Q, h => h
  | x :: r, σ, H, Q, h => pairs_int r σ H _ h
theorem ev_get2 {kis : List (Str × Int)} {k : Str} {o df : Int} (hs : σ[i]? = some (some (.str k))) (hl : kis.length ≤ 15) (hv : (valV (mergeK [] (kis.map fun x => (Sum.inr x.1, V.int x.2))) (.inr k)).getD (.int df) = .int o) :
    EvD g.K X (tDGet2 (tDisp (kis.map fun x => (tC (.str x.1), tC (.int x.2)))) (tVar i) (tC (.int df))) σ H (.int o) := fun H1 e1 Q q p hp => by
  refine pairs_int kis σ _ _ ⟨upd_same, kis.map fun x => (Sum.inr x.1, V.int x.2), ?_, by rw [List.length_map]; exact hl, p, rfl, ?_, _, hs, _, .inl ⟨_, .inr k, .inl upd_same, rfl, rfl⟩, ?_⟩
  · rw [List.map_map]; rfl
  · exact .inl ⟨_, .inl upd_same⟩
  · rw [hv, upd_upd]
    exact q _ _ (Ex.new hp) at_int
/-- {..}[k] of a written dict of data -/
theorem ev_disp4 {k1 k2 k3 k4 k : Str} {t1 t2 t3 t4 : TE} {d1 d2 d3 d4 z : PyData} (dm : Dom X H) (hs : σ[i]? = some (some (.str k)))
    (h1 : ∀ Y H, Dom Y H → EvD g.K Y t1 σ H d1) (h2 : ∀ Y H, Dom Y H → EvD g.K Y t2 σ H d2) (h3 : ∀ Y H, Dom Y H → EvD g.K Y t3 σ H d3) (h4 : ∀ Y H, Dom Y H → EvD g.K Y t4 σ H d4)
    (hv : ∀ v1 v2 v3 v4 : V, ∃ v, valV (mergeK [] [(Sum.inr k1, v1), (Sum.inr k2, v2), (Sum.inr k3, v3), (Sum.inr k4, v4)]) (.inr k) = some v ∧ ((v = v1 ∧ z = d1) ∨ (v = v2 ∧ z = d2) ∨ (v = v3 ∧ z = d3) ∨ (v = v4 ∧ z = d4))) :
    EvD g.K X (tDGet (tDisp ((tC (.str k1), t1) :: (tC (.str k2), t2) :: (tC (.str k3), t3) :: (tC (.str k4), t4) :: [])) (tVar i)) σ H z := fun H1 e1 Q q p hp => by
  have dm1 : Dom (p :: X) (upd H1 p (.dK [])) := (dm.pr e1).more (Ex.new hp) (by rw [upd_same]; simp)
  refine h1 (p :: X) _ dm1 _ (Ex.refl _) _ fun v1 C1 x1 a1 => ?_
  refine h2 (p :: X) _ (dm1.pr x1) _ (Ex.refl _) _ fun v2 C2 x2 a2 => ?_
  refine h3 (p :: X) _ ((dm1.pr x1).pr x2) _ (Ex.refl _) _ fun v3 C3 x3 a3 => ?_
  refine h4 (p :: X) _ (((dm1.pr x1).pr x2).pr x3) _ (Ex.refl _) _ fun v4 C4 x4 a4 => ?_
  obtain ⟨v, hv1, hv2⟩ := hv v1 v2 v3 v4
  have x14 := ((x1.trans x2).trans x3).trans x4
  refine ⟨x14 _ _ upd_same, [(Sum.inr k1, v1), (Sum.inr k2, v2), (Sum.inr k3, v3), (Sum.inr k4, v4)], rfl, by show 4 ≤ 15; decide, _, hs, p, v, rfl, .inl ⟨_, .inr k, .inl upd_same, rfl, hv1.symm⟩, ?_⟩
  have av : At g.K (p :: X) C4 v z := by
    rcases hv2 with ⟨e, z⟩ | ⟨e, z⟩ | ⟨e, z⟩ | ⟨e, z⟩
    · rw [e, z]; exact ((a1.ex x2).ex x3).ex x4
    · rw [e, z]; exact (a2.ex x3).ex x4
    · rw [e, z]; exact a3.ex x4
    · rw [e, z]; exact a4
  exact q v _ (ex_pr ((Ex.new hp).trans x14) pr_p hp) ((av.pr (pr_upd List.mem_cons_self)).less fun a m => List.mem_cons_of_mem _ m)
theorem ev_disp3 {k1 k2 k3 k : Str} {t1 t2 t3 : TE} {d1 d2 d3 z : PyData} (dm : Dom X H) (hs : σ[i]? = some (some (.str k)))
    (h1 : ∀ Y H, Dom Y H → EvD g.K Y t1 σ H d1) (h2 : ∀ Y H, Dom Y H → EvD g.K Y t2 σ H d2) (h3 : ∀ Y H, Dom Y H → EvD g.K Y t3 σ H d3)
    (hv : ∀ v1 v2 v3 : V, ∃ v, valV (mergeK [] [(Sum.inr k1, v1), (Sum.inr k2, v2), (Sum.inr k3, v3)]) (.inr k) = some v ∧ ((v = v1 ∧ z = d1) ∨ (v = v2 ∧ z = d2) ∨ (v = v3 ∧ z = d3))) :
    EvD g.K X (tDGet (tDisp ((tC (.str k1), t1) :: (tC (.str k2), t2) :: (tC (.str k3), t3) :: [])) (tVar i)) σ H z := fun H1 e1 Q q p hp => by
  have dm1 : Dom (p :: X) (upd H1 p (.dK [])) := (dm.pr e1).more (Ex.new hp) (by rw [upd_same]; simp)
  refine h1 (p :: X) _ dm1 _ (Ex.refl _) _ fun v1 C1 x1 a1 => ?_
  refine h2 (p :: X) _ (dm1.pr x1) _ (Ex.refl _) _ fun v2 C2 x2 a2 => ?_
  refine h3 (p :: X) _ ((dm1.pr x1).pr x2) _ (Ex.refl _) _ fun v3 C3 x3 a3 => ?_
  obtain ⟨v, hv1, hv2⟩ := hv v1 v2 v3
  have x14 := (x1.trans x2).trans x3
  refine ⟨x14 _ _ upd_same, [(Sum.inr k1, v1), (Sum.inr k2, v2), (Sum.inr k3, v3)], rfl, by show 3 ≤ 15; decide, _, hs, p, v, rfl, .inl ⟨_, .inr k, .inl upd_same, rfl, hv1.symm⟩, ?_⟩
  have av : At g.K (p :: X) C3 v z := by
    rcases hv2 with ⟨e, z⟩ | ⟨e, z⟩ | ⟨e, z⟩
    · rw [e, z]; exact (a1.ex x2).ex x3
    · rw [e, z]; exact a2.ex x3
    · rw [e, z]; exact a3
  exact q v _ (ex_pr ((Ex.new hp).trans x14) pr_p hp) ((av.pr (pr_upd List.mem_cons_self)).less fun a m => List.mem_cons_of_mem _ m)
theorem ev_tok {w : T} (dm : Dom X H) (h : EvD g.K X te σ H (Mi.str w)) : EvD g.K X (tTup (tCons (tC (.str "token")) (tCons te (tCons (tC (.int 0)) tNil)))) σ H (It8.data (.tok w)) := ev_tup dm (ea_cons (evs (t := [116, 111, 107, 101, 110])) (ea_cons h (ea_cons ev_int ea_nil))) (by show 3 ≤ 100000; decide)
theorem ev_say {f : Sy} {n : Nat} {tl : TE} (dm : Dom X H) (h : EvD g.K X te σ H f.data) (hn : EvD g.K X tl σ H (.int (n : Nat))) : EvD g.K X (tTup (tCons (tC (.str "saying")) (tCons te (tCons tl tNil)))) σ H (It8.data (.say f n)) := ev_tup dm (ea_cons (evs (t := [115, 97, 121, 105, 110, 103])) (ea_cons h (ea_cons hn ea_nil))) (by show 3 ≤ 100000; decide)
theorem ev_ter {f : Tm} {n : Nat} {tl : TE} (dm : Dom X H) (h : EvD g.K X te σ H f.data) (hn : EvD g.K X tl σ H (.int (n : Nat))) : EvD g.K X (tTup (tCons (tC (.str "term")) (tCons te (tCons tl tNil)))) σ H (It8.data (.ter f n)) := ev_tup dm (ea_cons (evs (t := [116, 101, 114, 109])) (ea_cons h (ea_cons hn ea_nil))) (by show 3 ≤ 100000; decide)
theorem ev_i0 : EvD g.K X (tC (.int 0)) σ H (.int ((0 : Nat) : Int)) := ev_int
theorem ev_l1 {a : PyData} (dm : Dom X H) (h1 : EvD g.K X te σ H a) : EvD g.K X (tLst (tCons te tNil)) σ H (.list [a]) := ev_lst dm (ea_cons h1 ea_nil) (by show 1 ≤ 100000; decide)
theorem ev_l2 {t1 t2 : TE} {a b : PyData} (dm : Dom X H) (h1 : EvD g.K X t1 σ H a) (h2 : EvD g.K X t2 σ H b) : EvD g.K X (tLst (tCons t1 (tCons t2 tNil))) σ H (.list [a, b]) := ev_lst dm (ea_cons h1 (ea_cons h2 ea_nil)) (by show 2 ≤ 100000; decide)
theorem ev_l3 {t1 t2 t3 : TE} {a b c : PyData} (dm : Dom X H) (h1 : EvD g.K X t1 σ H a) (h2 : EvD g.K X t2 σ H b) (h3 : EvD g.K X t3 σ H c) : EvD g.K X (tLst (tCons t1 (tCons t2 (tCons t3 tNil)))) σ H (.list [a, b, c]) := ev_lst dm (ea_cons h1 (ea_cons h2 (ea_cons h3 ea_nil))) (by show 3 ≤ 100000; decide)
theorem ev_l4 {t1 t2 t3 t4 : TE} {a b c d : PyData} (dm : Dom X H) (h1 : EvD g.K X t1 σ H a) (h2 : EvD g.K X t2 σ H b) (h3 : EvD g.K X t3 σ H c) (h4 : EvD g.K X t4 σ H d) : EvD g.K X (tLst (tCons t1 (tCons t2 (tCons t3 (tCons t4 tNil))))) σ H (.list [a, b, c, d]) := ev_lst dm (ea_cons h1 (ea_cons h2 (ea_cons h3 (ea_cons h4 ea_nil)))) (by show 4 ≤ 100000; decide)
theorem data_hd (f : Sy) : ∃ r, f.data = .tuple (Mi.str (Dy.Sy.hd f) :: r) := by cases f <;> exact ⟨_, rfl⟩
theorem flat_len (f : Sy) : f.flat.length ≤ 4 := by cases f <;> simp [Sy.flat]
theorem own_of {f : Sy} (wf : f.Wf) : (valV (mergeK [] (([("implies", 0), ("iff", 0), ("or", 1), ("and", 2), ("not", 3), ("all", 0), ("some", 0)] : List (Str × Int)).map fun x => ((Sum.inr x.1 : Key), V.int x.2))) (.inr (S (Dy.Sy.hd f)))).getD (.int 3) = .int (f.own : Nat) := by
  cases f with
  | rel r a b =>
    have hr := wf.1
    simp only [RELS, List.mem_cons, List.not_mem_nil, or_false] at hr
    rcases hr with z | z | z | z | z | z <;> subst z <;> rfl
  | not f => rfl
  | bin o f k => cases o <;> rfl
  | quant o x f => cases o <;> rfl
/-- what is spread; not b: by no call of itself -/
def spreadR (b : Bool) : List PyData → PyData → Prop := fun ds z => ∃ f : Sy, ∃ l : Nat, ∃ more : Bool, (b = false → l = 0 ∧ more = false) ∧ f.Wf ∧ ds = [f.data, .int l, .bool more] ∧ z = .list ((f.spread l more).map It8.data)
theorem u_law_s_spread {spr : Sp} {b : Bool} (hr : b = true → ∀ vs H Q E, pSp g.K (spreadR false) vs H Q E → spr vs H Q E) :
    ∀ vs H Q E, pSp g.K (spreadR b) vs H Q E → t_law_s_spread g spr (EQ Q) (start ["tree", "level", "more", "head", "own", "sides"] vs) H := fun vs H Q E ⟨X, ds, z, dm, ax, ⟨f, lv, more, hb0, wf, e, hz⟩, q⟩ => by
  subst e hz
  obtain ⟨v, w, u, rfl, a, aw, au⟩ := ats3 ax
  cases at_int_inv aw
  cases at_bl_inv au
  obtain ⟨rr, hrr⟩ := data_hd f
  refine q_asg (ix0 rfl (by rw [← hrr]; exact a)) fun hv H1 e1 ah => ?_
  have okh := at_str_ok ah
  cases at_str_inv ah
  refine q_asg (K := g.K) (X := X) (ev_get2 (kis := [("implies", 0), ("iff", 0), ("or", 1), ("and", 2), ("not", 3), ("all", 0), ("some", 0)]) rfl (by decide) (own_of wf)) fun ov H2 e2 ao => ?_
  cases at_int_inv ao
  have e12 := e1.trans e2
  have dm2 := dm.pr e12
  have a2 := a.ex e12
  have hown : EvT (tTest (tOp rLtI (tVar 4) (tVar 1))) [some v, some (.int (lv : Nat)), some (.bl more), some (.str (S (Dy.Sy.hd f))), some (.int (f.own : Nat)), none] H2 (decide (f.own < lv)) := et_test (ev_op (K := g.K) (X := X) (ev_var rfl at_int) (ev_var rfl at_int) rd_ltN)
  refine Evl.q_when (b := decide (f.own < lv) || more) (Evl.et_or hown fun _ => et_B (ev_var (K := g.K) (X := X) rfl at_bl)) (fun hb H3 e3 => ?_) (fun hb H3 e3 => ?_)
  · have dm3 := dm2.pr e3
    have a3 := a2.ex e3
    refine s_ret (K := g.K) (X := X) (d := .list ((f.spread lv more).map It8.data)) (ev_if (EvT.mono e3 hown) (fun ho => ?_) (fun ho => ?_)) fun v H4 e4 av => q v H4 ((e12.trans e3).trans e4) av
    · have ho := of_decide_eq_true ho
      have : f.spread lv more = [.tok [91], .say f 0, .tok [93]] := by unfold Sy.spread; rw [if_pos ho]
      rw [this]
      exact ev_l3 dm3 (ev_tok dm3 (evs (t := [91]))) (ev_say dm3 (ev_var rfl a3) ev_i0) (ev_tok dm3 (evs (t := [93])))
    · have ho := of_decide_eq_false ho
      have hm : more = true := by rw [decide_eq_false ho, Bool.false_or] at hb; exact hb
      have hb1 : b = true := by
        cases b with
        | true => rfl
        | false => rw [(hb0 rfl).2] at hm; cases hm
      have again : SpD g.K X spr [f.data, .int (0 : Nat), .bool false] H3 (.list ((f.spread 0 false).map It8.data)) := fun C x us au Q' E' q' => hr hb1 _ _ _ _ (spd dm3 ⟨f, 0, false, fun _ => ⟨rfl, rfl⟩, wf, rfl, rfl⟩ C x us au Q' E' q')
      have : f.spread lv more = [.tok [91]] ++ f.flat ++ [.tok [93]] := by unfold Sy.spread; rw [if_neg ho, if_pos hm]
      rw [this, List.map_append, List.map_append]
      have fl : f.spread 0 false = f.flat := by unfold Sy.spread; rw [if_neg (by omega)]; rfl
      have hfl := flat_len f
      refine ev_op (ev_op (ev_l1 dm3 (ev_tok dm3 (evs (t := [91])))) (ev_call (ea_cons (ev_var rfl a3) (ea_cons ev_i0 (ea_cons ev_bl ea_nil))) again) (rd_catL dm3 (by rw [fl]; simp; omega))) (ev_l1 dm3 (ev_tok dm3 (evs (t := [93])))) (rd_is (rd_catL dm3 (by rw [fl]; simp; omega)) (by rw [fl]; rfl))
  · simp only [Bool.or_eq_false_iff, decide_eq_false_iff_not] at hb
    have hsp : f.spread lv more = f.flat := by unfold Sy.spread; rw [if_neg hb.1, hb.2]; rfl
    rw [hsp] at q
    have dm3 := dm2.pr e3
    have a3 := a2.ex e3
    have e13 := e12.trans e3
    cases f with
    | rel r b c =>
      have a3 : At g.K X H3 v (.tuple [Mi.str r, b.data, c.data]) := a3
      refine Evl.q_when (b := true) (et_test (ev_op (ev_call (ea_cons (ev_var rfl a3) ea_nil) (spd (z := .list []) dm3 ⟨.rel r b c, wf, rfl, rfl⟩)) (ev_lst dm3 ea_nil (by simp)) (rd_is rd_eqNil rfl))) (fun _ H4 e4 => ?_) (fun h => by cases h)
      have dm4 := dm3.pr e4
      have a4 := a3.ex e4
      exact s_ret (K := g.K) (X := X) (ev_l3 dm4 (ev_ter dm4 (ix1 rfl a4) ev_i0) (ev_tok dm4 (ev_var rfl (at_str okh))) (ev_ter dm4 (ix2 rfl a4) ev_i0)) fun v H5 e5 av => q v H5 ((e13.trans e4).trans e5) av
    | not f =>
      have a3 : At g.K X H3 v (.tuple [Mi.str kNot, f.data]) := a3
      refine Evl.q_when (b := false) (et_test (ev_op (ev_call (ea_cons (ev_var rfl a3) ea_nil) (spd (z := .list [f.data]) dm3 ⟨.not f, wf, rfl, rfl⟩)) (ev_lst dm3 ea_nil (by simp)) (rd_is rd_eqNil rfl))) (fun h => by cases h) fun _ H4 e4 => ?_
      refine Evl.q_when (b := true) (et_test (ev_op (K := g.K) (X := X) (ev_var rfl (at_str okh)) (evs (t := kNot)) (rd_is (rd_eqs (x := kNot) (y := kNot)) rfl))) (fun _ H5 e5 => ?_) (fun h => by cases h)
      have e35 := e4.trans e5
      have dm5 := dm3.pr e35
      exact s_ret (K := g.K) (X := X) (ev_l2 dm5 (ev_tok dm5 (evs (t := kNot))) (ev_say (n := 3) dm5 (ix1 rfl (a3.ex e35)) ev_int)) fun v H6 e6 av => q v H6 ((e13.trans e35).trans e6) av
    | quant o x f =>
      obtain ⟨n1, n2, n3⟩ := q_no o
      have a3 : At g.K X H3 v (.tuple [Mi.str (qName o), Mi.str x, f.data]) := a3
      refine Evl.q_when (b := false) (et_test (ev_op (ev_call (ea_cons (ev_var rfl a3) ea_nil) (spd (z := .list [f.data]) dm3 ⟨.quant o x f, wf, rfl, rfl⟩)) (ev_lst dm3 ea_nil (by simp)) (rd_is rd_eqNil rfl))) (fun h => by cases h) fun _ H4 e4 => ?_
      refine Evl.q_when (b := false) (et_test (ev_op (K := g.K) (X := X) (ev_var rfl (at_str okh)) (evs (t := kNot)) (rd_is (rd_eqs (x := qName o) (y := kNot)) (by rw [decide_eq_false n3])))) (fun h => by cases h) fun _ H5 e5 => ?_
      have e35 := e4.trans e5
      have dm5 := dm3.pr e35
      refine Evl.q_when (b := true) (et_test (ev_op (K := g.K) (X := X) (ev_var rfl (at_str okh)) (ev_allsome dm5) (rd_is (rd_inLs (x := qName o)) (by rw [decide_eq_true n2])))) (fun _ H6 e6 => ?_) (fun h => by cases h)
      have e36 := e35.trans e6
      have dm6 := dm3.pr e36
      have a6 := a3.ex e36
      exact s_ret (K := g.K) (X := X) (ev_l4 dm6 (ev_tok (w := qName o) dm6 (ev_var rfl (at_str okh))) (ev_tok dm6 (ix1 rfl a6)) (ev_tok dm6 (evs (t := [58]))) (ev_say dm6 (ix2 rfl a6) ev_i0)) fun v H7 e7 av => q v H7 ((e13.trans e36).trans e7) av
    | bin o f k =>
      obtain ⟨n1, n2, n3⟩ := name_no o
      have a3 : At g.K X H3 v (.tuple [Mi.str o.name, f.data, k.data]) := a3
      refine Evl.q_when (b := false) (et_test (ev_op (ev_call (ea_cons (ev_var rfl a3) ea_nil) (spd (z := .list [f.data, k.data]) dm3 ⟨.bin o f k, wf, rfl, rfl⟩)) (ev_lst dm3 ea_nil (by simp)) (rd_is rd_eqNil rfl))) (fun h => by cases h) fun _ H4 e4 => ?_
      refine Evl.q_when (b := false) (et_test (ev_op (K := g.K) (X := X) (ev_var rfl (at_str okh)) (evs (t := kNot)) (rd_is (rd_eqs (x := o.name) (y := kNot)) (by rw [decide_eq_false n3])))) (fun h => by cases h) fun _ H5 e5 => ?_
      have e35 := e4.trans e5
      have dm5 := dm3.pr e35
      refine Evl.q_when (b := false) (et_test (ev_op (K := g.K) (X := X) (ev_var rfl (at_str okh)) (ev_allsome dm5) (rd_is (rd_inLs (x := o.name)) (by rw [decide_eq_false n2])))) (fun h => by cases h) fun _ H6 e6 => ?_
      have e36 := e35.trans e6
      have dm6 := dm3.pr e36
      refine q_asg (K := g.K) (X := X) (d := .list [.int (o.l : Nat), .int (o.r : Nat)]) (ev_disp4 dm6 (k := S o.name) rfl (fun Y H dm => ev_l2 dm (ev_int (x := 1)) (ev_int (x := 0))) (fun Y H dm => ev_l2 dm (ev_int (x := 1)) (ev_int (x := 0))) (fun Y H dm => ev_l2 dm (ev_int (x := 1)) (ev_int (x := 2))) (fun Y H dm => ev_l2 dm (ev_int (x := 2)) (ev_int (x := 3))) (fun v1 v2 v3 v4 => ?_)) fun sv H7 e7 as => ?_
      · cases o with
        | and => exact ⟨v4, rfl, .inr (.inr (.inr ⟨rfl, rfl⟩))⟩
        | or => exact ⟨v3, rfl, .inr (.inr (.inl ⟨rfl, rfl⟩))⟩
        | imp => exact ⟨v1, rfl, .inl ⟨rfl, rfl⟩⟩
        | iff => exact ⟨v2, rfl, .inr (.inl ⟨rfl, rfl⟩)⟩
      · have e37 := e36.trans e7
        have dm7 := dm3.pr e37
        have a7 := a3.ex e37
        exact s_ret (K := g.K) (X := X) (ev_l3 dm7 (ev_say dm7 (ix1 rfl a7) (ev_op (ev_var rfl as) ev_int (rd_ixL (j := 0) rfl))) (ev_tok (w := o.name) dm7 (ev_var rfl (at_str okh))) (ev_say dm7 (ix2 rfl a7) (ev_op (ev_var rfl as) ev_int (rd_ixL (j := 1) rfl)))) fun v H8 e8 av => q v H8 ((e13.trans e37).trans e8) av
end
end Dy
namespace Dy
open PySem L2 Evl Mi
section
variable {g : G8} {X Y : List Addr} {H H' H1 A : Hp} {p l q : Addr} {σ : L2.St} {Q : VK} {i : Nat} {D : Ends} {tz : TS} {tv tw ts th te tp : TE} {d z : PyData} {v nv : V} {N n : Nat} {ds : List PyData}
def Tm.hd : Tm → T
  | .num _ => kNumber
  | .var _ => kLetter
  | .neg _ => kNeg
  | .bin o _ _ => o.name
  | .pow _ _ => kPower
theorem tdata_hd (f : Tm) : ∃ r, f.data = .tuple (Mi.str (Dy.Tm.hd f) :: r) := by cases f <;> exact ⟨_, rfl⟩
theorem tflat_len (f : Tm) : f.flat.length ≤ 4 := by cases f <;> simp [Tm.flat]
theorem town_of {f : Tm} : (valV (mergeK [] (([("plus", 0), ("minus", 0), ("negative", 0), ("times", 1), ("power", 2)] : List (Str × Int)).map fun x => ((Sum.inr x.1 : Key), V.int x.2))) (.inr (S (Dy.Tm.hd f)))).getD (.int 3) = .int (f.own : Nat) := by
  cases f with
  | num n => rfl
  | var n => rfl
  | neg f => rfl
  | bin o f k => cases o <;> rfl
  | pow f n => rfl
def spreadTR (b : Bool) : List PyData → PyData → Prop := fun ds z => ∃ f : Tm, ∃ l : Nat, ∃ more : Bool, (b = false → l = 0 ∧ more = false) ∧ f.Wf ∧ ds = [f.data, .int l, .bool more] ∧ z = .list ((f.spread l more).map It8.data)
theorem u_law_s_spread_term {spr : Sp} {b : Bool} (hr : b = true → ∀ vs H Q E, pSp g.K (spreadTR false) vs H Q E → spr vs H Q E) :
    ∀ vs H Q E, pSp g.K (spreadTR b) vs H Q E → t_law_s_spread_term g spr (EQ Q) (start ["term", "level", "more", "head", "own", "inner", "sign", "sides"] vs) H := fun vs H Q E ⟨X, ds, z, dm, ax, ⟨f, lv, more, hb0, wf, e, hz⟩, q⟩ => by
  subst e hz
  obtain ⟨v, w, u, rfl, a, aw, au⟩ := ats3 ax
  cases at_int_inv aw
  cases at_bl_inv au
  obtain ⟨rr, hrr⟩ := tdata_hd f
  refine q_asg (ix0 rfl (by rw [← hrr]; exact a)) fun hv H1 e1 ah => ?_
  have okh := at_str_ok ah
  cases at_str_inv ah
  refine q_asg (K := g.K) (X := X) (ev_get2 (kis := [("plus", 0), ("minus", 0), ("negative", 0), ("times", 1), ("power", 2)]) rfl (by decide) town_of) fun ov H2 e2 ao => ?_
  cases at_int_inv ao
  have e12 := e1.trans e2
  have dm2 := dm.pr e12
  have a2 := a.ex e12
  have hown : EvT (tTest (tOp rLtI (tVar 4) (tVar 1))) [some v, some (.int (lv : Nat)), some (.bl more), some (.str (S (Dy.Tm.hd f))), some (.int (f.own : Nat)), none, none, none] H2 (decide (f.own < lv)) := et_test (ev_op (K := g.K) (X := X) (ev_var rfl at_int) (ev_var rfl at_int) rd_ltN)
  have hfl := tflat_len f
  refine Evl.q_when (b := decide (f.own < lv) || more) (Evl.et_or hown fun _ => et_B (ev_var (K := g.K) (X := X) rfl at_bl)) (fun hb H3 e3 => ?_) (fun hb H3 e3 => ?_)
  · have dm3 := dm2.pr e3
    have a3 := a2.ex e3
    have fl : f.spread 0 false = f.flat := by unfold Tm.spread; rw [if_neg (by omega)]; rfl
    refine q_asg (K := g.K) (X := X) (d := .list ((if f.own < lv then [.ter f 0] else f.flat).map It8.data)) (ev_if (EvT.mono e3 hown) (fun ho => ?_) (fun ho => ?_)) fun iv H4 e4 ai => ?_
    · rw [if_pos (of_decide_eq_true ho)]
      exact ev_l1 dm3 (ev_ter dm3 (ev_var rfl a3) ev_i0)
    · have hm : more = true := by rw [ho, Bool.false_or] at hb; exact hb
      have hb1 : b = true := by
        cases b with
        | true => rfl
        | false => rw [(hb0 rfl).2] at hm; cases hm
      have again : SpD g.K X spr [f.data, .int (0 : Nat), .bool false] H3 (.list ((f.spread 0 false).map It8.data)) := fun C x us au Q' E' q' => hr hb1 _ _ _ _ (spd dm3 ⟨f, 0, false, fun _ => ⟨rfl, rfl⟩, wf, rfl, rfl⟩ C x us au Q' E' q')
      rw [if_neg (of_decide_eq_false ho), ← fl]
      exact ev_call (ea_cons (ev_var rfl a3) (ea_cons ev_i0 (ea_cons ev_bl ea_nil))) again
    · have dm4 := dm3.pr e4
      have hlen : (if f.own < lv then [It8.ter f 0] else f.flat).length ≤ 4 := by
        split
        · show 1 ≤ 4; omega
        · exact hfl
      have hs : f.spread lv more = [.tok [40]] ++ (if f.own < lv then [.ter f 0] else f.flat) ++ [.tok [41]] := by
        unfold Tm.spread
        by_cases ho : f.own < lv
        · rw [if_pos ho, if_pos ho]; rfl
        · rw [decide_eq_false ho, Bool.false_or] at hb
          rw [if_neg ho, if_neg ho, if_pos hb]
      rw [hs, List.map_append, List.map_append] at q
      dsimp only
      refine s_ret (K := g.K) (X := X) (ev_op (ev_op (ev_l1 dm4 (ev_tok dm4 (evs (t := [40])))) (ev_var rfl ai) (rd_catL dm4 (by simp; omega))) (ev_l1 dm4 (ev_tok dm4 (evs (t := [41])))) (rd_catL dm4 (by simp; omega))) fun v H5 e5 av => q v H5 ((e12.trans (e3.trans e4)).trans e5) av
  · simp only [Bool.or_eq_false_iff, decide_eq_false_iff_not] at hb
    have hsp : f.spread lv more = f.flat := by unfold Tm.spread; rw [if_neg hb.1, hb.2]; rfl
    rw [hsp] at q
    have dm3 := dm2.pr e3
    have a3 := a2.ex e3
    have e13 := e12.trans e3
    have neq : ∀ {H : Hp} {x : Str} {u : T} {b : Bool}, x = S u → ok x → decide (Dy.Tm.hd f = u) = b → EvT (tTest (tOp rEq (tVar 3) (tC (.str x)))) [some v, some (.int (lv : Nat)), some (.bl more), some (.str (S (Dy.Tm.hd f))), some (.int (f.own : Nat)), none, none, none] H b := fun hx hk hb => et_test (ev_op (K := g.K) (X := X) (ev_var rfl (at_str okh)) (evs hx hk) (rd_is (rd_eqs (x := Dy.Tm.hd f)) (by rw [hb])))
    cases f with
    | num n =>
      have a3 : At g.K X H3 v (.tuple [Mi.str kNumber, .int n]) := a3
      refine Evl.q_when (b := true) (neq rfl (by decide +kernel) (by show decide (kNumber = kNumber) = true; decide)) (fun _ H4 e4 => ?_) (fun h => by cases h)
      have dm4 := dm3.pr e4
      exact s_ret (K := g.K) (X := X) (ev_l1 dm4 (ev_tok dm4 (ev_str1 wf (ix1 rfl (a3.ex e4))))) fun v H5 e5 av => q v H5 ((e13.trans e4).trans e5) av
    | var x =>
      have a3 : At g.K X H3 v (.tuple [Mi.str kLetter, Mi.str x]) := a3
      refine Evl.q_when (b := false) (neq rfl (by decide +kernel) (by show decide (kLetter = kNumber) = false; decide)) (fun h => by cases h) fun _ H4 e4 => ?_
      refine Evl.q_when (b := true) (neq rfl (by decide +kernel) (by show decide (kLetter = kLetter) = true; decide)) (fun _ H5 e5 => ?_) (fun h => by cases h)
      have e35 := e4.trans e5
      have dm5 := dm3.pr e35
      exact s_ret (K := g.K) (X := X) (ev_l1 dm5 (ev_tok dm5 (ix1 rfl (a3.ex e35)))) fun v H6 e6 av => q v H6 ((e13.trans e35).trans e6) av
    | neg b =>
      have a3 : At g.K X H3 v (.tuple [Mi.str kNeg, b.data]) := a3
      refine Evl.q_when (b := false) (neq rfl (by decide +kernel) (by show decide (kNeg = kNumber) = false; decide)) (fun h => by cases h) fun _ H4 e4 => ?_
      refine Evl.q_when (b := false) (neq rfl (by decide +kernel) (by show decide (kNeg = kLetter) = false; decide)) (fun h => by cases h) fun _ H5 e5 => ?_
      refine Evl.q_when (b := true) (neq rfl (by decide +kernel) (by show decide (kNeg = kNeg) = true; decide)) (fun _ H6 e6 => ?_) (fun h => by cases h)
      have e36 := (e4.trans e5).trans e6
      have dm6 := dm3.pr e36
      exact s_ret (K := g.K) (X := X) (ev_l2 dm6 (ev_tok dm6 (evs (t := [45]))) (ev_ter (n := 1) dm6 (ix1 rfl (a3.ex e36)) ev_int)) fun v H7 e7 av => q v H7 ((e13.trans e36).trans e7) av
    | pow b n =>
      have a3 : At g.K X H3 v (.tuple [Mi.str kPower, b.data, .int n]) := a3
      refine Evl.q_when (b := false) (neq rfl (by decide +kernel) (by show decide (kPower = kNumber) = false; decide)) (fun h => by cases h) fun _ H4 e4 => ?_
      refine Evl.q_when (b := false) (neq rfl (by decide +kernel) (by show decide (kPower = kLetter) = false; decide)) (fun h => by cases h) fun _ H5 e5 => ?_
      refine Evl.q_when (b := false) (neq rfl (by decide +kernel) (by show decide (kPower = kNeg) = false; decide)) (fun h => by cases h) fun _ H6 e6 => ?_
      refine Evl.q_when (b := true) (neq rfl (by decide +kernel) (by show decide (kPower = kPower) = true; decide)) (fun _ H7 e7 => ?_) (fun h => by cases h)
      have e37 := ((e4.trans e5).trans e6).trans e7
      have dm7 := dm3.pr e37
      exact s_ret (K := g.K) (X := X) (ev_l3 dm7 (ev_ter (n := 3) dm7 (ix1 rfl (a3.ex e37)) ev_int) (ev_tok dm7 (evs (t := [94]))) (ev_tok dm7 (ev_str1 wf.2 (ix2 rfl (a3.ex e37))))) fun v H8 e8 av => q v H8 ((e13.trans e37).trans e8) av
    | bin o b k =>
      have a3 : At g.K X H3 v (.tuple [Mi.str o.name, b.data, k.data]) := a3
      have n1 : o.name ≠ kNumber ∧ o.name ≠ kLetter ∧ o.name ≠ kNeg ∧ o.name ≠ kPower := by cases o <;> decide
      refine Evl.q_when (b := false) (neq rfl (by decide +kernel) (decide_eq_false n1.1)) (fun h => by cases h) fun _ H4 e4 => ?_
      refine Evl.q_when (b := false) (neq rfl (by decide +kernel) (decide_eq_false n1.2.1)) (fun h => by cases h) fun _ H5 e5 => ?_
      refine Evl.q_when (b := false) (neq rfl (by decide +kernel) (decide_eq_false n1.2.2.1)) (fun h => by cases h) fun _ H6 e6 => ?_
      refine Evl.q_when (b := false) (neq rfl (by decide +kernel) (decide_eq_false n1.2.2.2)) (fun h => by cases h) fun _ H7 e7 => ?_
      have e37 := ((e4.trans e5).trans e6).trans e7
      have dm7 := dm3.pr e37
      refine q_asgG (K := g.K) (X := X) (d := .tuple [Mi.str o.sign, .list [.int (o.l : Nat), .int (o.r : Nat)]]) (ev_disp3 dm7 (k := S o.name) rfl (fun Y H dm => ev_tup dm (ea_cons (evs (t := [43])) (ea_cons (ev_l2 dm (ev_int (x := 0)) (ev_int (x := 1))) ea_nil)) (by show 2 ≤ 100000; decide)) (fun Y H dm => ev_tup dm (ea_cons (evs (t := [45])) (ea_cons (ev_l2 dm (ev_int (x := 0)) (ev_int (x := 1))) ea_nil)) (by show 2 ≤ 100000; decide)) (fun Y H dm => ev_tup dm (ea_cons (evs (t := [42])) (ea_cons (ev_l2 dm (ev_int (x := 1)) (ev_int (x := 2))) ea_nil)) (by show 2 ≤ 100000; decide)) (fun v1 v2 v3 => ?_)) fun sv H8 e8 as => g_tup as rfl fun vs2 as2 => ?_
      · cases o with
        | plus => exact ⟨v1, rfl, .inl ⟨rfl, rfl⟩⟩
        | minus => exact ⟨v2, rfl, .inr (.inl ⟨rfl, rfl⟩)⟩
        | times => exact ⟨v3, rfl, .inr (.inr ⟨rfl, rfl⟩)⟩
      · obtain ⟨w1, w2, rfl, b1, b2⟩ := ats2 as2
        cases at_str_inv b1
        have ok1 := at_str_ok b1
        have e38 := e37.trans e8
        have dm8 := dm3.pr e38
        have a8 := a3.ex e38
        refine ⟨_, _, rfl, _, _, rfl, rfl, ?_⟩
        exact s_ret (K := g.K) (X := X) (ev_l3 dm8 (ev_ter dm8 (ix1 rfl a8) (ev_op (ev_var rfl b2) ev_int (rd_ixL (j := 0) rfl))) (ev_tok (w := o.sign) dm8 (ev_var rfl (at_str ok1))) (ev_ter dm8 (ix2 rfl a8) (ev_op (ev_var rfl b2) ev_int (rd_ixL (j := 1) rfl)))) fun v H9 e9 av => q v H9 ((e13.trans e38).trans e9) av
/-! the tokens -/
theorem r_cat {ta tb : TE} {es : List PyData} (ha : EvD g.K X ta σ H (.list ds)) (hb : EvD g.K X tb σ H (.list es)) (hn : ds.length + es.length ≤ 1000000) (k : ∀ a H', H a = none → Ex H H' → LAt g.K (a :: X) H' a (ds ++ es) → Q (.ref a) H') : tOp rCat ta tb σ H Q := ha H (Ex.refl _) _ fun x H1 e1 ax => hb H1 e1 _ fun y H2 e2 ay => by
  obtain ⟨a, vs, rfl, na, ha, a1⟩ := at_lst_inv (ax.ex e2)
  obtain ⟨b, ws, rfl, nb, hb, b1⟩ := at_lst_inv ay
  refine ⟨a, b, vs, ws, rfl, rfl, ha, hb, ?_, fun p hp => k p _ (fresh_back (e1.trans e2) hp) ((e1.trans e2).trans (Ex.new hp)) (LAt.new (a1.app b1) hp)⟩
  rw [a1.len, b1.len]; exact Nat.le_trans hn (by decide)
theorem LAt.less {w : Addr} (h : LAt g.K (w :: Y) H l ds) (hl : l ∈ Y) : Dy.LAt g.K Y H l ds := by
  obtain ⟨_, vs, h2, h3⟩ := h
  exact ⟨hl, vs, h2, h3.less fun a m => List.mem_cons_of_mem _ m⟩
theorem PenAt.more2 {w : Addr} {u : HO} (h : PenAt g X H p N) (hw : H w = none) : PenAt g (w :: X) (upd H w u) p N := by
  obtain ⟨vc, cells, a, n, d, f, hp, ac, r⟩ := h.ex
  exact ⟨List.mem_cons_of_mem _ h.px, h.dm.more (Ex.new hw) (by rw [upd_same]; simp), vc, cells, a, n, d, f, Ex.new hw _ _ hp, (ac.more hw).pr (pr_upd List.mem_cons_self), r⟩
/-- what was not there may change, too -/
theorem PenAt.new {w : Addr} (h : PenAt g X H p N) (hw : H w = none) (e : Ex H H') (hd : H' w ≠ none) : PenAt g (w :: X) H' p N := by
  obtain ⟨vc, cells, a, n, d, f, hp, ac, r⟩ := h.ex
  exact ⟨List.mem_cons_of_mem _ h.px, h.dm.more e hd, vc, cells, a, n, d, f, e _ _ hp, (ac.more hw).ex e, r⟩
theorem LAt.new2 {w : Addr} (h : LAt g.K Y H l ds) (hw : H w = none) (e : Ex H H') : LAt g.K (w :: Y) H' l ds := by
  obtain ⟨h1, vs, h2, h3⟩ := h
  exact ⟨List.mem_cons_of_mem _ h1, vs, e _ _ h2, (h3.more hw).ex e⟩
theorem u_law_s_tokens : ∀ vs H Q E, sp_law_s_tokens g vs H Q E → t_law_s_tokens g (EQ Q) (start ["tree", "pen", "found", "waiting", "kind", "here", "level", "more"] vs) H := fun vs H Q E ⟨X, p, v, f, N, e, a, wf, hz, hN, h, q⟩ => by
  subst e
  refine sq ⟨by decide, fun l hl => ?_⟩
  have hlX : l ∉ X := fun m => h.dm l m hl
  have hpl : p ≠ l := fun z => hlX (by rw [← z]; exact h.px)
  have hlZ : l ∈ l :: X := List.mem_cons_self
  have hpZ : p ∈ l :: X := List.mem_cons_of_mem _ h.px
  have hp1 := h.more (xs := []) hl
  have a1 : At g.K (l :: X) (upd H l (.lst [])) v f.data := (a.more hl).pr (pr_upd List.mem_cons_self)
  have hl1 : LAt g.K (l :: X) (upd H l (.lst [])) l (([] : List T).map Mi.str) := LAt.new .nil hl
  show tLst _ _ (upd H l (.lst [])) _
  refine r_lst (K := g.K) (X := l :: X) (ea_cons (ev_say (n := 0) hp1.dm (ev_var rfl a1) ev_int) ea_nil) (by show 1 ≤ 100000; decide) fun w H2 hw e2 lw => ⟨_, _, rfl, ?_⟩
  have hw0 : H w = none := fresh_back (Ex.new hl) hw
  have hwl : w ≠ l := fun z => by rw [z, upd_same] at hw; cases hw
  dsimp only
  refine q_loop (fun m σ' C => ∃ its : List It8, ∃ ws : List T, ∃ w x4 x5 x6 x7, σ' = [some v, some (.ref p), some (.ref l), some (.ref w), x4, x5, x6, x7] ∧ H w = none ∧ w ≠ l ∧ Pr [p] H C ∧ PenAt g (w :: l :: X) C p (N + (1440 - wts its)) ∧ LAt g.K (w :: l :: X) C l (ws.map Mi.str) ∧ LAt g.K (w :: l :: X) C w (its.reverse.map It8.data) ∧ (∀ i ∈ its, i.Ok) ∧ (∀ us, Yl its us → STok 0 f (ws ++ us)) ∧ wts its + ws.length ≤ 1440 ∧ m = wts its) _
    ⟨[.say f 0], [], w, none, none, none, none, rfl, hw0, hwl, (Ex.pr (Ex.new hl)).trans (Ex.pr e2), (hp1.new hw e2 lw.dom).up (by omega), hl1.new2 hw e2, lw, by simpa [It8.Ok] using wf, fun us hy => by
      cases hy with
      | say h1 h2 => cases h2; rw [List.append_nil]; exact h1, by show 20 * f.sz + 0 + 0 + 0 ≤ 1440; omega, rfl⟩ fun m σ' C ⟨its, ws, w, x4, x5, x6, x7, hσ, hw0, hwl, PC, hpC, hlC, hwC, hok, hyl, hwt, hm⟩ => ?_
  subst hσ
  have hwX : w ∉ l :: X := fun m => by
    rcases List.mem_cons.mp m with z | z
    · exact hwl z
    · exact h.dm w z hw0
  have hpw : p ≠ w := fun z => hwX (by rw [← z]; exact hpZ)
  have hlen : its.length ≤ 1440 := by have := wts_len its; omega
  have evw : At g.K (l :: X) C (.ref w) (.list (its.reverse.map It8.data)) := by
    obtain ⟨_, us, hu, au⟩ := hwC
    exact at_lst hwX hu (au.less fun a m => List.mem_cons_of_mem _ m)
  have dmZ : Dom (l :: X) C := fun a m => hpC.dm a (List.mem_cons_of_mem _ m)
  refine ⟨!decide (its.reverse.map It8.data = []), et_test (ev_op (ev_var rfl evw) (ev_lst dmZ ea_nil (by simp)) rd_neNil), fun hb C1 e1 => ?_, fun hb C1 e1 => ?_⟩
  · cases its with
    | nil => simp at hb
    | cons it its =>
      have hwC1 : LAt g.K (w :: l :: X) C1 w (its.reverse.map It8.data ++ [it.data]) := by
        have := hwC.ex e1
        rw [List.reverse_cons, List.map_append] at this
        exact this
      have hit := wt_pos it
      have hwt2 : wts its + it.wt + ws.length ≤ 1440 := by
        have : wts (it :: its) = it.wt + wts its := rfl
        omega
      have hm2 : m = it.wt + wts its := hm
      refine q_asgT (r_pop rfl hwC1 fun v2 C2 p2 hw2 av2 => ?_)
      have hpC2 := (hpC.exx e1).prl p2 List.mem_cons_self hpw hw2.dom
      have hlC2 : LAt g.K (w :: l :: X) C2 l (ws.map Mi.str) := (hlC.ex e1).pr p2 (s1 List.mem_cons_self) fun m => hwl (List.mem_singleton.mp m).symm
      have PC2 : Pr [p] H C2 := pr_fresh (PC.trans (Ex.pr e1)) p2 hw0
      have hok2 : ∀ i ∈ its, i.Ok := fun i hi => hok i (List.mem_cons_of_mem _ hi)
      have hitok := hok it List.mem_cons_self
      cases it with
      | tok wd =>
        have av2 : At g.K (w :: l :: X) C2 v2 (.tuple [Mi.str [116, 111, 107, 101, 110], Mi.str wd, .int 0]) := av2
        refine g_tup av2 rfl fun vs3 as3 => ?_
        obtain ⟨w1, w2, w3, rfl, b1, b2, b3⟩ := ats3 as3
        cases at_str_inv b1
        refine ⟨_, _, rfl, _, _, rfl, _, _, rfl, rfl, ?_⟩
        refine Evl.q_when (b := true) (et_test (ev_op (K := g.K) (X := w :: l :: X) (ev_var rfl b1) (evs (t := [116, 111, 107, 101, 110])) (rd_is (rd_eqs (x := [116, 111, 107, 101, 110]) (y := [116, 111, 107, 101, 110])) rfl))) (fun _ C3 e3 => ?_) (fun h => by cases h)
        refine q_drop (e_app rfl (hlC2.ex e3) (by rw [List.length_map]; omega) (ev_var rfl (b2.ex e3)) fun C4 p4 hl4 => ?_)
        refine ⟨wts its, by rw [hm2]; show wts its < 1 + wts its; omega, its, ws ++ [wd], w, _, _, _, _, rfl, hw0, hwl, pr_fresh (PC2.trans (Ex.pr e3)) p4 hl, ((hpC2.exx e3).prl p4 (List.mem_cons_of_mem _ hlZ) hpl hl4.dom).up (by omega), by rw [List.map_append]; exact hl4, (hw2.ex e3).pr p4 (s1 (List.mem_cons_of_mem _ hlZ)) (fun m => hwl (List.mem_singleton.mp m)), hok2, fun us hy => ?_, by rw [List.length_append]; show wts its + (ws.length + 1) ≤ 1440; have : (It8.tok wd).wt = 1 := rfl; omega, rfl⟩
        have := hyl (wd :: us) (.tok hy)
        rw [List.append_assoc]
        exact this
      | say k n =>
        have av2 : At g.K (w :: l :: X) C2 v2 (.tuple [Mi.str [115, 97, 121, 105, 110, 103], k.data, .int (n : Nat)]) := av2
        refine g_tup av2 rfl fun vs3 as3 => ?_
        obtain ⟨w1, w2, w3, rfl, b1, b2, b3⟩ := ats3 as3
        cases at_str_inv b1
        refine ⟨_, _, rfl, _, _, rfl, _, _, rfl, rfl, ?_⟩
        refine Evl.q_when (b := false) (et_test (ev_op (K := g.K) (X := w :: l :: X) (ev_var rfl b1) (evs (t := [116, 111, 107, 101, 110])) (rd_is (rd_eqs (x := [115, 97, 121, 105, 110, 103]) (y := [116, 111, 107, 101, 110])) rfl))) (fun h => by cases h) fun _ C3 e3 => ?_
        have hwk : (It8.say k n).wt = 20 * k.sz + (if n = 0 then 0 else 4) := rfl
        refine q_asgR (m_draw (m := 6) rfl (hpC2.exx e3) ev_int (by omega) (by omega) (by omega) fun C4 d4 p4 hd4 hp4 => ⟨rfl, ?_⟩)
        have hp4Y : p ∈ w :: l :: X := List.mem_cons_of_mem _ hpZ
        generalize hmore : decide (V.int (d4 : Nat) = V.int 0) = more
        have b1' := (b1.ex e3).pr (p4.lift hp4Y)
        have b2' := (b2.ex e3).pr (p4.lift hp4Y)
        have b3' := (b3.ex e3).pr (p4.lift hp4Y)
        have hw4 := (hw2.ex e3).prp p4 hp4Y hpw
        have hl4 := (hlC2.ex e3).prp p4 hp4Y hpl
        refine Evl.s_if (b := true) (et_test (ev_op (K := g.K) (X := w :: l :: X) (ev_var rfl b1') (evs (t := [115, 97, 121, 105, 110, 103])) (rd_is (rd_eqs (x := [115, 97, 121, 105, 110, 103]) (y := [115, 97, 121, 105, 110, 103])) rfl))) (fun _ C5 e5 => ?_) (fun h => by cases h)
        have dm5 : Dom (l :: X) C5 := fun a m => (hp4.dm.pr e5) a (List.mem_cons_of_mem _ m)
        have evw5 : At g.K (l :: X) C5 (.ref w) (.list (its.reverse.map It8.data)) := by
          obtain ⟨_, us, hu, au⟩ := hw4.ex e5
          exact at_lst hwX hu (au.less fun a m => List.mem_cons_of_mem _ m)
        have ls : ∀ a ∈ l :: X, a ∈ w :: l :: X := fun a m => List.mem_cons_of_mem _ m
        have hsw := spread_wt k n more
        have hsl := wts_len (k.spread n more)
        have hil := wts_len its
        refine r_cat (X := l :: X) (ev_var rfl evw5) (ev_revL dm5 (ev_call (ea_cons (ev_var rfl ((b2'.ex e5).less ls)) (ea_cons (ev_var rfl ((b3'.ex e5).less ls)) (ea_cons (ev_var rfl at_bl) ea_nil))) (spd dm5 ⟨k, n, more, hitok, rfl, rfl⟩))) (by rw [List.length_map, List.length_reverse, List.length_reverse, List.length_map]; omega) fun w6 C6 hw6 e6 lw6 => ?_
        have hw60 : H w6 = none := by
          cases hh : H w6 with
          | none => rfl
          | some u =>
            exfalso
            have P5 : Pr [p] H C5 := ((PC2.trans (Ex.pr e3)).trans p4).trans (Ex.pr e5)
            by_cases hmm : w6 ∈ [p]
            · exact dm5 w6 (by rw [List.mem_singleton.mp hmm]; exact hpZ) hw6
            · rw [P5 w6 u hmm hh] at hw6; cases hw6
        have hw6l : w6 ≠ l := fun z => dm5 w6 (by rw [z]; exact hlZ) hw6
        have hpZ5 : PenAt g (l :: X) C5 p (N + (1440 - wts (It8.say k n :: its)) + 1) := (hp4.exx e5).less hpZ
        refine ⟨wts (k.spread n more ++ its), by rw [hm2, wts_app]; omega, k.spread n more ++ its, ws, w6, _, _, _, _, rfl, hw60, hw6l, (((PC2.trans (Ex.pr e3)).trans p4).trans (Ex.pr e5)).trans (Ex.pr e6), (hpZ5.new hw6 e6 lw6.dom).up (by rw [wts_app]; have : wts (It8.say k n :: its) = (It8.say k n).wt + wts its := rfl; omega), ((hl4.ex e5).less hlZ).new2 hw6 e6, by rw [List.reverse_append, List.map_append, List.map_reverse (f := It8.data) (l := k.spread n more)]; exact lw6, fun i hi => (List.mem_append.mp hi).elim (spread_ok hitok n more i) (hok2 i), fun us hy => hyl us hy.open_say, by rw [wts_app]; omega, rfl⟩
      | ter k n =>
        have av2 : At g.K (w :: l :: X) C2 v2 (.tuple [Mi.str [116, 101, 114, 109], k.data, .int (n : Nat)]) := av2
        refine g_tup av2 rfl fun vs3 as3 => ?_
        obtain ⟨w1, w2, w3, rfl, b1, b2, b3⟩ := ats3 as3
        cases at_str_inv b1
        refine ⟨_, _, rfl, _, _, rfl, _, _, rfl, rfl, ?_⟩
        refine Evl.q_when (b := false) (et_test (ev_op (K := g.K) (X := w :: l :: X) (ev_var rfl b1) (evs (t := [116, 111, 107, 101, 110])) (rd_is (rd_eqs (x := [116, 101, 114, 109]) (y := [116, 111, 107, 101, 110])) rfl))) (fun h => by cases h) fun _ C3 e3 => ?_
        refine q_asgR (m_draw (m := 6) rfl (hpC2.exx e3) ev_int (by omega) (by omega) (by omega) fun C4 d4 p4 hd4 hp4 => ⟨rfl, ?_⟩)
        have hp4Y : p ∈ w :: l :: X := List.mem_cons_of_mem _ hpZ
        generalize hmore : decide (V.int (d4 : Nat) = V.int 0) = more
        have b1' := (b1.ex e3).pr (p4.lift hp4Y)
        have b2' := (b2.ex e3).pr (p4.lift hp4Y)
        have b3' := (b3.ex e3).pr (p4.lift hp4Y)
        have hw4 := (hw2.ex e3).prp p4 hp4Y hpw
        have hl4 := (hlC2.ex e3).prp p4 hp4Y hpl
        refine Evl.s_if (b := false) (et_test (ev_op (K := g.K) (X := w :: l :: X) (ev_var rfl b1') (evs (t := [115, 97, 121, 105, 110, 103])) (rd_is (rd_eqs (x := [116, 101, 114, 109]) (y := [115, 97, 121, 105, 110, 103])) rfl))) (fun h => by cases h) fun _ C5 e5 => ?_
        have dm5 : Dom (l :: X) C5 := fun a m => (hp4.dm.pr e5) a (List.mem_cons_of_mem _ m)
        have evw5 : At g.K (l :: X) C5 (.ref w) (.list (its.reverse.map It8.data)) := by
          obtain ⟨_, us, hu, au⟩ := hw4.ex e5
          exact at_lst hwX hu (au.less fun a m => List.mem_cons_of_mem _ m)
        have ls : ∀ a ∈ l :: X, a ∈ w :: l :: X := fun a m => List.mem_cons_of_mem _ m
        have hsw := tspread_wt k n more
        have hsl := wts_len (k.spread n more)
        have hil := wts_len its
        refine r_cat (X := l :: X) (ev_var rfl evw5) (ev_revL dm5 (ev_call (ea_cons (ev_var rfl ((b2'.ex e5).less ls)) (ea_cons (ev_var rfl ((b3'.ex e5).less ls)) (ea_cons (ev_var rfl at_bl) ea_nil))) (spd dm5 ⟨k, n, more, hitok, rfl, rfl⟩))) (by rw [List.length_map, List.length_reverse, List.length_reverse, List.length_map]; omega) fun w6 C6 hw6 e6 lw6 => ?_
        have hw60 : H w6 = none := by
          cases hh : H w6 with
          | none => rfl
          | some u =>
            exfalso
            have P5 : Pr [p] H C5 := ((PC2.trans (Ex.pr e3)).trans p4).trans (Ex.pr e5)
            by_cases hmm : w6 ∈ [p]
            · exact dm5 w6 (by rw [List.mem_singleton.mp hmm]; exact hpZ) hw6
            · rw [P5 w6 u hmm hh] at hw6; cases hw6
        have hw6l : w6 ≠ l := fun z => dm5 w6 (by rw [z]; exact hlZ) hw6
        have hpZ5 : PenAt g (l :: X) C5 p (N + (1440 - wts (It8.ter k n :: its)) + 1) := (hp4.exx e5).less hpZ
        refine ⟨wts (k.spread n more ++ its), by rw [hm2, wts_app]; omega, k.spread n more ++ its, ws, w6, _, _, _, _, rfl, hw60, hw6l, (((PC2.trans (Ex.pr e3)).trans p4).trans (Ex.pr e5)).trans (Ex.pr e6), (hpZ5.new hw6 e6 lw6.dom).up (by rw [wts_app]; have : wts (It8.ter k n :: its) = (It8.ter k n).wt + wts its := rfl; omega), ((hl4.ex e5).less hlZ).new2 hw6 e6, by rw [List.reverse_append, List.map_append, List.map_reverse (f := It8.data) (l := k.spread n more)]; exact lw6, fun i hi => (List.mem_append.mp hi).elim (tspread_ok hitok n more i) (hok2 i), fun us hy => hyl us hy.open_ter, by rw [wts_app]; omega, rfl⟩
  · have hnil : its = [] := by simpa using hb
    subst hnil
    have hs := hyl [] .nil
    rw [List.append_nil] at hs
    have hl2 := hlC.ex e1
    refine ⟨_, rfl, q C1 _ ws (PC.trans (Ex.pr e1)) ((((hpC.exx e1).less hpZ).less h.px).up (by omega)) hs (by omega) ?_⟩
    obtain ⟨_, us, hu, au⟩ := hl2
    exact at_lst hlX hu (au.less fun a m => List.mem_cons_of_mem _ (List.mem_cons_of_mem _ m))
end
end Dy
namespace Mi
def joinPs : List T → List (T × T)
  | [] => []
  | w :: r => ([], w) :: r.map fun w => ([32], w)
theorem joinL_tail : ∀ (r : List T) (w : T), TL.joinL [32] (w :: r) = w ++ mkT (r.map fun w => ([32], w))
  | [], w => by show w = w ++ []; rw [List.append_nil]
  | x :: r, w => by
    show w ++ ([32] ++ TL.joinL [32] (x :: r)) = w ++ ([32] ++ (x ++ mkT (r.map fun w => ([32], w))))
    rw [joinL_tail r x]
theorem joinL_mkT : ∀ ws : List T, TL.joinL [32] ws = mkT (joinPs ws)
  | [] => rfl
  | w :: r => by rw [joinL_tail]; rfl
theorem joinPs_snd : ∀ ws : List T, (joinPs ws).map (·.2) = ws
  | [] => rfl
  | w :: r => by show w :: (r.map _).map _ = _; rw [List.map_map]; simp [Function.comp_def]
theorem gapC_blank : ∀ (r : List T) (p : Option T), GapC p (r.map fun w => (([32] : T), w))
  | [], p => trivial
  | w :: r, p => ⟨by intro c hc; rw [List.mem_singleton.mp hc]; rfl, fun _ _ _ => by simp, gapC_blank r (some w)⟩
theorem joinPs_gap : ∀ ws : List T, GapC none (joinPs ws)
  | [] => trivial
  | w :: r => ⟨(by simp), (fun q h => by cases h), gapC_blank r (some w)⟩
theorem len_mkT : ∀ (ps : List (T × T)) (k : Nat), (∀ x ∈ ps, x.1.length + x.2.length ≤ k) → (mkT ps).length ≤ k * ps.length
  | [], k, _ => by simp [mkT]
  | (g, w) :: r, k, h => by
    have h1 := h _ List.mem_cons_self
    have h2 := len_mkT r k fun x hx => h x (List.mem_cons_of_mem _ hx)
    show (g ++ (w ++ mkT r)).length ≤ k * (r.length + 1)
    rw [List.length_append, List.length_append, Nat.mul_add]
    have h1 : g.length + w.length ≤ k := h1
    omega
theorem lst_take : ∀ (ws : List T) (p : Option T) (i : Nat) (h : i < ws.length), lst p (ws.take (i + 1)) = some ws[i]
  | w :: ws, p, 0, h => rfl
  | w :: ws, p, i + 1, h => lst_take ws (some w) i (by simpa using h)
end Mi
namespace Dy
open PySem L2 Evl Mi
section
variable {g : G8} {X Y : List Addr} {H H' H1 A : Hp} {p l q : Addr} {σ : L2.St} {Q : VK} {i : Nat} {D : Ends} {tz : TS} {tv tw ts th te tp : TE} {d z : PyData} {v nv : V} {N n : Nat} {ds : List PyData}
theorem alnum : (("abcdefghijklmnopqrstuvwxyz0123456789" : Str)) = S (LETS ++ FIGS) := rfl
theorem rd_an {K : PySem.W.Frag} {c : Nat} : RD K X rInS (Mi.str [c]) (Mi.str (LETS ++ FIGS)) H (.bool (an c)) := rd_is rd_inC (congrArg PyData.bool (congrFun isLF_eq c))
theorem rd_ixM {K : PySem.W.Frag} {t : T} {c : Nat} (hl : t.length ≤ 10000) (h : t.getLast? = some c) : RD K X (rIx K) (Mi.str t) (.int (-1)) H (Mi.str [c]) := RD.of fun H1 _ a b ax ay Q q =>
  .inr (.inr ⟨S t, -1, c, at_str_inv ax, at_int_inv ay, by rw [S_len]; exact Nat.le_trans hl (by decide), atI_m1 h, q _ (at_str (ok_S.mpr fun x hx => by
    have h1 := ok_S.mp (at_str_ok ax)
    rcases List.mem_cons.mp hx with e | e
    · rw [e]; exact h1 c (List.mem_of_getLast? h)
    · cases e))⟩)
theorem u_law_s_joined_text : ∀ vs H Q E, sp_law_s_joined_text g vs H Q E → t_law_s_joined_text g (EQ Q) (start ["tokens", "pen", "text", "k", "token", "ahead", "is_needed"] vs) H := fun vs H Q E ⟨X, p, tv, ws, N, e, a, hws, hlen, hN, h, q⟩ => by
  subst e
  have hoks : ∀ w ∈ ws, ok (S w) := fun w hw => by
    obtain ⟨b, us, _, _, _, a1⟩ := at_lst_inv a
    obtain ⟨k, hk⟩ := List.getElem?_of_mem hw
    obtain ⟨u, _, au⟩ := a1.get (i := k) (d := Mi.str w) (by rw [List.getElem?_map, hk]; rfl)
    exact at_str_ok au
  refine q_asg (K := g.K) (X := X) (d := Mi.str []) (evs (t := [])) fun w0 H1 e1 aw0 => ?_
  cases at_str_inv aw0
  have a1 := a.ex e1
  refine sq ⟨_, rfl, ?_⟩
  obtain ⟨ta, tvs, htv, hnta, hta, ata⟩ := at_lst_inv a1
  subst htv
  have hvl : tvs.length = ws.length := by rw [ata.len, List.length_map]
  refine ⟨ta, tvs, rfl, sq_of hta, ?_⟩
  refine ⟨fun i m σ' C => i ≤ ws.length ∧ m = ws.length - i ∧ ∃ x3 x4 x5 x6 ps, σ' = [some (.ref ta), some (.ref p), some (.str (S (mkT ps))), x3, x4, x5, x6] ∧ Pr [p] H C ∧ PenAt g X C p (N + i) ∧ At g.K X C (.ref ta) (.list (ws.map Mi.str)) ∧ C ta = some (.lst tvs) ∧ ps.map (·.2) = ws.take i ∧ GapC none ps ∧ ok (S (mkT ps)) ∧ (∀ x ∈ ps, x.1.length + x.2.length ≤ 12) ∧ ps.length = i,
    ⟨_, Nat.zero_le _, rfl, none, none, none, none, [], rfl, Ex.pr e1, h.exx e1, a1, hta, by simp, trivial, by decide +kernel, by simp, rfl⟩, fun i m σ' C ⟨hi, hm, x3, x4, x5, x6, ps, hσ, PC, hpC, aC, htC, hps, hgap, hok, hpl, hpsl⟩ => ?_⟩
  subst hσ
  have hmk := len_mkT ps 12 hpl
  rw [hpsl] at hmk
  by_cases hil : i = ws.length
  · refine .inl ⟨⟨tvs, sq_of htC, by omega⟩, ?_⟩
    rw [hil, List.take_length] at hps
    dsimp only
    -- the end of the text
    refine q_asgR ⟨_, rfl, ?_⟩
    show tCall (sp_law_pick g) [] E0 _ _ C _
    refine m_pick (ds := [[], [], [32]].map Mi.str) rfl hpC (ev_l3 hpC.dm (evs (t := [])) (evs (t := [])) (evs (t := [32]))) (by simp) (by simp) (by omega) fun C2 u d2 p2 hm2 hp2 au => ?_
    obtain ⟨tail, htl, rfl⟩ := List.mem_map.mp hm2
    cases at_str_inv au
    have htb : (∀ c ∈ tail, isB c = true) ∧ tail.length ≤ 1 := (by decide : ∀ tail ∈ ([[], [], [32]] : List T), (∀ c ∈ tail, isB c = true) ∧ tail.length ≤ 1) tail htl
    refine ⟨S (mkT ps), S tail, rfl, rfl, ?_, ?_⟩
    · rw [S_len, S_len]
      have : (100000 : Nat) ≤ sizeLine := by decide
      omega
    rw [S_app]
    have hok2 : ok (S (mkT ps ++ tail)) := ok_S.mpr fun c hc => (List.mem_append.mp hc).elim (ok_S.mp hok c) (ok_S.mp (at_str_ok au) c)
    have hl2 : (mkT ps ++ tail).length ≤ 100000 := by rw [List.length_append]; omega
    refine draw_if (m := 0) (b := decide ((mkT ps ++ tail).length < 401)) (et_test (ev_op (K := g.K) (X := X) (ev_cb (ea_cons (ev_var rfl (at_str hok2)) ea_nil) (rc_lenS (by omega))) ev_int (rd_ltN (n := 401)))) (fun hb C3 e3 => ?_) (fun hb C3 e3 => ?_)
    · exact ⟨_, rfl, q C3 ps tail ((PC.trans p2).trans (Ex.pr e3)) ((hp2.exx e3).up (by omega)) hps hgap htb.1 hok2 hl2⟩
    · refine ⟨⟨_, rfl⟩, _, rfl, ?_⟩
      have htX : ta ∉ [p] := fun m => hnta (by rw [List.mem_singleton.mp m]; exact h.px)
      have ht3 : C3 ta = some (.lst tvs) := e3 _ _ (p2 _ _ htX htC)
      have hvs : tvs = (ws.map S).map V.str := by
        have : ws.map Mi.str = (ws.map S).map PyData.str := by rw [List.map_map]; rfl
        rw [this] at ata
        exact ats_strs ata
      have hsum : ∀ l : List T, (∀ w ∈ l, w.length ≤ 8) → (((l.map S).map (·.length)).sum) ≤ 8 * l.length := by
        intro l
        induction l with
        | nil => intro _; simp
        | cons w l ih =>
          intro hl
          have h1 := hl w List.mem_cons_self
          have h2 := ih fun x hx => hl x (List.mem_cons_of_mem _ hx)
          simp only [List.map_cons, List.sum_cons, List.length_cons, S_len]
          omega
      have hs8 := hsum ws fun w hw => (hws w hw).2
      refine ⟨" ", ta, ws.map S, rfl, rfl, .inl (sq_of (by rw [← hvs]; exact ht3)), ?_, ?_⟩
      · rw [List.length_map]
        show _ + ws.length * 1 ≤ _
        omega
      · have ej : Txt.join (" " : Str) (ws.map S) = S (mkT (joinPs ws) ++ []) := by
          rw [List.append_nil, ← joinL_mkT]
          exact SX.join_S [32] ws
        rw [ej]
        have hj12 : ∀ x ∈ joinPs ws, x.1.length + x.2.length ≤ 9 := by
          intro x hx
          cases ws with
          | nil => cases hx
          | cons w r =>
            rcases List.mem_cons.mp hx with z | z
            · subst z
              have := (hws w List.mem_cons_self).2
              show 0 + w.length ≤ 9; omega
            · obtain ⟨y, hy, rfl⟩ := List.mem_map.mp z
              have := (hws y (List.mem_cons_of_mem _ hy)).2
              show 1 + y.length ≤ 9; omega
        have hjl := len_mkT (joinPs ws) 9 hj12
        have hjn : (joinPs ws).length = ws.length := by
          have := congrArg List.length (joinPs_snd ws)
          rw [List.length_map] at this
          exact this
        rw [hjn] at hjl
        have hokj : ∀ ps : List (T × T), (∀ x ∈ ps, ok (S x.1) ∧ ok (S x.2)) → ok (S (mkT ps)) := by
          intro ps
          induction ps with
          | nil => intro _; decide +kernel
          | cons x r ih =>
            intro hx
            obtain ⟨g', w'⟩ := x
            have h1 := hx _ List.mem_cons_self
            have h2 := ih fun y hy => hx y (List.mem_cons_of_mem _ hy)
            exact ok_S.mpr fun c hc => by
              rcases List.mem_append.mp hc with z | z
              · exact ok_S.mp h1.1 c z
              · rcases List.mem_append.mp z with z | z
                · exact ok_S.mp h1.2 c z
                · exact ok_S.mp h2 c z
        refine q C3 (joinPs ws) [] ((PC.trans p2).trans (Ex.pr e3)) ((hp2.exx e3).up (by omega)) (joinPs_snd ws) (joinPs_gap ws) (by simp) ?_ (by rw [List.append_nil]; omega)
        rw [List.append_nil]
        refine hokj _ fun x hx => ?_
        cases ws with
        | nil => cases hx
        | cons w r =>
          rcases List.mem_cons.mp hx with z | z
          · subst z; exact ⟨(by decide +kernel : ok (S [])), hoks w List.mem_cons_self⟩
          · obtain ⟨y, hy, rfl⟩ := List.mem_map.mp z
            exact ⟨(by decide +kernel : ok (S [32])), hoks y (List.mem_cons_of_mem _ hy)⟩
  · have hlt : i < ws.length := by omega
    have hlt2 : i < tvs.length := by omega
    refine .inr ⟨⟨tvs, _, sq_of htC, List.getElem?_eq_getElem hlt2⟩, fun σ3 C3 => ∃ x3 x4 x5 x6 ps, σ3 = [some (.ref ta), some (.ref p), some (.str (S (mkT ps))), x3, x4, x5, x6] ∧ Pr [p] H C3 ∧ PenAt g X C3 p (N + (i + 1)) ∧ At g.K X C3 (.ref ta) (.list (ws.map Mi.str)) ∧ C3 ta = some (.lst tvs) ∧ ps.map (·.2) = ws.take (i + 1) ∧ GapC none ps ∧ ok (S (mkT ps)) ∧ (∀ x ∈ ps, x.1.length + x.2.length ≤ 12) ∧ ps.length = i + 1, fun σ3 C3 hh => ⟨ws.length - (i + 1), by omega, by omega, rfl, hh⟩, fun y C1 ⟨tt, tx, hy, htt, hC1, htx⟩ => ?_⟩
    subst hy hC1
    have htx1 := htx tvs (sq_of htC)
    have e1' : Ex C (upd C tt (.tup [.int (i : Nat), tx])) := Ex.new htt
    have hwi : ws[i]? = some ws[i] := List.getElem?_eq_getElem hlt
    obtain ⟨tx', htx', atx⟩ := ata.get (i := i) (d := Mi.str ws[i]) (by rw [List.getElem?_map, hwi]; rfl)
    have : tx = .str (S ws[i]) := by
      rw [htx'] at htx1
      cases htx1
      exact at_str_inv atx
    subst this
    have okw := hoks ws[i] (List.getElem_mem hlt)
    obtain ⟨htok, htl8⟩ := hws ws[i] (List.getElem_mem hlt)
    obtain ⟨hc, hr, hce, _⟩ := tok_head htok
    have ap : At g.K X (upd C tt (.tup [.int (i : Nat), .str (S ws[i])])) (.ref tt) (.tuple [.int (i : Nat), Mi.str ws[i]]) := at_tupN hpC.dm htt (.cons at_int (.cons (at_str okw) .nil))
    refine g_tup ap rfl fun vs2 as2 => ?_
    obtain ⟨w1, w2, rfl, b1, b2⟩ := ats2 as2
    cases at_int_inv b1
    cases at_str_inv b2
    refine ⟨_, _, rfl, _, _, rfl, rfl, ?_⟩
    have hp1 := hpC.exx e1'
    have aC1 := aC.ex e1'
    generalize hZ : upd C tt (.tup [.int (i : Nat), .str (S ws[i])]) = Z at *
    -- the token ahead
    have hah : ∃ ah : T, ok (S ah) ∧ ah.length ≤ 8 ∧ (i = 0 → ah = []) ∧ (∀ hi0 : 0 < i, ah = ws[i - 1]'(by omega)) := by
      by_cases h0 : i = 0
      · exact ⟨[], by decide +kernel, by simp, fun _ => rfl, fun h => absurd h (by omega)⟩
      · exact ⟨ws[i - 1]'(by omega), hoks _ (List.getElem_mem _), (hws _ (List.getElem_mem _)).2, fun h => absurd h h0, fun _ => rfl⟩
    obtain ⟨ah, okah, ahl, ah0, ah1⟩ := hah
    refine q_asg (K := g.K) (X := X) (d := Mi.str ah) (ev_if (b := decide (0 < i)) (et_test (ev_op (K := g.K) (X := X) (ev_var rfl at_int) ev_int rd_gt0)) (fun hb => ?_) (fun hb => ?_)) fun av C2 e2 aav => ?_
    · have hb := of_decide_eq_true hb
      rw [ah1 hb]
      have ei : ((i : Int) - 1) = ((i - 1 : Nat) : Int) := by omega
      exact ev_op (ev_var rfl aC1) (evD_is (ev_op (ev_var rfl at_int) ev_int rd_sub) (by rw [ei])) (rd_ixL (by rw [List.getElem?_map, List.getElem?_eq_getElem (by omega)]; rfl))
    · rw [ah0 (by have := of_decide_eq_false hb; omega)]
      exact evs (t := [])
    cases at_str_inv aav
    -- whether a blank is needed
    have hneed : ∃ nd : Bool, EvD g.K X (tAndV (tOp rNe (tVar 5) (tC (.str ""))) (tAndV (tOp rInS (tOp (rIx g.K) (tVar 5) (tUn (rU fun i => .int (-i)) (tC (.int 1)))) (tC (.str "abcdefghijklmnopqrstuvwxyz0123456789"))) (tOp rInS (tOp (rIx g.K) (tVar 4) (tC (.int 0))) (tC (.str "abcdefghijklmnopqrstuvwxyz0123456789"))))) [some (.ref ta), some (.ref p), some (.str (S (mkT ps))), some (.int (i : Nat)), some (.str (S ws[i])), some (.str (S ah)), x6] C2 (.bool nd) ∧ (0 < i → clash ah ws[i] → nd = true) := by
      have e1n : EvD g.K X (tUn (rU fun i => .int (-i)) (tC (.int 1))) [some (.ref ta), some (.ref p), some (.str (S (mkT ps))), some (.int (i : Nat)), some (.str (S ws[i])), some (.str (S ah)), x6] C2 (.int (-1)) := fun H1 e1 Q q => ⟨1, rfl, q _ H1 (Ex.refl _) at_int⟩
      by_cases hne : ah = []
      · refine ⟨false, evD_is (ev_andV (a := false) (b := true) (ev_op (ev_var rfl (at_str okah)) (evs (t := [])) (rd_is (rd_nes (x := ah) (y := [])) (by simp [hne]))) fun h => by cases h) rfl, fun h0 hcl => ?_⟩
        exfalso
        have hz := (hws _ (List.getElem_mem (show i - 1 < ws.length by omega))).1
        obtain ⟨c, r, hcr, _⟩ := tok_head hz
        rw [← ah1 h0, hne] at hcr
        cases hcr
      · obtain ⟨c, hcl⟩ : ∃ c, ah.getLast? = some c := by
          cases hh : ah.getLast? with
          | none => exact absurd (List.getLast?_eq_none_iff.mp hh) hne
          | some c => exact ⟨c, rfl⟩
        refine ⟨an c && an hc, evD_is (ev_andV (a := true) (ev_op (ev_var rfl (at_str okah)) (evs (t := [])) (rd_is (rd_nes (x := ah) (y := [])) (by simp [hne]))) fun _ => ev_andV (ev_op (ev_op (ev_var rfl (at_str okah)) e1n (rd_ixM (by omega) hcl)) (evs alnum) rd_an) fun _ => ev_op (ev_op (ev_var rfl (at_str okw)) ev_int (rd_ixSs (by omega) (j := 0) (c := hc) (by rw [hce]; rfl))) (evs alnum) rd_an) rfl, fun _ hcl2 => ?_⟩
        rw [hcl2.1 c hcl, hcl2.2 hc (by rw [hce]; rfl)]; rfl
    obtain ⟨nd, hnd, hndc⟩ := hneed
    refine q_asg hnd fun nv C3 e3 anv => ?_
    cases at_bl_inv anv
    have hp3 := (hp1.exx e2).exx e3
    -- the text grows
    have t1 : EvD g.K X (tOp rCatS (tVar 2) (tIf (tB (tVar 6)) (tC (.str " ")) (tC (.str "")))) [some (.ref ta), some (.ref p), some (.str (S (mkT ps))), some (.int (i : Nat)), some (.str (S ws[i])), some (.str (S ah)), some (.bl nd)] C3 (Mi.str (mkT ps ++ (if nd then [32] else []))) := by
      refine ev_op (ev_var rfl (at_str hok)) (d := Mi.str (mkT ps)) (e := Mi.str (if nd then [32] else [])) (ev_if (b := nd) (et_B (ev_var (K := g.K) (X := X) rfl at_bl)) (fun hb => ?_) (fun hb => ?_)) (rd_catS (by split <;> simp <;> omega))
      · rw [hb]; exact evs (t := [32])
      · rw [hb]; exact evs (t := [])
    refine t1 C3 (Ex.refl _) _ fun v1 C4 e4 av1 => ?_
    cases at_str_inv av1
    have okv1 := at_str_ok av1
    have hp4 := hp3.exx e4
    show tCall (sp_law_pick g) [] E0 _ _ C4 _
    refine m_pick (ds := [[], [], [32], [10], [32, 32]].map Mi.str) rfl hp4 (ev_lst hp4.dm (ea_cons (evs (t := [])) (ea_cons (evs (t := [])) (ea_cons (evs (t := [32])) (ea_cons (evs (t := [10])) (ea_cons (evs (t := [32, 32])) ea_nil))))) (by show 5 ≤ 100000; decide)) (by simp) (by simp) (by omega) fun C5 u d5 p5 hm5 hp5 au5 => ?_
    obtain ⟨pk, hpk, rfl⟩ := List.mem_map.mp hm5
    cases at_str_inv au5
    have hpkb : (∀ c ∈ pk, isB c = true) ∧ pk.length ≤ 2 := (by decide : ∀ pk ∈ ([[], [], [32], [10], [32, 32]] : List T), (∀ c ∈ pk, isB c = true) ∧ pk.length ≤ 2) pk hpk
    have h1nd : (if nd then ([32] : T) else []).length ≤ 1 := by split <;> simp
    have hbig : (100000 : Nat) ≤ sizeLine := by decide
    refine ⟨_, _, rfl, rfl, by rw [S_len, S_len, List.length_append]; omega, _, rfl, _, _, rfl, rfl, ?_, ?_⟩
    · show (S _ ++ S pk).length + (S ws[i]).length ≤ sizeLine
      rw [S_app, S_len, S_len, List.length_append, List.length_append]; omega
    rw [S_app, S_app]
    have emk : mkT ps ++ (if nd then [32] else []) ++ pk ++ ws[i] = mkT (ps ++ [((if nd then [32] else []) ++ pk, ws[i])]) := by
      rw [mkT_snoc]; simp
    rw [emk]
    have P5 : Pr [p] H C5 := ((((PC.trans (Ex.pr e1')).trans (Ex.pr e2)).trans (Ex.pr e3)).trans (Ex.pr e4)).trans p5
    have htX : ta ∉ [p] := fun m => hnta (by rw [List.mem_singleton.mp m]; exact h.px)
    refine ⟨_, _, _, _, ps ++ [((if nd then [32] else []) ++ pk, ws[i])], rfl, P5, by rw [← Nat.add_assoc]; exact hp5, ((((aC1.ex e2).ex e3).ex e4).pr (p5.lift h.px)), p5 _ _ htX (e4 _ _ (e3 _ _ (e2 _ _ (e1' _ _ htC)))), by rw [List.map_append, hps, List.take_add_one, hwi]; rfl, gap_snoc ps none _ _ hgap (fun c hc => ?_) (fun qq hqq hcl => ?_), ?_, fun x hx => ?_, by rw [List.length_append, hpsl]; rfl⟩
    · rcases List.mem_append.mp hc with z | z
      · revert z; split
        · intro z; rw [List.mem_singleton.mp z]; rfl
        · intro z; cases z
      · exact hpkb.1 c z
    · rw [hps] at hqq
      by_cases h0 : i = 0
      · subst h0; rw [List.take_zero] at hqq; cases hqq
      · have hi0 : 0 < i := by omega
        have hlt3 : i - 1 < ws.length := by omega
        have := lst_take ws none (i - 1) hlt3
        rw [show i - 1 + 1 = i by omega] at this
        rw [this] at hqq
        cases hqq
        rw [hndc hi0 (by rw [ah1 hi0]; exact hcl)]
        simp
    · rw [← emk]
      exact ok_S.mpr fun c hc => by
        rcases List.mem_append.mp hc with z | z
        · rcases List.mem_append.mp z with z | z
          · exact ok_S.mp okv1 c z
          · exact ok_S.mp (at_str_ok au5) c z
        · exact ok_S.mp okw c z
    · rcases List.mem_append.mp hx with z | z
      · exact hpl x z
      · rw [List.mem_singleton.mp z]
        show ((if nd then ([32] : T) else []) ++ pk).length + ws[i].length ≤ 12
        rw [List.length_append]; omega
end
end Dy
section
set_option maxHeartbeats 4000019
namespace Mi
theorem ttok_len : ∀ {l : Nat} {a : Tm} {ws : List T}, TTok l a ws → a.Wf → ∀ w ∈ ws, w.length ≤ 8 := by
  intro l a ws h
  induction h with
  | paren h ih =>
    intro w x hx
    simp at hx
    rcases hx with e | e | e
    · subst e; decide
    · exact ih w x e
    · subst e; decide
  | num => intro w x hx; rw [List.mem_singleton.mp hx]; show 1 ≤ 8; decide
  | var => intro w x hx; rw [List.mem_singleton.mp hx]; exact w.len
  | neg h ih =>
    intro w x hx
    rcases List.mem_cons.mp hx with e | e
    · subst e; decide
    · exact ih w x e
  | @bin l o a b ws us hl h1 h2 ih1 ih2 =>
    intro w x hx
    rcases List.mem_append.mp hx with e | e
    · exact ih1 w.1 x e
    · rcases List.mem_cons.mp e with e | e
      · subst e; cases o <;> decide
      · exact ih2 w.2 x e
  | @pow l a n ws hl h ih =>
    intro w x hx
    rcases List.mem_append.mp hx with e | e
    · exact ih w.1 x e
    · simp at e
      rcases e with e | e
      · subst e; decide
      · subst e; show 1 ≤ 8; decide
theorem stok_len : ∀ {l : Nat} {f : Sy} {ws : List T}, STok l f ws → f.Wf → ∀ w ∈ ws, w.length ≤ 8 := by
  intro l f ws h
  induction h with
  | @paren l f ws h ih =>
    intro w x hx
    simp at hx
    rcases hx with e | e | e
    · subst e; decide
    · exact ih w x e
    · subst e; decide
  | @rel l r a b ws us h1 h2 =>
    intro w x hx
    rcases List.mem_append.mp hx with e | e
    · exact ttok_len h1 w.2.1 x e
    · rcases List.mem_cons.mp e with e | e
      · subst e
        exact (by decide : ∀ r ∈ RELS, r.length ≤ 8) _ w.1
      · exact ttok_len h2 w.2.2 x e
  | not h ih =>
    intro w x hx
    rcases List.mem_cons.mp hx with e | e
    · subst e; decide
    · exact ih w x e
  | @bin l o f g ws us hl h1 h2 ih1 ih2 =>
    intro w x hx
    rcases List.mem_append.mp hx with e | e
    · exact ih1 w.1 x e
    · rcases List.mem_cons.mp e with e | e
      · subst e; cases o <;> decide
      · exact ih2 w.2 x e
  | @quant q x f ws h ih =>
    intro w y hy
    simp at hy
    rcases hy with e | e | e | e
    · subst e; cases q <;> decide
    · subst e; exact w.1.len
    · subst e; decide
    · exact ih w.2 y e
end Mi
namespace Dy
open PySem L2 Evl Mi
section
variable {g : G8} {X Y : List Addr} {H H' H1 A : Hp} {p l q : Addr} {σ : L2.St} {Q : VK} {i : Nat} {D : Ends} {tz : TS} {tv tw ts th te tp : TE} {d z : PyData} {v nv : V} {N n : Nat} {ds : List PyData}
theorem u_law_s_text : ∀ vs H Q E, sp_law_s_text g vs H Q E → t_law_s_text g (EQ Q) (start ["tree", "pen"] vs) H := fun vs H Q E ⟨X, p, v, f, N, e, a, wf, hz, hN, h, q⟩ => by
  subst e
  show tCall (sp_law_s_tokens g) [] E0 _ _ H _
  refine ⟨_, rfl, _, rfl, X, p, v, f, N, rfl, a, wf, hz, by omega, h, fun H1 u ws p1 hp1 hs hl au => ?_⟩
  obtain ⟨k1, k2⟩ := stok_ok hs wf
  have k3 := stok_len hs wf
  refine ⟨_, rfl, X, p, u, ws, N + 1500, rfl, au, fun w hw => ⟨k1 w hw, k3 w hw⟩, hl, by omega, hp1, fun H2 ps tail p2 hp2 hps hgap ht hok hlen => ?_⟩
  refine q H2 (mkT ps ++ tail) (p1.trans p2) (hp2.up (by omega)) hok hlen fun free hfree hin => ?_
  subst hps
  exact Mi.settle_text hs wf hgap ht hfree hin
theorem ev_pairD {x : Str} {t : T} {n : Nat} (dm : Dom X H) (h : x = S t := by rfl) (k : ok x := by decide +kernel) : EvD g.K X (tTup (tCons (tC (.str x)) (tCons (tC (.int (n : Nat))) tNil))) σ H (pairD (t, n)) := ev_tup dm (ea_cons (evs h k) (ea_cons ev_int ea_nil)) (by show 2 ≤ 100000; decide)
theorem u_law_known : ∀ vs H Q E, sp_law_known g vs H Q E → t_law_known g (EQ Q) (start ["some"] vs) H := fun vs H Q E ⟨X, ds, z, dm, ax, ⟨e, hz⟩, q⟩ => by
  subst e hz
  cases ax
  refine q_asg (K := g.K) (X := X) (d := .list (KN0.map pairD)) (ev_lst dm (ea_cons (ev_pairD dm (t := []) (n := 0)) (ea_cons (ev_pairD dm (t := [120]) (n := 1)) (ea_cons (ev_pairD dm (t := [120, 32, 61]) (n := 3)) (ea_cons (ev_pairD dm (t := [120, 32, 61, 32, 61, 32, 49]) (n := 4)) (ea_cons (ev_pairD dm (t := [120, 32, 43, 32, 42, 32, 121, 32, 61, 32, 49]) (n := 4)) (ea_cons (ev_pairD dm (t := [122, 32, 61, 32, 49]) (n := 0)) (ea_cons (ev_pairD dm (t := [120, 49, 32, 61, 32, 49]) (n := 1)) (ea_cons (ev_pairD dm (t := [40, 120, 32, 61, 32, 49]) (n := 3)) (ea_cons (ev_pairD dm (t := [40, 120, 32, 43, 32, 121, 32, 61, 32, 49, 41]) (n := 7)) (ea_cons (ev_pairD dm (t := [91, 120, 32, 61, 32, 49]) (n := 6)) (ea_cons (ev_pairD dm (t := [120, 32, 61, 32, 49, 93]) (n := 5)) (ea_cons (ev_pairD dm (t := [120, 32, 61, 32, 48, 49]) (n := 5)) ea_nil)))))))))))) (by decide)) fun v1 H1 e1 a1 => ?_
  have dm1 := dm.pr e1
  refine q_asg (K := g.K) (X := X) (d := .list ((KN0 ++ KN1).map pairD)) (evD_is (ev_op (ev_var rfl a1) (ev_lst dm1 (ds := KN1.map pairD) (ea_cons (ev_pairD dm1 (t := [120, 32, 61, 32, 49, 50, 51, 52, 53, 54, 55]) (n := 10)) (ea_cons (ev_pairD dm1 (t := [120, 94, 49, 50, 32, 61, 32, 49]) (n := 3)) (ea_cons (ev_pairD dm1 (t := [120, 94, 121, 32, 61, 32, 49]) (n := 2)) (ea_cons (ev_pairD dm1 (t := [97, 108, 108, 32, 97, 108, 108, 58, 32, 120, 32, 61, 32, 49]) (n := 7)) (ea_cons (ev_pairD dm1 (t := [97, 108, 108, 32, 97, 98, 99, 100, 101, 102, 103, 104, 105, 58, 32, 120, 32, 61, 32, 49]) (n := 12)) (ea_cons (ev_pairD dm1 (t := [97, 108, 108, 32, 120, 32, 120, 32, 61, 32, 49]) (n := 6)) (ea_cons (ev_pairD dm1 (t := [97, 108, 108, 120, 58, 32, 120, 32, 61, 32, 49]) (n := 3)) (ea_cons (ev_pairD dm1 (t := [97, 108]) (n := 2)) (ea_cons (ev_pairD dm1 (t := [97, 108, 32, 120]) (n := 2)) (ea_cons (ev_pairD dm1 (t := [120, 97, 110, 100, 32, 121, 32, 61, 32, 49]) (n := 1)) ea_nil)))))))))) (by decide)) (rd_catL dm1 (by decide))) (by simp only [List.map_append])) fun v2 H2 e2 a2 => ?_
  have dm2 := dm1.pr e2
  refine q_asg (K := g.K) (X := X) (d := .list ((KN0 ++ KN1 ++ KN2).map pairD)) (evD_is (ev_op (ev_var rfl a2) (ev_lst dm2 (ds := KN2.map pairD) (ea_cons (ev_pairD dm2 (t := [120, 32, 61, 32, 49, 32, 97, 110, 32, 121, 32, 61, 32, 49]) (n := 8)) (ea_cons (ev_pairD dm2 (t := [120, 32, 61, 32, 49, 32, 97, 110, 100, 121, 32, 61, 32, 49]) (n := 9)) (ea_cons (ev_pairD dm2 (t := [120, 32, 33, 32, 61, 32, 49]) (n := 3)) (ea_cons (ev_pairD dm2 (t := [120, 32, 33]) (n := 3)) (ea_cons (ev_pairD dm2 (t := [110, 111, 116]) (n := 3)) (ea_cons (ev_pairD dm2 (t := [110, 111, 116, 115, 32, 61, 32, 49]) (n := 3)) (ea_cons (ev_pairD dm2 (t := [120, 32, 61, 32, 49, 32, 110, 111, 116]) (n := 6)) (ea_cons (ev_pairD dm2 (t := [120, 32, 60, 32, 49, 32, 60, 32, 121]) (n := 6)) (ea_cons (ev_pairD dm2 (t := [88, 32, 61, 32, 49]) (n := 0)) (ea_cons (ev_pairD dm2 (t := [120, 32, 61, 32, 49, 32, 111, 114]) (n := 8)) (ea_cons (ev_pairD dm2 (t := [120, 32, 61, 32, 49, 32, 105, 109, 112, 108, 105, 101, 115]) (n := 13)) (ea_cons (ev_pairD dm2 (t := [45, 45, 120, 32, 61, 32, 49]) (n := 1)) ea_nil)))))))))))) (by decide)) (rd_catL dm2 (by decide))) (by simp only [List.map_append])) fun v3 H3 e3 a3 => ?_
  have dm3 := dm2.pr e3
  refine q_asg (K := g.K) (X := X) (d := .list ((KN0 ++ KN1 ++ KN2 ++ KN3).map pairD)) (evD_is (ev_op (ev_var rfl a3) (ev_lst dm3 (ds := KN3.map pairD) (ea_cons (ev_pairD dm3 (t := [120, 32, 61, 32, 45, 49]) (n := 6)) (ea_cons (ev_pairD dm3 (t := [120, 32, 61, 32, 121, 45]) (n := 6)) (ea_cons (ev_pairD dm3 (t := [120, 32, 121, 32, 61, 32, 49]) (n := 2)) (ea_cons (ev_pairD dm3 (t := [50, 120, 32, 61, 32, 49]) (n := 1)) (ea_cons (ev_pairD dm3 (t := [120, 32, 61, 32, 50, 97, 110, 100, 32, 121, 32, 61, 32, 49, 32, 126, 32, 50]) (n := 15)) (ea_cons (ev_pairD dm3 (t := [115, 111, 109, 101, 32, 120, 44, 32, 58, 32, 120, 32, 61, 32, 49]) (n := 8)) (ea_cons (ev_pairD dm3 (t := [115, 111, 109, 101, 32, 120, 58, 44, 32, 120, 32, 61, 32, 49]) (n := 7)) (ea_cons (ev_pairD dm3 (t := [91, 91, 120, 32, 61, 32, 49, 93, 32, 97, 110, 100, 32, 121]) (n := 14)) (ea_cons (ev_pairD dm3 (t := [40, 40, 120, 41, 32, 43, 32, 121, 41, 32, 61, 32, 40, 49]) (n := 14)) (ea_cons (ev_pairD dm3 (t := [120, 32, 61, 32, 49, 32, 105, 102, 102, 32, 105, 102, 102]) (n := 10)) (ea_cons (ev_pairD dm3 (t := [97, 108, 108, 32, 120, 58, 32, 91, 120, 32, 61, 32, 49, 93, 32, 120]) (n := 15)) ea_nil))))))))))) (by decide)) (rd_catL dm3 (by decide))) (by simp only [List.map_append])) fun v4 H4 e4 a4 => ?_
  have dm4 := dm3.pr e4
  exact s_ret (K := g.K) (X := X) (d := .list (KN.map pairD)) (evD_is (ev_op (ev_var rfl a4) (ev_lst dm4 (ds := KN4.map pairD) (ea_cons (ev_pairD dm4 (t := [120, 32, 61, 32, 49, 32, 105, 109, 112, 108, 105, 101, 32, 121]) (n := 12)) (ea_cons (ev_pairD dm4 (t := [120, 42]) (n := 2)) (ea_cons (ev_pairD dm4 (t := [120, 94]) (n := 2)) (ea_cons (ev_pairD dm4 (t := [49, 32, 61, 32, 48, 46, 53]) (n := 5)) (ea_cons (ev_pairD dm4 (t := [120, 32, 61, 61, 32, 49]) (n := 3)) (ea_cons (ev_pairD dm4 (t := [120, 32, 61, 62, 32, 49]) (n := 3)) (ea_cons (ev_pairD dm4 (t := [120, 32, 60, 62, 32, 49]) (n := 3)) (ea_cons (ev_pairD dm4 (t := [120, 32, 61, 32, 49, 126, 121]) (n := 5)) (ea_cons (ev_pairD dm4 (t := [120, 32, 61, 49, 32, 10]) (n := 6)) (ea_cons (ev_pairD dm4 (t := [110, 111, 116, 32, 91, 120, 32, 61, 32, 49, 32, 97, 110, 100]) (n := 14)) (ea_cons (ev_pairD dm4 (t := [115, 111, 109, 101, 32, 49, 58, 32, 120, 32, 61, 32, 49]) (n := 5)) ea_nil))))))))))) (by decide)) (rd_catL dm4 (by decide))) (by rw [← List.map_append]; rfl)) fun v H5 e5 av => q v H5 ((((e1.trans e2).trans e3).trans e4).trans e5) av
theorem u_law_one_right (G : Gf g) : ∀ vs H Q E, sp_law_one_right g vs H Q E → t_law_one_right g (EQ Q) (start ["text", "free", "place", "told", "due"] vs) H := fun vs H Q E ⟨X, t, f, free, place, e, dm, ot, lt, hf, hs, q⟩ => by
  subst e
  refine q_asgR ⟨_, rfl, _, rfl, X, t, f, free, rfl, dm, ot, lt, hf, fun H1 a e1 ha hr => ?_⟩
  rw [hs] at hr
  obtain ⟨dx, ha1⟩ := hr
  refine q_asgR (mk_un (X := X) (ev_var rfl (at_int (K := g.K))) (ev_op (ev_var rfl at_int) (ev_cb (ea_cons (ev_var rfl (at_str ot)) ea_nil) (rc_lenSs lt)) rd_eqNn) fun b H2 e2 hb ⟨dy, x, y, hb1, ax, ay⟩ => ?_)
  cases at_int_inv ax
  cases at_bl_inv ay
  have e12 := e1.trans e2
  have ha2 := e2 _ _ ha1
  have dm2 := dm.pr e12
  have hf2 := hf.ex e12
  have fa : Fld g.K X H2 a "place" (.int (place : Nat)) := ⟨_, dx, _, _, ha2, G.cU, G.nU1, rfl, at_int⟩
  have heq : EvD g.K X (tOp (rEqO g) (tVar 3) (tVar 4)) [some (.str (S t)), some f, some (.int (place : Nat)), some (.ref a), some (.ref b)] H2 (.bool true) := fun H5 e5 Q q =>
    ⟨_, rfl, _, rfl, .inl ⟨⟨a, b, dx, dy, _, _, rfl, rfl, e5 _ _ ha2, e5 _ _ hb1, (place : Nat), decide (place = t.length), ⟨dx, _, e5 _ _ ha2, rfl, rfl⟩, dy, _, e5 _ _ hb1, rfl, rfl⟩, fun H' e' => q _ H' e' at_bl⟩⟩
  have hrf : EvD g.K X (tCall (sp_reading_fault g) [] E0 (tCons (tVar 0) (tCons (tVar 1) (tCons (tVar 3) tNil)))) [some (.str (S t)), some f, some (.int (place : Nat)), some (.ref a), some (.ref b)] H2 .none := fun H5 e5 Q q => by
    refine ⟨_, rfl, _, rfl, _, rfl, X, t, f, free, .ref a, .un (.int (place : Nat)) (.bool (decide (place = t.length))), .none, rfl, dm2.pr e5, ot, lt, hf2.ex e5, ⟨a, dx, _, _, rfl, e5 _ _ ha2, at_int, at_bl⟩, ?_, fun H' u e' au => q u H' e' au⟩
    rw [hs]
    have := Flt8.enB (t := t) (p := place) (b := decide (place = t.length))
    rw [if_pos rfl] at this
    exact this
  refine s_ret (K := g.K) (X := X) (evD_is (ev_andV (a := true) (b := true) heq fun _ => evD_is (ev_andV (a := true) (b := true) (evD_is (ev_notV (a := false) (ev_isi (ev_fld rfl fa) (b := false) rfl)) rfl) fun _ => ev_op hrf ev_non (rd_isN true fun H1 v a => by rw [at_non_inv a]; rfl)) rfl) rfl) fun u H3 e3 au => ?_
  cases at_bl_inv au
  exact q H3 (e12.trans e3)
end
end Dy
end
namespace Mi
def Tm.kids : Tm → List Tm
  | .num _ => []
  | .var _ => []
  | .neg a => [a]
  | .bin _ a b => [a, b]
  | .pow a _ => [a]
end Mi
namespace Dy
open PySem L2 Evl Mi
section
variable {g : G8} {X Y : List Addr} {H H' H1 A : Hp} {p l q : Addr} {σ : L2.St} {Q : VK} {i : Nat} {D : Ends} {tz : TS} {tv tw ts th te tp : TE} {d z : PyData} {v nv : V} {N n : Nat} {ds : List PyData}
def isTup : PyData → Bool
  | .tuple _ => true
  | _ => false
theorem isTup_tm (a : Tm) : isTup a.data = true := by cases a <;> rfl
theorem kit_tm (a : Tm) : kitB (tyN a.data) "tuple" = some true := by cases a <;> rfl
/-- the parts of a term that are terms, as a comprehension gives them -/
theorem ev_kids {its : List PyData} {kids : List Tm} (dm : Dom X H) (hs : σ[3]? = some (some v)) (h4 : 4 < σ.length) (hd : ∃ h, At g.K X H v (.tuple (Mi.str h :: its))) (hf : (its.filter isTup).map id = kids.map Tm.data) (ht : ∀ d ∈ its, (∃ a : Tm, d = a.data) ∨ ∃ n : Nat, d = .int n) (hl : its.length ≤ 3) :
    EvD g.K X (tLc (iTup g.K (tSl (rSlT g.K) (tVar 3) (tPart (tC (.int 1))) tNoPart)) (gName 4) (tB (tCB (rIsi g.K) (tCons (tVar 4) (tCons (tC (.ty "tuple")) tNil)))) (tVar 4) [4]) σ H (.list (kids.map Tm.data)) := by
  obtain ⟨h, hd⟩ := hd
  rw [← hf]
  have hv : ∀ u, (((wipe σ [4]).set 4 (some u))[4]? : Option (Option V)) = some (some u) := fun u => by
    rw [List.getElem?_set_self (by rw [wipe_length]; exact h4)]
  refine ev_lc dm (ei_tup (evD_is (ev_slT dm (ev_var hs hd) eo_i eo_none sl1) (by rw [cut1]))) isTup id (by omega) (fun Y H1 k dY u d ad hd2 => ?_) (fun Y H1 k dY u d ad hd2 _ => ev_var (hv u) ad)
  rcases ht d hd2 with ⟨a, rfl⟩ | ⟨n, rfl⟩
  · rw [isTup_tm]
    exact et_B (ev_isi (ev_var (hv u) ad) (kit_tm a))
  · exact et_B (ev_isi (ev_var (hv u) ad) (b := false) rfl)
theorem szs_rev_mem {a : Tm} {as : List Tm} : szs (as ++ [a]) = szs as + a.sz := by rw [szs_app]; show _ + (a.sz + 0) = _; omega
theorem u_law_s_in_terms : ∀ vs H Q E, sp_law_s_in_terms g vs H Q E → t_law_s_in_terms g (EQ Q) (start ["terms", "found", "waiting", "here", "part"] vs) H := fun vs H Q E ⟨X, v, as0, e, dm, a, hw0, hz0, q⟩ => by
  subst e
  refine sq ⟨by decide, fun l hl => ?_⟩
  have hlX : l ∉ X := fun m => dm l m hl
  have hlZ : l ∈ l :: X := List.mem_cons_self
  have dmZ : Dom (l :: X) (upd H l (.lst [])) := dm.more (Ex.new hl) (by rw [upd_same]; simp)
  have a1 : At g.K (l :: X) (upd H l (.lst [])) v (.tuple (as0.map Tm.data)) := (a.more hl).pr (pr_upd List.mem_cons_self)
  have hl1 : LAt g.K (l :: X) (upd H l (.lst [])) l (([] : List T).map Mi.str) := LAt.new .nil hl
  show tCB (rListA g.K) _ _ (upd H l (.lst [])) _
  refine r_listT (K := g.K) (X := l :: X) (ev_var rfl a1) fun w H2 hw e2 lw => ⟨_, _, rfl, ?_⟩
  have hw00 : H w = none := fresh_back (Ex.new hl) hw
  have hwl : w ≠ l := fun z => by rw [z, upd_same] at hw; cases hw
  dsimp only
  refine q_loop (fun m σ' C => ∃ as : List Tm, ∃ ns : List T, ∃ w x3 x4, σ' = [some v, some (.ref l), some (.ref w), x3, x4] ∧ H w = none ∧ w ≠ l ∧ Ex H C ∧ Dom (w :: l :: X) C ∧ LAt g.K (w :: l :: X) C l (ns.map Mi.str) ∧ LAt g.K (w :: l :: X) C w (as.map Tm.data) ∧ (∀ a ∈ as, a.Wf) ∧ (∀ x, (x ∈ ns ∨ ∃ a ∈ as, x ∈ a.vars) ↔ ∃ a ∈ as0, x ∈ a.vars) ∧ ns.length + szs as ≤ 1000 ∧ m = szs as) _
    ⟨as0, [], w, none, none, rfl, hw00, hwl, (Ex.new hl).trans e2, dmZ.more e2 lw.dom, hl1.new2 hw e2, lw, hw0, fun x => by simp, by simpa using hz0, rfl⟩ fun m σ' C ⟨as, ns, w, x3, x4, hσ, hw0', hwl, hx, dmC, hlC, hwC, hwf, hiff, hsz, hm⟩ => ?_
  subst hσ
  have hwX : w ∉ l :: X := fun m => by
    rcases List.mem_cons.mp m with z | z
    · exact hwl z
    · exact dm w z hw0'
  have evw : At g.K (l :: X) C (.ref w) (.list (as.map Tm.data)) := by
    obtain ⟨_, us, hu, au⟩ := hwC
    exact at_lst hwX hu (au.less fun a m => List.mem_cons_of_mem _ m)
  have dmC' : Dom (l :: X) C := fun a m => dmC a (List.mem_cons_of_mem _ m)
  refine ⟨!decide (as.map Tm.data = []), et_test (ev_op (ev_var rfl evw) (ev_lst dmC' ea_nil (by simp)) rd_neNil), fun hb C1 e1 => ?_, fun hb C1 e1 => ?_⟩
  · have hne : as ≠ [] := by simpa using hb
    obtain ⟨bs, b, rfl⟩ := map_ne hne
    have hwC1 : LAt g.K (w :: l :: X) C1 w (bs.map Tm.data ++ [b.data]) := by
      have := hwC.ex e1
      rw [List.map_append] at this
      exact this
    have hwb := hwf b (by simp)
    have hwbs : ∀ a ∈ bs, a.Wf := fun a ha => hwf a (by simp [ha])
    have hbp := b.sz_pos
    rw [szs_rev_mem] at hsz hm
    refine q_asgR (r_pop rfl hwC1 fun v2 C2 p2 hw2 av2 => ?_)
    have hx2 : Ex H C2 := ex_pr (hx.trans e1) p2 hw0'
    have dm2 : Dom (w :: l :: X) C2 := (dmC.pr e1).prs p2 fun a m => by rw [List.mem_singleton.mp m]; exact hw2.dom
    have hlC2 : LAt g.K (w :: l :: X) C2 l (ns.map Mi.str) := (hlC.ex e1).pr p2 (s1 List.mem_cons_self) fun m => hwl (List.mem_singleton.mp m).symm
    have av2' : At g.K (l :: X) C2 v2 b.data := av2.less fun a m => List.mem_cons_of_mem _ m
    have dm2' : Dom (l :: X) C2 := fun a m => dm2 a (List.mem_cons_of_mem _ m)
    -- a part that goes on
    have go : ∀ (D : Ends) (C3 : Hp) (kids : List Tm) (its : List PyData), Ex C2 C3 → (∃ h, b.data = .tuple (Mi.str h :: its)) → (its.filter isTup).map id = kids.map Tm.data → (∀ d ∈ its, (∃ a : Tm, d = a.data) ∨ ∃ n : Nat, d = .int n) → its.length ≤ 3 → (∀ a ∈ kids, a.Wf) → (∀ x, (∃ a ∈ kids, x ∈ a.vars) ↔ x ∈ b.vars) → szs kids < b.sz →
        (∀ w6 C6, H w6 = none → w6 ≠ l → Ex H C6 → Dom (w6 :: l :: X) C6 → LAt g.K (w6 :: l :: X) C6 l (ns.map Mi.str) → LAt g.K (w6 :: l :: X) C6 w6 ((bs ++ kids).map Tm.data) → (∀ a ∈ bs ++ kids, a.Wf) → (∀ x, (x ∈ ns ∨ ∃ a ∈ bs ++ kids, x ∈ a.vars) ↔ ∃ a ∈ as0, x ∈ a.vars) → ns.length + szs (bs ++ kids) ≤ 1000 → szs (bs ++ kids) < m → D.nx [some v, some (.ref l), some (.ref w6), some v2, x4] C6) →
        tAsg (tOp rCat (tVar 2) (tLc (iTup g.K (tSl (rSlT g.K) (tVar 3) (tPart (tC (.int 1))) tNoPart)) (gName 4) (tB (tCB (rIsi g.K) (tCons (tVar 4) (tCons (tC (.ty "tuple")) tNil)))) (tVar 4) [4])) (gName 2) D [some v, some (.ref l), some (.ref w), some v2, x4] C3 := by
      intro D C3 kids its e3 ⟨h, hbd⟩ hfil hty hlen hkw hkv hks kk
      have dm3 := dm2'.pr e3
      have evw3 : At g.K (l :: X) C3 (.ref w) (.list (bs.map Tm.data)) := by
        obtain ⟨_, us, hu, au⟩ := hw2.ex e3
        exact at_lst hwX hu (au.less fun a m => List.mem_cons_of_mem _ m)
      have hbl := szs_len bs
      have hkl := szs_len kids
      refine r_cat (X := l :: X) (ev_var rfl evw3) (ev_kids (kids := kids) dm3 rfl (by show 4 < 5; decide) ⟨h, by rw [← hbd]; exact av2'.ex e3⟩ hfil hty hlen) (by rw [List.length_map, List.length_map]; omega) fun w6 C6 hw6 e6 lw6 => ?_
      have hw60 : H w6 = none := fresh_back (hx2.trans e3) hw6
      have hw6l : w6 ≠ l := fun z => dm3 w6 (by rw [z]; exact hlZ) hw6
      refine kk w6 C6 hw60 hw6l ((hx2.trans e3).trans e6) (dm3.more e6 lw6.dom) (((hlC2.ex e3).less hlZ).new2 hw6 e6) (by rw [List.map_append]; exact lw6) (fun a ha => (List.mem_append.mp ha).elim (hwbs a) (hkw a)) (fun x => ?_) (by rw [szs_app]; omega) (by rw [hm, szs_app]; omega)
      rw [← hiff x]
      constructor
      · rintro (h | ⟨a, ha, hxa⟩)
        · exact .inl h
        · rcases List.mem_append.mp ha with ha | ha
          · exact .inr ⟨a, by simp [ha], hxa⟩
          · exact .inr ⟨b, by simp, (hkv x).mp ⟨a, ha, hxa⟩⟩
      · rintro (h | ⟨a, ha, hxa⟩)
        · exact .inl h
        · rcases List.mem_append.mp ha with ha | ha
          · exact .inr ⟨a, by simp [ha], hxa⟩
          · rw [List.mem_singleton.mp ha] at hxa
            obtain ⟨a', ha', hx'⟩ := (hkv x).mpr hxa
            exact .inr ⟨a', by simp [ha'], hx'⟩
    have hd0 : ∀ {C3 : Hp} {u : T} {x : Str} {bb : Bool}, Ex C2 C3 → x = S u → ok x → decide (Dy.Tm.hd b = u) = bb → EvD g.K (l :: X) (tOp rEq (tOp (rIx g.K) (tVar 3) (tC (.int 0))) (tC (.str x))) [some v, some (.ref l), some (.ref w), some v2, x4] C3 (.bool bb) := fun e3 hxu hk hb => by
      obtain ⟨r, hr⟩ := tdata_hd b
      exact ev_op (ix0 rfl (by rw [← hr]; exact av2'.ex e3)) (evs hxu hk) (rd_is (rd_eqs (x := Dy.Tm.hd b)) (by rw [hb]))
    have hd1 : ∀ {C3 : Hp} {u : T} {x : Str} {bb : Bool}, Ex C2 C3 → x = S u → ok x → (!decide (Dy.Tm.hd b = u)) = bb → EvD g.K (l :: X) (tOp rNe (tOp (rIx g.K) (tVar 3) (tC (.int 0))) (tC (.str x))) [some v, some (.ref l), some (.ref w), some v2, x4] C3 (.bool bb) := fun e3 hxu hk hb => by
      obtain ⟨r, hr⟩ := tdata_hd b
      exact ev_op (ix0 rfl (by rw [← hr]; exact av2'.ex e3)) (evs hxu hk) (rd_is (rd_nes (x := Dy.Tm.hd b)) (by rw [hb]))
    cases b with
    | var x =>
      refine Evl.s_if (b := true) (et_test (hd0 (Ex.refl _) (u := kLetter) rfl (by decide +kernel) (by show decide (kLetter = kLetter) = true; decide))) (fun _ C3 e3 => ?_) (fun h => by cases h)
      have av3 : At g.K (w :: l :: X) C3 v2 (.tuple [Mi.str kLetter, Mi.str x]) := av2.ex e3
      refine e_app rfl (hlC2.ex e3) (by rw [List.length_map]; omega) (ix1 rfl av3) fun C4 p4 hl4 => ?_
      refine ⟨szs bs, by rw [hm]; show _ < _ + 1; omega, bs, ns ++ [x], w, _, _, rfl, hw0', hwl, ex_pr (hx2.trans e3) p4 hl, (dm2.pr e3).prs p4 (fun a m => by rw [List.mem_singleton.mp m]; exact hl4.dom), by rw [List.map_append]; exact hl4, (hw2.ex e3).pr p4 (s1 (List.mem_cons_of_mem _ hlZ)) (fun m => hwl (List.mem_singleton.mp m)), hwbs, fun y => ?_, by rw [List.length_append]; have : (Tm.var x).sz = 1 := rfl; show ns.length + 1 + szs bs ≤ 1000; omega, rfl⟩
      rw [← hiff y]
      constructor
      · rintro (h | ⟨a, ha, hxa⟩)
        · rcases List.mem_append.mp h with h | h
          · exact .inl h
          · exact .inr ⟨.var x, by simp, h⟩
        · exact .inr ⟨a, by simp [ha], hxa⟩
      · rintro (h | ⟨a, ha, hxa⟩)
        · exact .inl (by simp [h])
        · rcases List.mem_append.mp ha with ha | ha
          · exact .inr ⟨a, ha, hxa⟩
          · rw [List.mem_singleton.mp ha] at hxa
            exact .inl (List.mem_append_right _ hxa)
    | num n =>
      refine Evl.s_if (b := false) (et_test (hd0 (Ex.refl _) (u := kLetter) rfl (by decide +kernel) (by show decide (kNumber = kLetter) = false; decide))) (fun h => by cases h) fun _ C3 e3 => ?_
      refine Evl.s_when (b := false) (et_test (hd1 e3 (u := kNumber) rfl (by decide +kernel) (by show (!decide (kNumber = kNumber)) = false; decide))) (fun h => by cases h) fun _ C4 e4 => ?_
      have e34 := e3.trans e4
      refine ⟨szs bs, by rw [hm]; show _ < _ + 1; omega, bs, ns, w, _, _, rfl, hw0', hwl, hx2.trans e34, dm2.pr e34, hlC2.ex e34, hw2.ex e34, hwbs, fun y => ?_, by omega, rfl⟩
      rw [← hiff y]
      constructor
      · rintro (h | ⟨a, ha, hxa⟩)
        · exact .inl h
        · exact .inr ⟨a, by simp [ha], hxa⟩
      · rintro (h | ⟨a, ha, hxa⟩)
        · exact .inl h
        · rcases List.mem_append.mp ha with ha | ha
          · exact .inr ⟨a, ha, hxa⟩
          · rw [List.mem_singleton.mp ha] at hxa
            cases hxa
    | neg b =>
      refine Evl.s_if (b := false) (et_test (hd0 (Ex.refl _) (u := kLetter) rfl (by decide +kernel) (by show decide (kNeg = kLetter) = false; decide))) (fun h => by cases h) fun _ C3 e3 => ?_
      refine Evl.s_when (b := true) (et_test (hd1 e3 (u := kNumber) rfl (by decide +kernel) (by show (!decide (kNeg = kNumber)) = true; decide))) (fun _ C4 e4 => ?_) (fun h => by cases h)
      exact go _ C4 [b] [b.data] (e3.trans e4) ⟨_, rfl⟩ (by simp [isTup_tm]) (fun d hd => .inl ⟨b, by simpa using hd⟩) (by simp) (fun a ha => by rw [List.mem_singleton.mp ha]; exact hwb) (fun x => by simp [Tm.vars]) (by show b.sz + 0 < b.sz + 1; omega) fun w6 C6 k1 k2 k3 k4 k5 k6 k7 k8 k9 k10 => ⟨_, k10, _, ns, w6, _, _, rfl, k1, k2, k3, k4, k5, k6, k7, k8, k9, rfl⟩
    | bin o b c =>
      have n1 : o.name ≠ kLetter ∧ o.name ≠ kNumber := by cases o <;> decide
      refine Evl.s_if (b := false) (et_test (hd0 (Ex.refl _) (u := kLetter) rfl (by decide +kernel) (decide_eq_false n1.1))) (fun h => by cases h) fun _ C3 e3 => ?_
      refine Evl.s_when (b := true) (et_test (hd1 e3 (u := kNumber) rfl (by decide +kernel) (by show (!decide (o.name = kNumber)) = true; rw [decide_eq_false n1.2]; rfl))) (fun _ C4 e4 => ?_) (fun h => by cases h)
      exact go _ C4 [b, c] [b.data, c.data] (e3.trans e4) ⟨_, rfl⟩ (by simp [isTup_tm]) (fun d hd => by simp at hd; rcases hd with z | z <;> exact .inl ⟨_, z⟩) (by simp) (fun a ha => by simp at ha; rcases ha with z | z <;> subst z; exact hwb.1; exact hwb.2) (fun x => by simp [Tm.vars]) (by show b.sz + (c.sz + 0) < b.sz + c.sz + 1; omega) fun w6 C6 k1 k2 k3 k4 k5 k6 k7 k8 k9 k10 => ⟨_, k10, _, ns, w6, _, _, rfl, k1, k2, k3, k4, k5, k6, k7, k8, k9, rfl⟩
    | pow b n =>
      refine Evl.s_if (b := false) (et_test (hd0 (Ex.refl _) (u := kLetter) rfl (by decide +kernel) (by show decide (kPower = kLetter) = false; decide))) (fun h => by cases h) fun _ C3 e3 => ?_
      refine Evl.s_when (b := true) (et_test (hd1 e3 (u := kNumber) rfl (by decide +kernel) (by show (!decide (kPower = kNumber)) = true; decide))) (fun _ C4 e4 => ?_) (fun h => by cases h)
      exact go _ C4 [b] [b.data, .int n] (e3.trans e4) ⟨_, rfl⟩ (by rw [List.filter_cons, if_pos (isTup_tm b)]; rfl) (fun d hd => by simp at hd; exact hd.elim (fun z => .inl ⟨b, z⟩) (fun z => .inr ⟨n, z⟩)) (by simp) (fun a ha => by rw [List.mem_singleton.mp ha]; exact hwb.1) (fun x => by simp [Tm.vars]) (by show b.sz + 0 < b.sz + 1; omega) fun w6 C6 k1 k2 k3 k4 k5 k6 k7 k8 k9 k10 => ⟨_, k10, _, ns, w6, _, _, rfl, k1, k2, k3, k4, k5, k6, k7, k8, k9, rfl⟩
  · have hnil : as = [] := by simpa using hb
    subst hnil
    refine ⟨_, rfl, q C1 _ ns (hx.trans e1) (fun x => by rw [← hiff x]; simp) (by have : szs [] = 0 := rfl; omega) ?_⟩
    obtain ⟨_, us, hu, au⟩ := hlC.ex e1
    exact at_lst hlX hu (au.less fun a m => List.mem_cons_of_mem _ (List.mem_cons_of_mem _ m))
end
end Dy
namespace Dy
open PySem L2 Evl Mi
section
variable {g : G8} {X Y : List Addr} {H H' H1 A : Hp} {p l q : Addr} {σ : L2.St} {Q : VK} {i : Nat} {D : Ends} {tz : TS} {tv tw ts th te tp : TE} {d z : PyData} {v nv : V} {N n : Nat} {ds : List PyData}
def pD (x : Sy × List T) : PyData := .tuple [x.1.data, .list (x.2.map Mi.str)]
def enc (ks : List T) : List (Key × V) := ks.map fun x => ((Sum.inr (S x) : Key), V.bl true)
theorem enc_any (x : T) : ∀ ks : List T, ((enc ks).any fun kv => decide (kv.1 = (Sum.inr (S x) : Key))) = decide (x ∈ ks)
  | [] => rfl
  | k :: ks => by
    have ih := enc_any x ks
    show (decide ((Sum.inr (S k) : Key) = Sum.inr (S x)) || ((enc ks).any fun kv => decide (kv.1 = (Sum.inr (S x) : Key)))) = _
    rw [ih]
    by_cases h : k = x
    · subst h; simp
    · have h1 : ¬ ((Sum.inr (S k) : Key) = Sum.inr (S x)) := fun e => h (S_inj (Sum.inr.inj e))
      rw [decide_eq_false h1, Bool.false_or]
      have h2 : ¬ x = k := fun e => h e.symm
      simp [h2]
theorem enc_put (x : T) (ks : List T) : putK (enc ks) (.inr (S x)) (.bl true) = enc (if x ∈ ks then ks else ks ++ [x]) := by
  unfold putK
  rw [enc_any]
  by_cases h : x ∈ ks
  · rw [if_pos (decide_eq_true h), if_pos h]
    have : ∀ ks : List T, (enc ks).map (fun kv => if kv.1 = (Sum.inr (S x) : Key) then (kv.1, V.bl true) else kv) = enc ks := by
      intro ks
      induction ks with
      | nil => rfl
      | cons k ks ih =>
        show (if (Sum.inr (S k) : Key) = Sum.inr (S x) then ((Sum.inr (S k) : Key), V.bl true) else (Sum.inr (S k), V.bl true)) :: _ = (Sum.inr (S k), V.bl true) :: enc ks
        exact congr (congrArg List.cons (by split <;> rfl)) ih
    exact this ks
  · rw [if_neg (by rw [decide_eq_false h]; simp), if_neg h]
    show _ = (ks ++ [x]).map _
    rw [List.map_append]; rfl
theorem nodup_len : ∀ {xs B : List T}, xs.Nodup → (∀ x ∈ xs, x ∈ B) → xs.length ≤ B.length
  | [], B, _, _ => Nat.zero_le _
  | x :: xs, B, hn, h => by
    have hx := h x List.mem_cons_self
    have hn' := List.nodup_cons.mp hn
    have := nodup_len (xs := xs) (B := B.erase x) hn'.2 fun y hy => (List.mem_erase_of_ne (fun e => hn'.1 (by rw [← e]; exact hy))).mpr (h y (List.mem_cons_of_mem _ hy))
    rw [List.length_erase_of_mem hx] at this
    have hp := List.length_pos_of_mem hx
    rw [List.length_cons]; omega
theorem r_forL {tl : TE} {gt : TG} {tb : TS} (h : tl σ H fun u H1 => tFor (iList g.K (tC u)) gt tb D σ H1) : tFor (iList g.K tl) gt tb D σ H := h
def szw : List (Sy × List T) → Nat
  | [] => 0
  | x :: xs => x.1.sz + szw xs
theorem szw_app : ∀ as bs : List (Sy × List T), szw (as ++ bs) = szw as + szw bs
  | [], bs => by rw [List.nil_append]; show _ = 0 + _; omega
  | a :: as, bs => by
    show a.1.sz + szw (as ++ bs) = a.1.sz + szw as + szw bs
    rw [szw_app as]; omega
theorem szw_len : ∀ as : List (Sy × List T), as.length ≤ szw as
  | [] => Nat.le_refl _
  | a :: as => by
    have := a.1.sz_pos
    have := szw_len as
    show as.length + 1 ≤ a.1.sz + szw as
    omega
theorem ok_names {ns : List T} (h : At g.K X H v (.list (ns.map Mi.str))) : ∀ x ∈ ns, ok (S x) := fun x hx => by
  obtain ⟨b, us, _, _, _, a1⟩ := at_lst_inv h
  obtain ⟨k, hk⟩ := List.getElem?_of_mem hx
  obtain ⟨u, _, au⟩ := a1.get (i := k) (d := Mi.str x) (by rw [List.getElem?_map, hk]; rfl)
  exact at_str_ok au
/-- what is bound within -/
def inB : Sy → List T → List T
  | .quant _ x _, B => B ++ [x]
  | _, B => B
theorem free_parts (f : Sy) (B : List T) (x : T) (hr : ∀ r a b, f ≠ .rel r a b) : (f.Free x ∧ x ∉ B) ↔ ∃ k ∈ f.parts, k.Free x ∧ x ∉ inB f B := by
  cases f with
  | rel r a b => exact absurd rfl (hr r a b)
  | not f => simp [Sy.parts, Sy.Free, inB]
  | bin o f k =>
    simp only [Sy.parts, Sy.Free, inB, List.mem_cons, List.not_mem_nil, or_false, exists_eq_or_imp, exists_eq_left]
    constructor
    · rintro ⟨h | h, n⟩
      · exact .inl ⟨h, n⟩
      · exact .inr ⟨h, n⟩
    · rintro (⟨h, n⟩ | ⟨h, n⟩)
      · exact ⟨.inl h, n⟩
      · exact ⟨.inr h, n⟩
  | quant o y f =>
    simp only [Sy.parts, Sy.Free, inB, List.mem_cons, List.not_mem_nil, or_false, exists_eq_left, List.mem_append, not_or]
    constructor
    · rintro ⟨⟨a, b⟩, c⟩; exact ⟨b, c, a⟩
    · rintro ⟨b, c, a⟩; exact ⟨⟨a, b⟩, c⟩
theorem parts_wf {f : Sy} (h : f.Wf) : ∀ k ∈ f.parts, k.Wf := by
  cases f with
  | rel r a b => intro k hk; cases hk
  | not f => intro k hk; rw [List.mem_singleton.mp hk]; exact h
  | bin o f k => intro j hj; simp [Sy.parts] at hj; rcases hj with z | z <;> subst z; exact h.1; exact h.2
  | quant o x f => intro k hk; rw [List.mem_singleton.mp hk]; exact h.2
theorem parts_sz (f : Sy) (B : List T) : szw (f.parts.map fun k => (k, B)) < f.sz := by
  cases f with
  | rel r a b => show 0 < _; have := (Sy.rel r a b).sz_pos; omega
  | not f => show f.sz + 0 < f.sz + 1; omega
  | bin o f k => show f.sz + (k.sz + 0) < f.sz + k.sz + 1; omega
  | quant o x f => show f.sz + 0 < f.sz + 1; omega
theorem parts_each {f : Sy} : ∀ k ∈ f.parts, k.sz + 1 ≤ f.sz := by
  cases f with
  | rel r a b => intro k hk; cases hk
  | not f => intro k hk; rw [List.mem_singleton.mp hk]; exact Nat.le_refl _
  | bin o f k => intro j hj; simp [Sy.parts] at hj; rcases hj with z | z <;> subst z; show _ ≤ _ + _ + 1; omega; show _ ≤ _ + _ + 1; omega
  | quant o x f => intro k hk; rw [List.mem_singleton.mp hk]; exact Nat.le_refl _
theorem inB_len (f : Sy) (B : List T) : (inB f B).length ≤ B.length + 1 := by cases f <;> simp [inB]
theorem u_law_s_free : ∀ vs H Q E, sp_law_s_free g vs H Q E → t_law_s_free g (EQ Q) (start ["tree", "found", "waiting", "here", "bound", "name", "within", "part"] vs) H := fun vs H Q E ⟨X, v, f, B0, e, dm, a, wf, hz, hfree, hB0, q⟩ => by
  subst e
  refine sq fun fd hfd => ?_
  have hfX : fd ∉ X := fun m => dm fd m hfd
  have hfZ : fd ∈ fd :: X := List.mem_cons_self
  have dmZ : Dom (fd :: X) (upd H fd (.dK [])) := dm.more (Ex.new hfd) (by rw [upd_same]; simp)
  have a1 : At g.K (fd :: X) (upd H fd (.dK [])) v f.data := (a.more hfd).pr (pr_upd List.mem_cons_self)
  show tLst _ _ (upd H fd (.dK [])) _
  refine r_lst (K := g.K) (X := fd :: X) (ds := [pD (f, [])]) (ea_cons (ev_tup dmZ (ea_cons (ev_var rfl a1) (ea_cons (ev_lst dmZ ea_nil (by simp)) ea_nil)) (by show 2 ≤ 100000; decide)) ea_nil) (by show 1 ≤ 100000; decide) fun w H2 hw e2 lw => ⟨_, _, rfl, ?_⟩
  have hw00 : H w = none := fresh_back (Ex.new hfd) hw
  have hwf0 : w ≠ fd := fun z => by rw [z, upd_same] at hw; cases hw
  dsimp only
  refine q_loop (fun m σ' C => ∃ W : List (Sy × List T), ∃ ks : List T, ∃ w x3 x4 x5 x6 x7, σ' = [some v, some (.ref fd), some (.ref w), x3, x4, x5, x6, x7] ∧ H w = none ∧ w ≠ fd ∧ Ex H C ∧ Dom (w :: fd :: X) C ∧ C fd = some (.dK (enc ks)) ∧ ks.Nodup ∧ (∀ x ∈ ks, ok (S x)) ∧ LAt g.K (w :: fd :: X) C w (W.map pD) ∧ (∀ y ∈ W, y.1.Wf ∧ y.2.length + y.1.sz ≤ 100) ∧ (∀ x, (x ∈ ks ∨ ∃ y ∈ W, y.1.Free x ∧ x ∉ y.2) ↔ f.Free x) ∧ szw W ≤ 100 ∧ m = szw W) _
    ⟨[(f, [])], [], w, none, none, none, none, none, rfl, hw00, hwf0, (Ex.new hfd).trans e2, dmZ.more e2 lw.dom, e2 _ _ upd_same, List.nodup_nil, by simp, lw, fun y hy => by rw [List.mem_singleton.mp hy]; exact ⟨wf, by show 0 + f.sz ≤ 100; omega⟩, fun x => by simp, by show f.sz + 0 ≤ 100; omega, rfl⟩ fun m σ' C ⟨W, ks, w, x3, x4, x5, x6, x7, hσ, hw0, hwf, hx, dmC, hfdC, hnd, hoks, hwC, hW, hiff, hsz, hm⟩ => ?_
  subst hσ
  have hwX : w ∉ fd :: X := fun m => by
    rcases List.mem_cons.mp m with z | z
    · exact hwf z
    · exact dm w z hw0
  have evw : At g.K (fd :: X) C (.ref w) (.list (W.map pD)) := by
    obtain ⟨_, us, hu, au⟩ := hwC
    exact at_lst hwX hu (au.less fun a m => List.mem_cons_of_mem _ m)
  have dmC' : Dom (fd :: X) C := fun a m => dmC a (List.mem_cons_of_mem _ m)
  refine ⟨!decide (W.map pD = []), et_test (ev_op (ev_var rfl evw) (ev_lst dmC' ea_nil (by simp)) rd_neNil), fun hb C1 e1 => ?_, fun hb C1 e1 => ?_⟩
  · have hne : W ≠ [] := by simpa using hb
    obtain ⟨W', y, rfl⟩ : ∃ W' y, W = W' ++ [y] := by
      rcases List.eq_nil_or_concat W with e | ⟨bs, a, e⟩
      · exact absurd e hne
      · exact ⟨bs, a, by rw [e, List.concat_eq_append]⟩
    obtain ⟨h, B⟩ := y
    have hwC1 : LAt g.K (w :: fd :: X) C1 w (W'.map pD ++ [pD (h, B)]) := by
      have := hwC.ex e1
      rw [List.map_append] at this
      exact this
    obtain ⟨hwh, hBsz⟩ := hW (h, B) (by simp)
    have hwh : h.Wf := hwh
    have hBsz : B.length + h.sz ≤ 100 := hBsz
    have hW' : ∀ y ∈ W', y.1.Wf ∧ y.2.length + y.1.sz ≤ 100 := fun y hy => hW y (by simp [hy])
    have hszw : szw W' + h.sz ≤ 100 ∧ m = szw W' + h.sz := by
      rw [szw_app] at hsz hm
      have : szw [(h, B)] = h.sz := rfl
      omega
    refine q_asgT (r_pop rfl hwC1 fun v2 C2 p2 hw2 av2 => ?_)
    have hx2 : Ex H C2 := ex_pr (hx.trans e1) p2 hw0
    have dm2 : Dom (w :: fd :: X) C2 := (dmC.pr e1).prs p2 fun a m => by rw [List.mem_singleton.mp m]; exact hw2.dom
    have hfd2 : C2 fd = some (.dK (enc ks)) := p2 _ _ (fun m => hwf (List.mem_singleton.mp m).symm) (e1 _ _ hfdC)
    have av2' : At g.K (fd :: X) C2 v2 (.tuple [h.data, .list (B.map Mi.str)]) := av2.less fun a m => List.mem_cons_of_mem _ m
    have dm2' : Dom (fd :: X) C2 := fun a m => dm2 a (List.mem_cons_of_mem _ m)
    refine g_tup av2' rfl fun vs3 as3 => ?_
    obtain ⟨hv, bv, rfl, ah, ab⟩ := ats2 as3
    refine ⟨_, _, rfl, _, _, rfl, rfl, ?_⟩
    have hevw : ∀ {C3 : Hp}, LAt g.K (w :: fd :: X) C3 w (W'.map pD) → At g.K (fd :: X) C3 (.ref w) (.list (W'.map pD)) := fun hl => by
      obtain ⟨_, us, hu, au⟩ := hl
      exact at_lst hwX hu (au.less fun a m => List.mem_cons_of_mem _ m)
    obtain ⟨rr, hrr⟩ := data_hd h
    -- what follows once the names here are found
    have tail : ∀ (C3 : Hp) (ks' : List T) (x5' : Option V), Ex H C3 → Dom (w :: fd :: X) C3 → C3 fd = some (.dK (enc ks')) → ks'.Nodup → (∀ x ∈ ks', ok (S x)) → LAt g.K (w :: fd :: X) C3 w (W'.map pD) → At g.K (fd :: X) C3 hv h.data → At g.K (fd :: X) C3 bv (.list (B.map Mi.str)) → (∀ x, (x ∈ ks' ∨ (∃ y ∈ W', y.1.Free x ∧ x ∉ y.2) ∨ ∃ k ∈ h.parts, k.Free x ∧ x ∉ inB h B) ↔ f.Free x) → ∀ D : Ends,
        (∀ (w6 : Addr) (C6 : Hp) (W6 : List (Sy × List T)) x6 x7, H w6 = none → w6 ≠ fd → Ex H C6 → Dom (w6 :: fd :: X) C6 → C6 fd = some (.dK (enc ks')) → LAt g.K (w6 :: fd :: X) C6 w6 (W6.map pD) → (∀ y ∈ W6, y.1.Wf ∧ y.2.length + y.1.sz ≤ 100) → (∀ x, (x ∈ ks' ∨ ∃ y ∈ W6, y.1.Free x ∧ x ∉ y.2) ↔ f.Free x) → szw W6 < m → D.nx [some v, some (.ref fd), some (.ref w6), some hv, some bv, x5', x6, x7] C6) →
        tSeq (tAsg (tIf (tTest (tOp (rIn g.K false) (tOp (rIx g.K) (tVar 3) (tC (.int 0))) (tLst (tCons (tC (.str "all")) (tCons (tC (.str "some")) tNil))))) (tOp rCat (tVar 4) (tLst (tCons (tOp (rIx g.K) (tVar 3) (tC (.int 1))) tNil))) (tVar 4)) (gName 6)) (tAsg (tOp rCat (tVar 2) (tLc (iList g.K (tCall (sp_law_s_parts g) [] E0 (tCons (tVar 3) tNil))) (gName 7) tYes (tTup (tCons (tVar 7) (tCons (tVar 6) tNil))) [7])) (gName 2)) D [some v, some (.ref fd), some (.ref w), some hv, some bv, x5', x6, x7] C3 := by
      intro C3 ks' x5' hx3 dm3 hfd3 hnd3 hok3 hw3 ah3 ab3 hiff3 D kk
      have dm3' : Dom (fd :: X) C3 := fun a m => dm3 a (List.mem_cons_of_mem _ m)
      have hwi : EvD g.K (fd :: X) (tIf (tTest (tOp (rIn g.K false) (tOp (rIx g.K) (tVar 3) (tC (.int 0))) (tLst (tCons (tC (.str "all")) (tCons (tC (.str "some")) tNil))))) (tOp rCat (tVar 4) (tLst (tCons (tOp (rIx g.K) (tVar 3) (tC (.int 1))) tNil))) (tVar 4)) [some v, some (.ref fd), some (.ref w), some hv, some bv, x5', x6, x7] C3 (.list ((inB h B).map Mi.str)) := by
        have h0 : EvD g.K (fd :: X) (tOp (rIx g.K) (tVar 3) (tC (.int 0))) [some v, some (.ref fd), some (.ref w), some hv, some bv, x5', x6, x7] C3 (Mi.str (Dy.Sy.hd h)) := ix0 rfl (by rw [← hrr]; exact ah3)
        have other : Dy.Sy.hd h ∉ [kAll, kSome] → inB h B = B → EvD g.K (fd :: X) (tIf (tTest (tOp (rIn g.K false) (tOp (rIx g.K) (tVar 3) (tC (.int 0))) (tLst (tCons (tC (.str "all")) (tCons (tC (.str "some")) tNil))))) (tOp rCat (tVar 4) (tLst (tCons (tOp (rIx g.K) (tVar 3) (tC (.int 1))) tNil))) (tVar 4)) [some v, some (.ref fd), some (.ref w), some hv, some bv, x5', x6, x7] C3 (.list ((inB h B).map Mi.str)) := fun hn hb => by
          rw [hb]
          exact ev_if (b := false) (et_test (ev_op h0 (ev_allsome dm3') (rd_is rd_inLs (by rw [decide_eq_false hn])))) (fun h => by cases h) fun _ => ev_var rfl ab3
        cases h with
        | rel r a b =>
          have : ∀ r ∈ RELS, r ∉ [kAll, kSome] := by decide
          exact other (this r hwh.1) rfl
        | not k => exact other (by show kNot ∉ _; decide) rfl
        | bin o k j => exact other (name_no o).2.1 rfl
        | quant o x k =>
          have ah3 : At g.K (fd :: X) C3 hv (.tuple [Mi.str (qName o), Mi.str x, k.data]) := ah3
          refine ev_if (b := true) (et_test (ev_op h0 (ev_allsome dm3') (rd_is rd_inLs (by rw [show Dy.Sy.hd (.quant o x k) = qName o from rfl, decide_eq_true (q_no o).2.1])))) (fun _ => ?_) (fun h => by cases h)
          refine evD_is (ev_op (ev_var rfl ab3) (ev_l1 dm3' (ix1 rfl ah3)) (rd_catL dm3' (by simp; omega))) ?_
          show PyData.list (B.map Mi.str ++ [Mi.str x]) = .list ((B ++ [x]).map Mi.str)
          rw [List.map_append]; rfl
      refine q_asg hwi fun wv C4 e4 awv => ?_
      have dm4 := dm3'.pr e4
      have hwl4 := szw_len W'
      have hpl := szw_len (h.parts.map fun k => (k, inB h B))
      have hps := parts_sz h (inB h B)
      have evl : EvD g.K (fd :: X) (tLc (iList g.K (tCall (sp_law_s_parts g) [] E0 (tCons (tVar 3) tNil))) (gName 7) tYes (tTup (tCons (tVar 7) (tCons (tVar 6) tNil))) [7]) [some v, some (.ref fd), some (.ref w), some hv, some bv, x5', some wv, x7] C4 (.list ((h.parts.map fun k => (k, inB h B)).map pD)) := by
        refine evD_is (ev_lc dm4 (ei_lst (ev_call (ea_cons (ev_var rfl (ah3.ex e4)) ea_nil) (spd dm4 ⟨h, hwh, rfl, rfl⟩))) (fun _ => true) (fun d => .tuple [d, .list ((inB h B).map Mi.str)]) (by rw [List.length_map]; rw [List.length_map] at hpl; omega) (fun Y H2 k dY v d ad hd => fun H3 e3 Q q => q H3 (Ex.refl _)) fun Y H2 k dY v d ad hd _ => ev_tup dY (ea_cons (ev_var rfl ad) (ea_cons (ev_var rfl (k _ _ awv)) ea_nil)) (by show 2 ≤ 100000; decide)) ?_
        rw [List.filter_eq_self.mpr (fun _ _ => rfl), List.map_map, List.map_map]; rfl
      refine r_cat (X := fd :: X) (ev_var rfl ((hevw hw3).ex e4)) evl (by rw [List.length_map, List.length_map]; omega) fun w6 C6 hw6 e6 lw6 => ?_
      have hx34 := hx3.trans e4
      refine kk w6 C6 (W' ++ h.parts.map fun k => (k, inB h B)) _ _ (fresh_back hx34 hw6) (fun z => dm4 w6 (by rw [z]; exact hfZ) hw6) (hx34.trans e6) (dm4.more e6 lw6.dom) (e6 _ _ (e4 _ _ hfd3)) (by rw [List.map_append]; exact lw6) (fun y hy => ?_) (fun x => ?_) (by rw [szw_app]; omega)
      · rcases List.mem_append.mp hy with hy | hy
        · exact hW' y hy
        · obtain ⟨k, hk, rfl⟩ := List.mem_map.mp hy
          have h1 := parts_each k hk
          have h2 := inB_len h B
          exact ⟨parts_wf hwh k hk, by show (inB h B).length + k.sz ≤ 100; omega⟩
      · rw [← hiff3 x]
        constructor
        · rintro (z | ⟨y, hy, hyf⟩)
          · exact .inl z
          · rcases List.mem_append.mp hy with hy | hy
            · exact .inr (.inl ⟨y, hy, hyf⟩)
            · obtain ⟨k, hk, rfl⟩ := List.mem_map.mp hy
              exact .inr (.inr ⟨k, hk, hyf⟩)
        · rintro (z | ⟨y, hy, hyf⟩ | ⟨k, hk, hkf⟩)
          · exact .inl z
          · exact .inr ⟨y, List.mem_append_left _ hy, hyf⟩
          · exact .inr ⟨(k, inB h B), List.mem_append_right _ (List.mem_map_of_mem hk), hkf⟩
    have fin : ∀ (C3 : Hp) (ks' : List T) (x5' : Option V), ks'.Nodup → (∀ x ∈ ks', ok (S x)) → ∀ (w6 : Addr) (C6 : Hp) (W6 : List (Sy × List T)) (x6 x7 : Option V), H w6 = none → w6 ≠ fd → Ex H C6 → Dom (w6 :: fd :: X) C6 → C6 fd = some (.dK (enc ks')) → LAt g.K (w6 :: fd :: X) C6 w6 (W6.map pD) → (∀ y ∈ W6, y.1.Wf ∧ y.2.length + y.1.sz ≤ 100) → (∀ x, (x ∈ ks' ∨ ∃ y ∈ W6, y.1.Free x ∧ x ∉ y.2) ↔ f.Free x) → szw W6 < m →
        ∃ m', m' < m ∧ ∃ W : List (Sy × List T), ∃ ks : List T, ∃ w x3 x4 x5 y6 y7, [some v, some (.ref fd), some (.ref w6), some hv, some bv, x5', x6, x7] = [some v, some (.ref fd), some (.ref w), x3, x4, x5, y6, y7] ∧ H w = none ∧ w ≠ fd ∧ Ex H C6 ∧ Dom (w :: fd :: X) C6 ∧ C6 fd = some (.dK (enc ks)) ∧ ks.Nodup ∧ (∀ x ∈ ks, ok (S x)) ∧ LAt g.K (w :: fd :: X) C6 w (W.map pD) ∧ (∀ y ∈ W, y.1.Wf ∧ y.2.length + y.1.sz ≤ 100) ∧ (∀ x, (x ∈ ks ∨ ∃ y ∈ W, y.1.Free x ∧ x ∉ y.2) ↔ f.Free x) ∧ szw W ≤ 100 ∧ m' = szw W :=
      fun C3 ks' x5' n1 n2 w6 C6 W6 x6 x7 k1 k2 k3 k4 k5 k6 k7 k8 k9 => ⟨_, k9, W6, ks', w6, _, _, _, _, _, rfl, k1, k2, k3, k4, k5, n1, n2, k6, k7, k8, by omega, rfl⟩
    by_cases hrel : ∃ r b c, h = .rel r b c
    · obtain ⟨r, b, c, hrbc⟩ := hrel
      subst hrbc
      have ah' : At g.K (fd :: X) C2 hv (.tuple [Mi.str r, b.data, c.data]) := ah
      refine Evl.q_if (b := true) (et_test (ev_op (ev_call (ea_cons (ev_var rfl ah) ea_nil) (spd (z := .list []) dm2' ⟨.rel r b c, hwh, rfl, rfl⟩)) (ev_lst dm2' ea_nil (by simp)) (rd_is rd_eqNil rfl))) (fun _ C3 e3 => ?_) (fun h => by cases h)
      have hszr : b.sz + c.sz + 1 ≤ 100 := by have : (Sy.rel r b c).sz = b.sz + c.sz + 1 := rfl; omega
      refine r_forL ?_
      refine (show EvD g.K (fd :: X) (tSl (rSlT g.K) (tVar 3) (tPart (tC (.int 1))) tNoPart) [some v, some (.ref fd), some (.ref w), some hv, some bv, x5, x6, x7] C3 (.tuple ([b, c].map Tm.data)) from evD_is (ev_slT (dm2'.pr e3) (ev_var rfl (ah'.ex e3)) eo_i eo_none sl1) (by rw [cut1]; rfl)) C3 (Ex.refl _) _ fun sv C4 e4 asv => ?_
      have e34 := e3.trans e4
      refine ⟨fd :: X, sv, [b, c], rfl, dm2'.pr e34, asv, fun a ha => by simp at ha; rcases ha with z | z <;> subst z; exact hwh.2.1; exact hwh.2.2, by show b.sz + (c.sz + 0) ≤ 1000; omega, fun C5 u ns e5 hns hnl au => ?_⟩
      have e25 := e34.trans e5
      have hoku := ok_names au
      have hfr : ∀ x, x ∈ ns → (Sy.rel r b c).Free x := fun x hx => by
        obtain ⟨t, ht, hxt⟩ := (hns x).mp hx
        simp at ht
        rcases ht with z | z
        · subst z; exact .inl hxt
        · subst z; exact .inr hxt
      refine s_for (K := g.K) (X := fd :: X) (ei_lst (ev_cD au)) (fun i σ' C6 => ∃ x5' ks', σ' = [some v, some (.ref fd), some (.ref w), some hv, some bv, x5', x6, x7] ∧ Ex H C6 ∧ Dom (w :: fd :: X) C6 ∧ C6 fd = some (.dK (enc ks')) ∧ ks'.Nodup ∧ (∀ x ∈ ks', ok (S x)) ∧ LAt g.K (w :: fd :: X) C6 w (W'.map pD) ∧ At g.K (fd :: X) C6 hv (Sy.rel r b c).data ∧ At g.K (fd :: X) C6 bv (.list (B.map Mi.str)) ∧ ∀ x, x ∈ ks' ↔ (x ∈ ks ∨ (x ∈ ns.take i ∧ x ∉ B))) (fun C6 e6 => ⟨x5, ks, rfl, (hx2.trans e25).trans e6, dm2.pr (e25.trans e6), e6 _ _ (e25 _ _ hfd2), hnd, hoks, hw2.ex (e25.trans e6), ah.ex (e25.trans e6), ab.ex (e25.trans e6), fun x => by simp⟩) (fun C6 i d u7 σ' C7 e6 p7 hd ad ⟨x5', ks', hσ, hx7, dm7, hfd7, hnd7, hok7, hw7, ah7, ab7, hk7⟩ => ?_) (fun C6 σ' C7 e6 p7 ⟨x5', ks', hσ, hx7, dm7, hfd7, hnd7, hok7, hw7, ah7, ab7, hk7⟩ => ?_)
      · subst hσ
        rw [List.getElem?_map] at hd
        obtain ⟨x, hxn, rfl⟩ := Option.map_eq_some_iff.mp hd
        have okx := at_str_ok ad
        have huv := at_str_inv ad
        subst huv
        have tk : ns.take (i + 1) = ns.take i ++ [x] := by rw [List.take_add_one, hxn]; rfl
        have hxm := List.mem_of_getElem? hxn
        have dm7' : Dom (fd :: X) C7 := fun a m => dm7 a (List.mem_cons_of_mem _ m)
        refine Evl.s_when (b := !decide (x ∈ B)) (et_test (ev_op (ev_var rfl ad) (ev_var rfl ab7) rd_niLs)) (fun hb C8 e8 => ?_) (fun hb C8 e8 => ?_)
        · have hb : x ∉ B := by simpa using hb
          have hfd8 := e8 _ _ hfd7
          have hksl : ks'.length ≤ 6 := by
            refine Nat.le_trans (nodup_len hnd7 (B := B0) fun y hy => hfree y ?_) hB0
            rw [← hiff y]
            rcases (hk7 y).mp hy with z | ⟨z1, z2⟩
            · exact .inl z
            · exact .inr ⟨(.rel r b c, B), by simp, hfr y (List.mem_of_mem_take z1), z2⟩
          refine ⟨_, rfl, _, rfl, fd, _, rfl, .inl ⟨enc ks', .inr (S x), hfd8, rfl, ?_, rfl⟩, ?_⟩
          · unfold enc
            rw [List.length_map]
            exact Nat.lt_of_le_of_lt hksl (by decide)
          · rw [enc_put]
            have pf : Pr [fd] C8 (upd C8 fd (.dK (enc (if x ∈ ks' then ks' else ks' ++ [x])))) := pr_upd List.mem_cons_self
            have hw8 := (hw7.ex e8).pr pf (s1 (List.mem_cons_of_mem _ hfZ)) fun m => hwf (List.mem_singleton.mp m)
            refine ⟨(p7.trans (Ex.pr e8)).trans (pf.lift hfZ), _, (if x ∈ ks' then ks' else ks' ++ [x]), rfl, ex_pr (hx7.trans e8) pf hfd, (dm7.pr e8).upd, upd_same, ?_, fun y hy => ?_, hw8, (ah7.ex e8).pr (pf.lift hfZ), (ab7.ex e8).pr (pf.lift hfZ), fun y => ?_⟩
            · by_cases hin : x ∈ ks'
              · rw [if_pos hin]; exact hnd7
              · rw [if_neg hin]
                exact List.nodup_append.mpr ⟨hnd7, by simp, fun a ha b hb => by rw [List.mem_singleton.mp hb]; exact fun e => hin (by rw [← e]; exact ha)⟩
            · by_cases hin : x ∈ ks'
              · rw [if_pos hin] at hy; exact hok7 y hy
              · rw [if_neg hin] at hy
                rcases List.mem_append.mp hy with z | z
                · exact hok7 y z
                · rw [List.mem_singleton.mp z]; exact okx
            · have key : y ∈ (if x ∈ ks' then ks' else ks' ++ [x]) ↔ (y ∈ ks' ∨ y = x) := by
                by_cases hin : x ∈ ks'
                · rw [if_pos hin]
                  exact ⟨.inl, fun z => z.elim id fun e => by rw [e]; exact hin⟩
                · rw [if_neg hin]; simp
              rw [key, hk7 y, tk]
              simp only [List.mem_append, List.mem_singleton]
              constructor
              · rintro ((z | ⟨z1, z2⟩) | z)
                · exact .inl z
                · exact .inr ⟨.inl z1, z2⟩
                · exact .inr ⟨.inr z, by rw [z]; exact hb⟩
              · rintro (z | ⟨z1 | z1, z2⟩)
                · exact .inl (.inl z)
                · exact .inl (.inr ⟨z1, z2⟩)
                · exact .inr z1
        · have hb : x ∈ B := by simpa using hb
          refine ⟨p7.trans (Ex.pr e8), _, ks', rfl, hx7.trans e8, dm7.pr e8, e8 _ _ hfd7, hnd7, hok7, hw7.ex e8, ah7.ex e8, ab7.ex e8, fun y => ?_⟩
          rw [hk7 y, tk]
          simp only [List.mem_append, List.mem_singleton]
          constructor
          · rintro (z | ⟨z1, z2⟩)
            · exact .inl z
            · exact .inr ⟨.inl z1, z2⟩
          · rintro (z | ⟨z1 | z1, z2⟩)
            · exact .inl z
            · exact .inr ⟨z1, z2⟩
            · rw [z1] at z2; exact absurd hb z2
      · subst hσ
        rw [List.length_map, List.take_length] at hk7
        refine tail C7 ks' x5' hx7 dm7 hfd7 hnd7 hok7 hw7 ah7 ab7 (fun x => ?_) _ (fin C7 ks' x5' hnd7 hok7)
        rw [← hiff x, hk7 x]
        constructor
        · rintro ((z | ⟨z1, z2⟩) | ⟨y, hy, hyf⟩ | ⟨k, hk, _⟩)
          · exact .inl z
          · exact .inr ⟨(.rel r b c, B), by simp, hfr x z1, z2⟩
          · exact .inr ⟨y, by simp [hy], hyf⟩
          · cases hk
        · rintro (z | ⟨y, hy, hyf⟩)
          · exact .inl (.inl z)
          · rcases List.mem_append.mp hy with hy | hy
            · exact .inr (.inl ⟨y, hy, hyf⟩)
            · rw [List.mem_singleton.mp hy] at hyf
              refine .inl (.inr ⟨(hns x).mpr ?_, hyf.2⟩)
              rcases hyf.1 with z | z
              · exact ⟨b, by simp, z⟩
              · exact ⟨c, by simp, z⟩
    · have hrel' : ∀ r b c, h ≠ .rel r b c := fun r b c e => hrel ⟨r, b, c, e⟩
      have hpne : h.parts.map Sy.data ≠ [] := by
        cases h with
        | rel r b c => exact absurd rfl (hrel' r b c)
        | not k => simp [Sy.parts]
        | bin o k j => simp [Sy.parts]
        | quant o x k => simp [Sy.parts]
      refine Evl.q_when (b := false) (et_test (ev_op (ev_call (ea_cons (ev_var rfl ah) ea_nil) (spd dm2' ⟨h, hwh, rfl, rfl⟩)) (ev_lst dm2' ea_nil (by simp)) (rd_is rd_eqNil (by rw [decide_eq_false hpne])))) (fun h => by cases h) fun _ C3 e3 => ?_
      refine tail C3 ks x5 (hx2.trans e3) (dm2.pr e3) (e3 _ _ hfd2) hnd hoks (hw2.ex e3) (ah.ex e3) (ab.ex e3) (fun x => ?_) _ (fin C3 ks x5 hnd hoks)
      rw [← hiff x, ← free_parts h B x hrel']
      constructor
      · rintro (z | ⟨y, hy, hyf⟩ | z)
        · exact .inl z
        · exact .inr ⟨y, by simp [hy], hyf⟩
        · exact .inr ⟨(h, B), by simp, z⟩
      · rintro (z | ⟨y, hy, hyf⟩)
        · exact .inl z
        · rcases List.mem_append.mp hy with hy | hy
          · exact .inr (.inl ⟨y, hy, hyf⟩)
          · rw [List.mem_singleton.mp hy] at hyf
            exact .inr (.inr hyf)
  · have hnil : W = [] := by simpa using hb
    subst hnil
    have hk : ∀ x, x ∈ ks ↔ f.Free x := fun x => by rw [← hiff x]; simp
    have hksl : ks.length ≤ 6 := Nat.le_trans (nodup_len hnd fun y hy => hfree y ((hk y).mp hy)) hB0
    have hfd1 := e1 _ _ hfdC
    have hx1 := hx.trans e1
    refine ⟨_, rfl, fd, enc ks, rfl, hfd1, fun l hl => ?_⟩
    have hl0 : H l = none := fresh_back hx1 hl
    have e2 : Ex H (upd C1 l (.lst ((enc ks).map fun kv => kV kv.1))) := hx1.trans (Ex.new hl)
    have el : ((enc ks).map fun kv => kV kv.1) = (ks.map S).map V.str := by
      unfold enc
      rw [List.map_map, List.map_map]; rfl
    refine ⟨l, ks.map S, rfl, sq_of (by rw [el]; exact upd_same), by rw [List.length_map]; omega, fun ys p hp hs hpp => ?_⟩
    have hys : ∃ fr : List T, ys = fr.map S ∧ fr.Perm ks := by
      refine ⟨ys.map fun y => y.cps.toList, ?_, ?_⟩
      · rw [List.map_map]
        have : (S ∘ fun (y : Str) => y.cps.toList) = id := by funext y; exact S_of y
        rw [this, List.map_id]
      · have := hp.map fun y : Str => y.cps.toList
        rw [List.map_map] at this
        have e : ((fun y : Str => y.cps.toList) ∘ S) = id := by funext y; rfl
        rw [e, List.map_id] at this
        exact this
    obtain ⟨fr, rfl, hperm⟩ := hys
    have hpX : p ∉ X := fun m => (dm.pr e2) p m hpp
    refine q _ _ fr (e2.trans (Ex.new hpp)) (fun x => by rw [hperm.mem_iff, hk x]) (hperm.nodup_iff.mpr hnd) (at_lst hpX upd_same ?_)
    have : fr.map Mi.str = (fr.map S).map PyData.str := by rw [List.map_map]; rfl
    rw [this]
    exact ats_of_strs fun s hs => by
      obtain ⟨x, hx, rfl⟩ := List.mem_map.mp hs
      exact hoks x (hperm.mem_iff.mp hx)
end
end Dy
namespace Dy
open PySem L2 Evl Mi
def unr : Res → Option Nat
  | .unread p => some p
  | .read _ => none
theorem unr_some {r : Res} {p : Nat} (h : unr r = some p) : r = .unread p := by
  cases r with
  | read v => cases h
  | unread q => cases h; rfl
theorem unr_none {r : Res} (h : unr r = none) : ∃ v, r = .read v := by
  cases r with
  | read v => exact ⟨v, rfl⟩
  | unread q => cases h
def RDS : List T := [[120, 32, 61, 32, 45, 49], [120, 32, 61, 49, 32, 10]]
theorem known_ok : ∀ x ∈ KN, unr (settle x.1 [[120], [121]]) = some x.2 ∨ (unr (settle x.1 [[120], [121]]) = none ∧ x.1 ∈ RDS) := by decide +kernel
def KT4 : List (T × Nat) := [([120, 32, 61, 32, 49], 0), ([97, 108, 108, 32, 120, 58, 32, 120, 32, 61, 32, 121], 11), ([115, 111, 109, 101, 32, 120, 58, 32, 120, 32, 61, 32, 120, 121], 13), ([97, 108, 108, 32, 97, 98, 58, 32, 97, 32, 61, 32, 49], 9)]
theorem kt4_ok : ∀ x ∈ KT4, unr (settle x.1 []) = some x.2 := by decide +kernel
def rep1 : T := repT 40 [40, 40, 40, 40, 40, 40, 40, 40, 40, 40]
def rep2 : T := repT 60 [110, 111, 116, 32, 91]
theorem rep1_ok : settle rep1 [] = .unread 400 := unr_some (by decide +kernel)
theorem rep2_ok : settle rep2 [] = .unread 300 := unr_some (by decide +kernel)
theorem kn_len : ∀ x ∈ KN, x.1.length ≤ 100 := by decide +kernel
theorem kn_ok : ∀ x ∈ KN, ∀ c ∈ x.1, c < 0x110000 := by decide +kernel
end Dy
namespace Dy
open PySem L2 Evl Mi
def oc : Op → Nat
  | .one _ => 1
  | .two _ u => 1 + nd u
  | .quant _ ns _ => ns.length + 2
def ocs : List Op → Nat
  | [] => 0
  | o :: r => oc o + ocs r
def cj (c : Co) : Nat := ocs c.opened + nd c.value
def wv (w : W) (v : PyData) : Nat := match w with
  | .more => nd v
  | .joined => nd v
  | .expo => nd v
  | .name _ ns => ns.length
  | .comma _ ns => ns.length
  | _ => 0
def ct (c : Co) : Nat := ocs c.opened + wv c.w c.value
def OutB (b : Nat) : Out → Prop
  | .stop _ => True
  | .go c => ct c ≤ b + 2
  | .done v => nd v ≤ b
theorem OutB.up {a b : Nat} {o : Out} (h : OutB a o) (hab : a ≤ b) : OutB b o := by
  cases o with
  | stop _ => trivial
  | go c => exact Nat.le_trans h (by omega)
  | done v => exact Nat.le_trans h hab
theorem nds_strs : ∀ ns : List T, nds (ns.map Mi.str) = 0
  | [] => rfl
  | n :: ns => by show 0 + nds (ns.map Mi.str) = 0; rw [nds_strs ns]
theorem opVal_nd (o : Op) (v : PyData) : nd (opVal o v) ≤ oc o + nd v := by
  cases o with
  | one h => show nd (pair h v) ≤ _; rw [nd_pair]; exact Nat.le_refl _
  | two h u => show nd (trip h u v) ≤ _; rw [nd_trip]; exact Nat.le_refl _
  | quant h ns m =>
    show 1 + (0 + ((1 + nds (ns.map Mi.str)) + (0 + (nd v + 0)))) ≤ ns.length + 2 + nd v
    rw [nds_strs]; omega
theorem nest_nd (h : T) (v : PyData) : ∀ ns : List T, nd (nest h ns v) = ns.length + nd v
  | [] => by show nd v = _; simp
  | n :: ns => by
    show nd (trip h (Mi.str n) (nest h ns v)) = _
    rw [nd_trip, nest_nd h v ns, nd_str, List.length_cons]; omega
theorem join_cj (c : Co) (hs : List T) : cj (join c hs) ≤ cj c := by
  obtain ⟨b, O, w, v, ws, i⟩ := c
  unfold join
  cases O with
  | nil => exact Nat.le_refl _
  | cons o r =>
    simp only
    split
    · show ocs r + nd (opVal o v) ≤ oc o + ocs r + nd v
      have := opVal_nd o v
      omega
    · exact Nat.le_refl _
theorem joins_cj (hs : List T) : ∀ (O : List Op) (v : PyData), ocs (joins hs O v).1 + nd (joins hs O v).2 ≤ ocs O + nd v
  | [], v => Nat.le_refl _
  | o :: r, v => by
    unfold joins
    split
    · have h1 := joins_cj hs r (opVal o v)
      have h2 := opVal_nd o v
      show _ ≤ oc o + ocs r + nd v
      omega
    · exact Nat.le_refl _
theorem joinAll_cj (c : Co) (hs : List T) : cj (joinAll c hs) ≤ cj c := joins_cj hs c.opened c.value
theorem pushed_b {c : Co} {h : T} {w : W} {b : Nat} (hb : cj c ≤ b) (hw : w = .unit ∨ w = .base ∨ w = .term) : OutB b (.go (pushed c h w)) := by
  show oc (.two h c.value) + ocs c.opened + wv w c.value ≤ b + 2
  have : wv w c.value = 0 := by rcases hw with e | e | e <;> subst e <;> rfl
  rw [this]
  show 1 + nd c.value + ocs c.opened + 0 ≤ b + 2
  unfold cj at hb
  omega
theorem stop_b {k : Mi.Kind} {t : T} {ws : List T} {x : Bool} {b : Nat} : OutB b (stopAt k t ws x) := by rw [stopAt_off]; trivial
theorem dJoined_b {k : Mi.Kind} {t : T} : ∀ (n : Nat) (c : Co), OutB (cj c) (dJoined k t n c)
  | 0, c => stop_b
  | n + 1, c => by
    have h1 : cj (join (joinAll c [kNot]) [kAnd]) ≤ cj c := Nat.le_trans (join_cj _ _) (joinAll_cj _ _)
    unfold dJoined dAnd
    split
    · exact pushed_b h1 (.inl rfl)
    · have h2 := Nat.le_trans (join_cj (join (joinAll c [kNot]) [kAnd]) [kOr]) h1
      unfold dOr
      split
      · exact pushed_b h2 (.inl rfl)
      · split
        · exact pushed_b h2 (.inl rfl)
        · split
          · exact pushed_b h2 (.inl rfl)
          · have h3 := Nat.le_trans (joinAll_cj (join (join (joinAll c [kNot]) [kAnd]) [kOr]) [kImp, kIff]) h2
            revert h3
            generalize joinAll (join (join (joinAll c [kNot]) [kAnd]) [kOr]) [kImp, kIff] = c3
            intro h3
            unfold dEnd
            split
            · rename_i hh ns many r e
              refine (dJoined_b n _).up ?_
              show ocs r + nd (nest hh ns c3.value) ≤ cj c
              rw [nest_nd]
              unfold cj at h3 ⊢
              rw [e] at h3
              have : ocs (.quant hh ns many :: r) = ns.length + 2 + ocs r := rfl
              omega
            · rename_i e
              split
              · show nd c3.value ≤ cj c
                unfold cj at h3 ⊢
                omega
              · exact stop_b
            · rename_i o r _ e
              split
              · show ocs r + nd c3.value ≤ cj c + 2
                unfold cj at h3
                rw [e] at h3
                have : ocs (o :: r) = oc o + ocs r := rfl
                have hcj : cj c = ocs c.opened + nd c.value := rfl
                omega
              · exact stop_b
theorem ocs_tail : ∀ O : List Op, ocs O.tail ≤ ocs O
  | [] => Nat.le_refl _
  | o :: r => by show ocs r ≤ oc o + ocs r; omega
theorem dSum_b {k : Mi.Kind} {t : T} {c : Co} {b : Nat} (h : cj c ≤ b) : OutB b (dSum k t c) := by
  unfold dSum
  split
  · exact pushed_b h (.inr (.inl rfl))
  · split
    · exact pushed_b h (.inr (.inl rfl))
    · split
      · split
        · have := ocs_tail c.opened
          show ocs c.opened.tail + nd c.value ≤ b + 2
          unfold cj at h
          omega
        · exact stop_b
      · split
        · refine (dJoined_b _ _).up ?_
          exact Nat.le_trans (join_cj c RELS) h
        · split
          · exact pushed_b h (.inr (.inr rfl))
          · exact stop_b
theorem numOut_b {k : Mi.Kind} {t : T} {m : Nat} {f : Nat → Out} {b : Nat} (h : ∀ n, OutB b (f n)) : OutB b (numOut k t m f) := by
  unfold numOut
  split
  · exact stop_b
  · split
    · trivial
    · split
      · trivial
      · exact h _
theorem dBase_b {k : Mi.Kind} {t : T} {c : Co} {b : Nat} (h : ocs c.opened ≤ b) : OutB b (dBase k t c) := by
  unfold dBase
  split
  · show 1 + ocs c.opened + 0 ≤ b + 2; omega
  · split
    · refine numOut_b fun n => ?_
      show ocs c.opened + nd (pair kNumber (.int n)) ≤ b + 2
      rw [nd_pair]; show _ + (1 + 0) ≤ _; omega
    · split
      · show ocs c.opened + nd (pair kLetter (Mi.str t)) ≤ b + 2
        rw [nd_pair]; show _ + (1 + 0) ≤ _; omega
      · exact stop_b
theorem dTerm_b {k : Mi.Kind} {t : T} {c : Co} {b : Nat} (h : ocs c.opened ≤ b) : OutB b (dTerm k t c) := by
  unfold dTerm
  split
  · show 1 + ocs c.opened + 0 ≤ b + 2; omega
  · exact dBase_b h
theorem delta_b {k : Mi.Kind} {t : T} {c : Co} : OutB (ct c) (Mi.delta k t c) := by
  obtain ⟨bd, O, w, v, ws, ib⟩ := c
  cases w with
  | unit =>
    show OutB (ocs O + 0) (dUnit k t _)
    unfold dUnit
    split
    · show 1 + ocs O + 0 ≤ _; omega
    · split
      · show ocs O + 0 ≤ _; omega
      · exact dTerm_b (Nat.le_refl _)
  | term => exact dTerm_b (Nat.le_refl _)
  | base => exact dBase_b (Nat.le_refl _)
  | more =>
    show OutB (ocs O + nd v) (dMore k t _)
    unfold dMore
    split
    · show ocs O + nd v ≤ _; omega
    · have h1 : cj (join ⟨bd, O, .more, v, ws, ib⟩ [kTimes]) ≤ ocs O + nd v := join_cj _ _
      unfold dMul
      split
      · exact pushed_b h1 (.inr (.inl rfl))
      · exact dSum_b (Nat.le_trans (join_cj _ _) h1)
  | joined => exact dJoined_b _ _
  | name h ns =>
    show OutB (ocs O + ns.length) (if _ then _ else _)
    split
    · exact stop_b
    · split
      · trivial
      · split
        · trivial
        · show ocs O + (ns ++ [t]).length ≤ _
          rw [List.length_append]; show _ + (_ + 1) ≤ _; omega
  | comma h ns =>
    show OutB (ocs O + ns.length) (if _ then _ else _)
    split
    · show ocs O + ns.length ≤ _; omega
    · split
      · show ns.length + 2 + ocs O + 0 ≤ _; omega
      · exact stop_b
  | expo =>
    have hd : Mi.delta k t ⟨bd, O, .expo, v, ws, ib⟩ = numOut k t 1 fun n => .go ⟨bd, O, .more, trip kPower v (.int n), ws, false⟩ := rfl
    rw [hd]
    show OutB (ocs O + nd v) _
    refine numOut_b fun n => ?_
    show ocs O + nd (trip kPower v (.int n)) ≤ _
    rw [nd_trip]; show _ + (1 + nd v + 0) ≤ _; omega
theorem parse_nd {t : T} : ∀ (n : Nat) (c : Co) (a : Nat) {v : PyData}, a ≤ t.length → ct c ≤ 2 * a → parse t n c (tokenAt t a) = .read v → nd v ≤ 2 * t.length
  | 0, c, a, v, _, _, h => by cases h
  | n + 1, c, a, v, ha, hc, h => by
    have hb := delta_b (k := (tokenAt t a).kind) (t := (tokenAt t a).tok) (c := c)
    have hend := tokenAt_end (t := t) ha
    have hra := runEnd_ge (p := isB) (t := t) (a := a)
    rw [← tokenAt_place] at hra
    unfold parse at h
    cases ho : Mi.delta (tokenAt t a).kind (tokenAt t a).tok c with
    | stop off => rw [ho] at h; cases h
    | done w =>
      rw [ho] at h hb
      cases h
      exact Nat.le_trans hb (Nat.le_trans hc (by omega))
    | go c2 =>
      rw [ho] at h hb
      have hpos := IsAt.pos (t := t) ⟨a, ha, rfl⟩ (delta_go ho)
      have hb : ct c2 ≤ ct c + 2 := hb
      exact parse_nd n c2 _ hend (by omega) h
/-- what is read is not greater than its text -/
theorem settle_nd {t : T} {free : List T} {v : PyData} (h : settle t free = .read v) : nd v ≤ 2 * t.length := parse_nd _ _ 0 (Nat.zero_le _) (Nat.le_refl _) h
end Dy
namespace Dy
open PySem L2 Evl Mi
section
variable {g : G8} (G : Gf g) {X Y : List Addr} {H H' H1 A : Hp} {p l q a : Addr} {σ : L2.St} {Q : VK} {i j : Nat} {D : Ends} {tz : TS} {tv tw ts th te tp tf : TE} {d z : PyData} {v nv u : V} {N n : Nat} {ds : List PyData} {t : T} {free : List T}
theorem get_ne (h : σ[j]? = some (some v)) (hn : i ≠ j) {w : Option V} : (σ.set i w)[j]? = some (some v) := by
  rw [List.getElem?_set_ne hn]; exact h
theorem get_eq (h : i < σ.length) : (σ.set i (some v))[i]? = some (some v) := List.getElem?_set_self h
theorem m_settle {f : V} (he : EvD g.K X te σ H (Mi.str t)) (hs : σ[i]? = some (some f)) (dm : Dom X H) (lt : t.length ≤ 10000) (hf : FreeAt g X H f free) (q : ∀ H' a, Ex H H' → H a = none → SRes g X H' a t (settle t free) → Q (.ref a) H') :
    tCall (sp_settle_formula g) [] E0 (tCons te (tCons (tVar i) tNil)) σ H Q := by
  refine he H (Ex.refl _) _ fun v H1 e1 av => ?_
  cases at_str_inv av
  exact ⟨_, hs, X, t, f, free, rfl, dm.pr e1, at_str_ok av, lt, hf.ex e1, fun H' a e2 ha hr => q H' a (e1.trans e2) (fresh_back e1 ha) hr⟩
/-- told != Unread(place, end), where it is that -/
theorem et_neU {dx : Addr} {pl : Nat} {en : Bool} (hs : σ[i]? = some (some (.ref a))) (ha : H a = some (.ins g.Unread dx [("place", .int (pl : Nat)), ("is_end", .bl en)])) (h1 : EvD g.K X tp σ H (.int (pl : Nat))) (h2 : EvD g.K X te σ H (.bool en)) :
    EvT (tTest (tOp (rNeO g) (tVar i) (tMake g.Unread (sp_Unread_init g) [] E0 (tCons tp (tCons te tNil))))) σ H false := fun H1 e1 Q q => by
  refine ⟨_, hs, ?_⟩
  refine mk_un (X := X) (h1.ex e1) (h2.ex e1) fun b H2 e2 hb ⟨dy, x, y, hb1, ax, ay⟩ => ?_
  cases at_int_inv ax
  cases at_bl_inv ay
  have ha2 := e2 _ _ (e1 _ _ ha)
  exact ⟨⟨a, b, dx, dy, _, _, rfl, rfl, ha2, hb1, (pl : Nat), en, ⟨dx, _, ha2, rfl, rfl⟩, dy, _, hb1, rfl, rfl⟩, fun H' e' => ⟨false, rfl, q H' (e2.trans e')⟩⟩
theorem eq_un {dx : Addr} {pl : Nat} {en : Bool} (ha : H a = some (.ins g.Unread dx [("place", .int (pl : Nat)), ("is_end", .bl en)])) (h1 : EvD g.K X tp σ H (.int (pl : Nat))) (h2 : EvD g.K X te σ H (.bool en)) (q : ∀ H2, Ex H H2 → Q (.bl true) H2) :
    tMake g.Unread (sp_Unread_init g) [] E0 (tCons tp (tCons te tNil)) σ H fun y H2 => rEqO g (.ref a) y H2 Q := by
  refine mk_un (X := X) h1 h2 fun b H2 e2 hb ⟨dy, x, y, hb1, ax, ay⟩ => ?_
  cases at_int_inv ax
  cases at_bl_inv ay
  have ha2 := e2 _ _ ha
  exact .inl ⟨⟨a, b, dx, dy, _, _, rfl, rfl, ha2, hb1, (pl : Nat), en, ⟨dx, _, ha2, rfl, rfl⟩, dy, _, hb1, rfl, rfl⟩, fun H' e' => q H' (e2.trans e')⟩
/-- where a text is read to -/
theorem settle_le {t : T} {free : List T} {pl : Nat} (h : settle t free = .unread pl) : pl ≤ t.length := by
  rcases settle_pre t free t.length (Nat.le_refl _) with ⟨a, _⟩ | ⟨q, hq, _, b⟩
  · rw [List.take_length] at a
    rcases a with ⟨v, a⟩ | a
    · rw [h] at a; cases a
    · rw [h] at a; cases a; exact Nat.le_refl _
  · rw [h] at b; cases b; omega
end
end Dy
namespace Dy
open PySem L2 Evl Mi
def lw_turn (g : G8) : TS := (tSeq (tAsg (tCall (sp_law_draw g) [] E0 (tCons (tVar 1) (tCons (tOp rAddI (tCB (rLenA g.K) (tCons (tVar 7) tNil)) (tC (.int 1))) tNil))) (gName 9)) (tSeq (tAsg (tCall (sp_settle_formula g) [] E0 (tCons (tSl rSlS (tVar 7) tNoPart (tPart (tVar 9))) (tCons (tVar 6) tNil))) (gName 10)) (tSeq (tIfS (tAnd (tNot (tB (tCB (rIsi g.K) (tCons (tVar 10) (tCons (tC (.ref g.Read)) tNil))))) (tTest (tOp (rNeO g) (tVar 10) (tMake g.Unread (sp_Unread_init g) [] E0 (tCons (tVar 9) (tCons (tC (.bl true)) tNil)))))) (tRet (tC (.bl false))) tNext) (tSeq (tIfS (tNot (tB (tCall (sp_law_one_right g) [] E0 (tCons (tOp rCatS (tOp rCatS (tSl rSlS (tVar 7) tNoPart (tPart (tVar 9))) (tCall (sp_law_pick g) [] E0 (tCons (tVar 1) (tCons (tLst (tCons (tC (.str "~")) (tCons (tC (.str "X")) (tCons (tC (.str ".")) (tCons (tC (.str "~")) tNil))))) tNil)))) (tSl rSlS (tVar 7) (tPart (tVar 9)) tNoPart)) (tCons (tVar 6) (tCons (tVar 9) tNil)))))) (tRet (tC (.bl false))) tNext) (tSeq (tAsg (tCall (sp_law_pick g) [] E0 (tCons (tVar 1) (tCons (tLst (tCons (tC (.str "(")) (tCons (tC (.str ")")) (tCons (tC (.str "[")) (tCons (tC (.str "]")) (tCons (tC (.str "=")) (tCons (tC (.str "<")) (tCons (tC (.str "!")) (tCons (tC (.str "+")) (tCons (tC (.str "-")) (tCons (tC (.str "*")) (tCons (tC (.str "^")) (tCons (tC (.str ",")) (tCons (tC (.str ":")) (tCons (tC (.str "a")) (tCons (tC (.str "x")) (tCons (tC (.str "0")) (tCons (tC (.str "7")) (tCons (tC (.str " ")) tNil))))))))))))))))))) tNil))) (gName 11)) (tSeq (tAsg (tOp rCatS (tOp rCatS (tSl rSlS (tVar 7) tNoPart (tPart (tVar 9))) (tVar 11)) (tSl rSlS (tVar 7) (tPart (tVar 9)) tNoPart)) (gName 12)) (tSeq (tAsg (tCall (sp_settle_formula g) [] E0 (tCons (tVar 12) (tCons (tVar 6) tNil))) (gName 10)) (tIfS (tB (tCB (rIsi g.K) (tCons (tVar 10) (tCons (tC (.ref g.Unread)) tNil)))) (tSeq (tIfS (tOr (tTest (tOp rLtI (tFld g.K (tVar 10) "place") (tVar 9))) (tTest (tOp (rNeN g.K 200) (tFld g.K (tVar 10) "is_end") (tOp rEq (tFld g.K (tVar 10) "place") (tCB (rLenA g.K) (tCons (tVar 12) tNil)))))) (tRet (tC (.bl false))) tNext) (tSeq (tIfS (tAnd (tNot (tB (tFld g.K (tVar 10) "is_end"))) (tTest (tOp (rNeO g) (tCall (sp_settle_formula g) [] E0 (tCons (tSl rSlS (tVar 12) tNoPart (tPart (tOp rAddI (tFld g.K (tVar 10) "place") (tC (.int 1))))) (tCons (tVar 6) tNil))) (tMake g.Unread (sp_Unread_init g) [] E0 (tCons (tFld g.K (tVar 10) "place") (tCons (tC (.bl false)) tNil)))))) (tRet (tC (.bl false))) tNext) (tSeq (tAsg (tCall (sp_settle_formula g) [] E0 (tCons (tSl rSlS (tVar 12) tNoPart (tPart (tFld g.K (tVar 10) "place"))) (tCons (tVar 6) tNil))) (gName 13)) (tIfS (tAnd (tNot (tB (tCB (rIsi g.K) (tCons (tVar 13) (tCons (tC (.ref g.Read)) tNil))))) (tTest (tOp (rNeO g) (tVar 13) (tMake g.Unread (sp_Unread_init g) [] E0 (tCons (tFld g.K (tVar 10) "place") (tCons (tC (.bl true)) tNil)))))) (tRet (tC (.bl false))) tNext)))) (tIfS (tTest (tOp rNotN (tCall (sp_reading_fault g) [] E0 (tCons (tVar 12) (tCons (tVar 6) (tCons (tVar 10) tNil)))) (tC .non))) (tRet (tC (.bl false))) tNext)))))))))
def lw_lap (g : G8) : TS := (tSeq (tAsg (tSl (rSlL g.K) (tVar 2) tNoPart (tPart (tOp rAddI (tC (.int 1)) (tCall (sp_law_draw g) [] E0 (tCons (tVar 1) (tCons (tC (.int 6)) tNil)))))) (gName 4)) (tSeq (tAsg (tCall (sp_law_s_saying g) [] E0 (tCons (tVar 1) (tCons (tVar 4) (tCons (tOp rAddI (tC (.int 2)) (tCall (sp_law_draw g) [] E0 (tCons (tVar 1) (tCons (tC (.int 7)) tNil)))) (tCons (tC (.int 4)) tNil))))) (gName 5)) (tSeq (tPar 6 7 (tCons (tCall (sp_law_s_free g) [] E0 (tCons (tVar 5) tNil)) (tCons (tCall (sp_law_s_text g) [] E0 (tCons (tVar 5) (tCons (tVar 1) tNil))) tNil))) (tSeq (tIfS (tTest (tOp rGtI (tCB (rLenA g.K) (tCons (tVar 7) tNil)) (tC (.int 390)))) tCont tNext) (tFor (iRng1 (tCons (tC (.int 4)) tNil)) (gName 8) (lw_turn g))))))
def lw_kn (g : G8) : TS := (tSeq (tAsg (tCall (sp_law_pick g) [] E0 (tCons (tVar 1) (tCons (tCall (sp_law_known g) [] E0 tNil) tNil))) (gTup g.K 2 (gCons (gName 7) (gCons (gName 14) gNil)))) (tSeq (tAsg (tCall (sp_settle_formula g) [] E0 (tCons (tVar 7) (tCons (tLst (tCons (tC (.str "x")) (tCons (tC (.str "y")) tNil))) tNil))) (gName 10)) (tIfS (tB (tCB (rIsi g.K) (tCons (tVar 10) (tCons (tC (.ref g.Read)) tNil)))) (tIfS (tTest (tOp (rIn g.K true) (tVar 7) (tLst (tCons (tC (.str "x = -1")) (tCons (tC (.str "x =1 \n")) tNil))))) (tRet (tC (.bl false))) tNext) (tIfS (tNot (tB (tCall (sp_law_one_right g) [] E0 (tCons (tVar 7) (tCons (tTup (tCons (tC (.str "x")) (tCons (tC (.str "y")) tNil))) (tCons (tVar 14) tNil)))))) (tRet (tC (.bl false))) tNext))))
def lw_fl (g : G8) : TS := (tIfS (tTest (tOp (rNeN g.K 200) (tCall (sp_reading_fault g) [] E0 (tCons (tVar 7) (tCons (tTup tNil) (tCons (tVar 15) tNil)))) (tVar 16))) (tRet (tC (.bl false))) tNext)
theorem t_law_is (g : G8) : t_law g = (tSeq (tAsg (tCall (sp_law_pen g) [] E0 (tCons (tVar 0) tNil)) (gName 1)) (tSeq (tAsg (tLst (tCons (tC (.str "x")) (tCons (tC (.str "y")) (tCons (tC (.str "z1")) (tCons (tC (.str "n")) (tCons (tC (.str "alls")) (tCons (tC (.str "an")) tNil))))))) (gName 2)) (tSeq (tFor (iRng1 (tCons (tC (.int 2)) tNil)) (gName 3) (lw_lap g)) (tSeq (tFor (iRng1 (tCons (tC (.int 6)) tNil)) (gName 3) (lw_kn g)) (tSeq (tAsg (tCall (sp_law_pick g) [] E0 (tCons (tVar 1) (tCons (tLst (tCons (tTup (tCons (tC (.str "x = 1")) (tCons (tC (.int 0)) tNil))) (tCons (tTup (tCons (tC (.str "all x: x = y")) (tCons (tC (.int 11)) tNil))) (tCons (tTup (tCons (tC (.str "some x: x = xy")) (tCons (tC (.int 13)) tNil))) (tCons (tTup (tCons (tC (.str "all ab: a = 1")) (tCons (tC (.int 9)) tNil))) tNil))))) tNil))) (gTup g.K 2 (gCons (gName 7) (gCons (gName 14) gNil)))) (tSeq (tIfS (tTest (tOp (rNeO g) (tCall (sp_settle_text g) [] E0 (tCons (tVar 7) tNil)) (tMake g.Unread (sp_Unread_init g) [] E0 (tCons (tVar 14) (tCons (tOp rEq (tVar 14) (tCB (rLenA g.K) (tCons (tVar 7) tNil))) tNil))))) (tRet (tC (.bl false))) tNext) (tSeq (tFor (iList g.K (tLst (tCons (tTup (tCons (tMake g.Unread (sp_Unread_init g) [] E0 (tCons (tVar 14) (tCons (tC (.bl true)) tNil))) (tCons (tIf (tTest (tOp rEq (tVar 14) (tCB (rLenA g.K) (tCons (tVar 7) tNil)))) (tC .non) (tTup (tCons (tC (.str "end")) tNil))) tNil))) (tCons (tTup (tCons (tMake g.Unread (sp_Unread_init g) [] E0 (tCons (tOp rAddI (tVar 14) (tC (.int 1))) (tCons (tC (.bl false)) tNil))) (tCons (tTup (tCons (tC (.str "place")) tNil)) tNil))) (tCons (tTup (tCons (tMake g.Unread (sp_Unread_init g) [] E0 (tCons (tC .non) (tCons (tC .non) tNil))) (tCons (tTup (tCons (tC (.str "place")) tNil)) tNil))) (tCons (tTup (tCons (tMake g.Unread (sp_Unread_init g) [] E0 (tCons (tVar 14) (tCons (tC .non) tNil))) (tCons (tTup (tCons (tC (.str "end")) tNil)) tNil))) (tCons (tTup (tCons (tMake g.Read (sp_Read_init g) [] E0 (tCons (tC .non) tNil)) (tCons (tTup (tCons (tC (.str "unread")) tNil)) tNil))) (tCons (tTup (tCons (tC (.int 5)) (tCons (tTup (tCons (tC (.str "answer")) tNil)) tNil))) tNil)))))))) (gTup g.K 2 (gCons (gName 15) (gCons (gName 16) gNil))) (lw_fl g)) (tRet (tAndV (tOp (rEqO g) (tCall (sp_settle_text g) [] E0 (tCons (tOp rRepS (tC (.str "((((((((((")) (tC (.int 40))) tNil)) (tMake g.Unread (sp_Unread_init g) [] E0 (tCons (tC (.int 400)) (tCons (tC (.bl true)) tNil)))) (tOp (rEqO g) (tCall (sp_settle_text g) [] E0 (tCons (tOp rRepS (tC (.str "not [")) (tC (.int 60))) tNil)) (tMake g.Unread (sp_Unread_init g) [] E0 (tCons (tC (.int 300)) (tCons (tC (.bl true)) tNil))))))))))))) := rfl
end Dy
namespace Dy
open PySem L2 Evl Mi
theorem cut_lo {t : T} {n : Nat} : cutN t none (some (n : Nat)) = t.take n := by
  unfold cutN
  rw [HT.sIx_none, HT.sIx_nat, List.drop_zero, Nat.sub_zero]
  by_cases h : n ≤ t.length
  · rw [Nat.min_eq_left h]
  · rw [Nat.min_eq_right (by omega), List.take_length, List.take_of_length_le (by omega)]
theorem cut_hi {t : T} {n : Nat} : cutN t (some (n : Nat)) none = t.drop n := by
  unfold cutN
  rw [HT.sIx_none, HT.sIx_nat]
  by_cases h : n ≤ t.length
  · rw [Nat.min_eq_left h, List.take_of_length_le (by rw [List.length_drop]; omega)]
  · rw [Nat.min_eq_right (by omega), List.drop_length, List.drop_eq_nil_of_le (by omega)]
    simp
section
variable {g : G8} (G : Gf g) {X Y : List Addr} {H H' H1 A : Hp} {p l q a : Addr} {σ : L2.St} {Q : VK} {i j : Nat} {D : Ends} {tz : TS} {tv tw ts th te tp tf : TE} {d z : PyData} {v nv u fv : V} {N n : Nat} {ds : List PyData} {t : T} {free : List T}
theorem ev_lo {n : Nat} (lt : t.length ≤ 10000) (h : σ[i]? = some (some (.str (S t)))) (ot : ok (S t)) (he : EvD g.K X te σ H (.int (n : Nat))) : EvD g.K X (tSl rSlS (tVar i) tNoPart (tPart te)) σ H (Mi.str (t.take n)) := evD_is (ev_slS (z := t) (by omega) (ev_var h (at_str ot)) eo_none (eo_int he)) (by rw [cut_lo]; rfl)
theorem ev_hi {n : Nat} (lt : t.length ≤ 10000) (h : σ[i]? = some (some (.str (S t)))) (ot : ok (S t)) (he : EvD g.K X te σ H (.int (n : Nat))) : EvD g.K X (tSl rSlS (tVar i) (tPart te) tNoPart) σ H (Mi.str (t.drop n)) := evD_is (ev_slS (z := t) (by omega) (ev_var h (at_str ot)) (eo_int he) eo_none) (by rw [cut_hi]; rfl)
theorem isi_res {C : Addr} {b : Bool} {R : Res} (hs : σ[i]? = some (some (.ref a))) (hr : SRes g X H a t R) (h : (∀ p, R = .unread p → PySem.W.kitOne g.K (.ref g.Unread) (.ref C) = some b) ∧ (∀ v, R = .read v → PySem.W.kitOne g.K (.ref g.Read) (.ref C) = some b)) (G : Gf g) : EvD g.K X (tCB (rIsi g.K) (tCons (tVar i) (tCons (tC (.ref C)) tNil))) σ H (.bool b) := by
  cases R with
  | unread p =>
    obtain ⟨dx, ha⟩ := hr
    exact isi_un G hs ha (h.1 p rfl)
  | read v =>
    obtain ⟨dx, w, ha, _⟩ := hr
    exact isi_rd G hs ha (h.2 v rfl)
theorem FreeAt.prp {f : V} (h : FreeAt g X H f free) (e : Pr X H H') : FreeAt g X H' f free := ⟨h.1.imp (·.pr e) (·.pr e), h.2⟩
include G in
/-- what is told of a beginning: read, or unread at its end -/
theorem alive_test {t' : T} {n : Nat} {te : TE} (h10 : σ[i]? = some (some (.ref a))) (hr : SRes g X H a t' (settle t' free)) (hal : Alive n (settle t' free)) (hn : n = t'.length) (he : ∀ H', Ex H H' → EvD g.K X te σ H' (.int (n : Nat))) :
    EvT (tAnd (tNot (tB (tCB (rIsi g.K) (tCons (tVar i) (tCons (tC (.ref g.Read)) tNil))))) (tTest (tOp (rNeO g) (tVar i) (tMake g.Unread (sp_Unread_init g) [] E0 (tCons te (tCons (tC (.bl true)) tNil)))))) σ H false := by
  rcases hal with ⟨v, hv⟩ | hv
  · exact et_is (Evl.et_and (a := false) (b := false) (Evl.et_not (a := true) (et_B (isi_res h10 hr ⟨(fun p hp => by rw [hv] at hp; cases hp), fun _ _ => G.kDD⟩ G))) fun h => by cases h) rfl
  · rw [hv] at hr
    obtain ⟨dx, ha⟩ := hr
    rw [decide_eq_true hn] at ha
    exact et_is (Evl.et_and (a := true) (b := false) (Evl.et_not (a := false) (et_B (isi_un G (X := X) h10 ha G.kUD))) fun _ => et_neU (X := X) h10 ha (he H (Ex.refl _)) ev_bl) rfl
end
end Dy
namespace Dy
open PySem L2 Evl Mi
/-- the slots that a turn leans on -/
structure TS8 (σ : L2.St) (p : Addr) (fv : V) (t : T) : Prop where
  len : σ.length = 17
  h1 : σ[1]? = some (some (.ref p))
  h6 : σ[6]? = some (some fv)
  h7 : σ[7]? = some (some (.str (S t)))
def SG18 : List T := [[40], [41], [91], [93], [61], [60], [33], [43], [45], [42], [94], [44], [58], [97], [120], [48], [55], [32]]
section
variable {g : G8} (G : Gf g) {X Y : List Addr} {H H' H1 A : Hp} {p l q a : Addr} {σ : L2.St} {Q : VK} {i j : Nat} {D : Ends} {tz : TS} {tv tw ts th te tp tf : TE} {d z : PyData} {v nv u fv : V} {N n : Nat} {ds : List PyData} {t : T} {free : List T}
theorem TS8.set (h : TS8 σ p fv t) {k : Nat} {w : V} (h1 : k ≠ 1) (h6 : k ≠ 6) (h7 : k ≠ 7) : TS8 (σ.set k (some w)) p fv t :=
  ⟨by rw [List.length_set]; exact h.len, get_ne h.h1 h1, get_ne h.h6 h6, get_ne h.h7 h7⟩
theorem bad_signs : ∀ u ∈ ([[126], [88], [46], [126]] : List T), ∃ b, u = [b] ∧ Bad b := by
  intro u hu
  simp at hu
  rcases hu with z | z | z | z <;> subst z
  · exact ⟨126, rfl, .inl rfl⟩
  · exact ⟨88, rfl, .inr (.inl rfl)⟩
  · exact ⟨46, rfl, .inr (.inr rfl)⟩
  · exact ⟨126, rfl, .inl rfl⟩
include G in
theorem turn_ok (hσ : TS8 σ p fv t) (hp : PenAt g X H p N) (hN : N + 10 ≤ 1000000) (hf : FreeAt g X H fv free) (ot : ok (S t)) (lt : t.length ≤ 390) {dd : PyData} (hread : settle t free = .read dd)
    (k : ∀ σ' H', TS8 σ' p fv t → σ'[2]? = σ[2]? → Pr [p] H H' → PenAt g X H' p (N + 3) → D.nx σ' H') : lw_turn g D σ H := by
  have hlen : EvD g.K X (tOp rAddI (tCB (rLenA g.K) (tCons (tVar 7) tNil)) (tC (.int 1))) σ H (.int ((t.length + 1 : Nat) : Int)) := ev_op (ev_cb (ea_cons (ev_var hσ.h7 (at_str ot)) ea_nil) (rc_lenSs (by omega))) ev_int (rd_addN (n := 1))
  refine q_asgR (m_draw hσ.h1 hp hlen (by omega) (by omega) (by omega) fun H1 cut p1 hcut hp1 => ?_)
  have s1 := hσ.set (k := 9) (w := .int (cut : Nat)) (by decide) (by decide) (by decide)
  have c1 : (σ.set 9 (some (.int (cut : Nat))))[9]? = some (some (.int (cut : Nat))) := get_eq (by rw [hσ.len]; decide)
  have hf1 := hf.prp (p1.lift hp.px)
  have hal := settle_read_pre hread (q := cut) (by omega)
  have htl : (t.take cut).length = cut := by rw [List.length_take]; omega
  generalize hσ1 : σ.set 9 (some (.int (cut : Nat))) = σ1 at *
  refine q_asgR (m_settle (te := tSl rSlS (tVar 7) tNoPart (tPart (tVar 9))) (ev_lo (by omega) s1.h7 ot (ev_var c1 at_int)) s1.h6 hp1.dm (by omega) hf1 fun H2 a e2 ha hr => ?_)
  have s2 := s1.set (k := 10) (w := .ref a) (by decide) (by decide) (by decide)
  have c2 : (σ1.set 10 (some (.ref a)))[9]? = some (some (.int (cut : Nat))) := get_ne c1 (by decide)
  have t2 : (σ1.set 10 (some (.ref a)))[10]? = some (some (.ref a)) := get_eq (by rw [s1.len]; decide)
  generalize hσ2 : σ1.set 10 (some (.ref a)) = σ2 at *
  refine Evl.q_when (b := false) (alive_test (X := X) G t2 hr hal htl.symm fun H' e' => ev_var c2 at_int) (fun h => by cases h) fun _ H3 e3 => ?_
  have hp3 := (hp1.exx e2).exx e3
  have hf3 := (hf1.ex e2).ex e3
  refine sq ?_
  show tSl rSlS (tVar 7) tNoPart (tPart (tVar 9)) σ2 H3 _
  refine (ev_lo (g := g) (X := X) (by omega) s2.h7 ot (ev_var c2 at_int)) H3 (Ex.refl _) _ fun v1 C1 x1 a1 => ?_
  have ok1 := at_str_ok a1
  cases at_str_inv a1
  show tCall (sp_law_pick g) [] E0 _ σ2 C1 _
  refine m_pick (ds := [[126], [88], [46], [126]].map Mi.str) s2.h1 (hp3.exx x1) (ev_l4 (hp3.exx x1).dm (evs (t := [126])) (evs (t := [88])) (evs (t := [46])) (evs (t := [126]))) (by simp) (by simp) (by omega) fun C2 u d p2 hm hp2 au => ?_
  obtain ⟨b, hb, rfl⟩ := List.mem_map.mp hm
  have okb := at_str_ok au
  cases at_str_inv au
  obtain ⟨bc, rfl, hbad⟩ := bad_signs b hb
  have hbig : (100000 : Nat) ≤ sizeLine := by decide
  have hdl : (t.drop cut).length ≤ 390 := by rw [List.length_drop]; omega
  refine ⟨S (t.take cut), S [bc], rfl, rfl, by rw [S_len, S_len, htl]; show cut + 1 ≤ sizeLine; omega, ?_⟩
  show tSl rSlS (tVar 7) (tPart (tVar 9)) tNoPart σ2 C2 _
  refine (ev_hi (g := g) (X := X) (by omega) s2.h7 ot (ev_var c2 at_int)) C2 (Ex.refl _) _ fun v3 C3 x3 a3 => ?_
  have ok3 := at_str_ok a3
  cases at_str_inv a3
  refine ⟨_, S (t.drop cut), rfl, rfl, ?_, fv, s2.h6, _, c2, ?_⟩
  · rw [S_app, S_len, S_len, List.length_append, htl]; show cut + 1 + (t.drop cut).length ≤ sizeLine; omega
  rw [S_app, S_app]
  have hput := settle_put_bad (t := t) (free := free) hbad (by omega : cut ≤ t.length) hal
  have eput : t.take cut ++ [bc] ++ t.drop cut = t.take cut ++ bc :: t.drop cut := by rw [List.append_assoc]; rfl
  have hf4 : FreeAt g X C3 fv free := ((hf3.ex x1).prp (p2.lift hp.px)).ex x3
  have hp4 := hp2.exx x3
  refine ⟨X, t.take cut ++ [bc] ++ t.drop cut, fv, free, cut, rfl, hp4.dm, ok_S.mpr fun c hc => ?_, by rw [List.length_append, List.length_append, htl]; show cut + 1 + _ ≤ _; omega, hf4, by rw [eput]; exact hput, fun H4 e4 => ⟨true, rfl, if_f ?_⟩⟩
  · rcases List.mem_append.mp hc with z | z
    · rcases List.mem_append.mp z with z | z
      · exact ok_S.mp ok1 c z
      · exact ok_S.mp okb c z
    · exact ok_S.mp ok3 c z
  show tSeq _ _ D σ2 H4
  have hp5 := hp4.exx e4
  have hf5 := hf4.ex e4
  -- any sign
  refine q_asgR (m_pick (ds := SG18.map Mi.str) s2.h1 hp5 (ev_lst hp5.dm (ea_cons (evs (t := [40])) (ea_cons (evs (t := [41])) (ea_cons (evs (t := [91])) (ea_cons (evs (t := [93])) (ea_cons (evs (t := [61])) (ea_cons (evs (t := [60])) (ea_cons (evs (t := [33])) (ea_cons (evs (t := [43])) (ea_cons (evs (t := [45])) (ea_cons (evs (t := [42])) (ea_cons (evs (t := [94])) (ea_cons (evs (t := [44])) (ea_cons (evs (t := [58])) (ea_cons (evs (t := [97])) (ea_cons (evs (t := [120])) (ea_cons (evs (t := [48])) (ea_cons (evs (t := [55])) (ea_cons (evs (t := [32])) ea_nil)))))))))))))))))) (by decide)) (by decide) (by decide) (by omega) fun H5 u d p5 hm hp6 au => ?_)
  obtain ⟨sg, hsg, rfl⟩ := List.mem_map.mp hm
  have oks := at_str_ok au
  cases at_str_inv au
  have hsl : sg.length = 1 := (by decide : ∀ s ∈ SG18, s.length = 1) sg hsg
  have s3 := s2.set (k := 11) (w := .str (S sg)) (by decide) (by decide) (by decide)
  have c3 : (σ2.set 11 (some (.str (S sg))))[9]? = some (some (.int (cut : Nat))) := get_ne c2 (by decide)
  have g3 : (σ2.set 11 (some (.str (S sg))))[11]? = some (some (.str (S sg))) := get_eq (by rw [s2.len]; decide)
  generalize hσ3 : σ2.set 11 (some (.str (S sg))) = σ3 at *
  refine q_asg (K := g.K) (X := X) (d := Mi.str (t.take cut ++ sg ++ t.drop cut)) (ev_op (ev_op (ev_lo (g := g) (X := X) (by omega) s3.h7 ot (ev_var c3 at_int)) (ev_var g3 (at_str oks)) (rd_catS (by omega))) (ev_hi (g := g) (X := X) (by omega) s3.h7 ot (ev_var c3 at_int)) (rd_catS (by rw [List.length_append]; omega))) fun ov H6 e6 ao => ?_
  have oko := at_str_ok ao
  cases at_str_inv ao
  have s4 := s3.set (k := 12) (w := .str (S (t.take cut ++ sg ++ t.drop cut))) (by decide) (by decide) (by decide)
  have c4 : (σ3.set 12 (some (.str (S (t.take cut ++ sg ++ t.drop cut)))))[9]? = some (some (.int (cut : Nat))) := get_ne c3 (by decide)
  have g4 : (σ3.set 12 (some (.str (S (t.take cut ++ sg ++ t.drop cut)))))[12]? = some (some (.str (S (t.take cut ++ sg ++ t.drop cut)))) := get_eq (by rw [s3.len]; decide)
  have htk : (t.take cut ++ sg ++ t.drop cut).take cut = t.take cut := by rw [List.append_assoc, List.take_append_of_le_length (by omega), List.take_of_length_le (by omega)]
  have hol : (t.take cut ++ sg ++ t.drop cut).length ≤ 391 := by rw [List.length_append, List.length_append, htl, hsl, List.length_drop]; omega
  have hcl : cut ≤ (t.take cut ++ sg ++ t.drop cut).length := by rw [List.length_append, List.length_append, htl]; omega
  generalize hoo : t.take cut ++ sg ++ t.drop cut = oo at *
  have hge := settle_ge (t := oo) (free := free) hcl (by rw [htk]; exact hal)
  generalize hσ4 : σ3.set 12 (some (.str (S oo))) = σ4 at *
  have hf6 := (hf5.prp (p5.lift hp.px)).ex e6
  refine q_asgR (m_settle (te := tVar 12) (ev_var g4 (at_str oko)) s4.h6 (hp6.dm.pr e6) (by omega) hf6 fun H7 a2 e7 ha2 hr2 => ?_)
  have P7 : Pr [p] H H7 := (((((((((p1.trans (Ex.pr e2)).trans (Ex.pr e3)).trans (Ex.pr x1)).trans p2).trans (Ex.pr x3)).trans (Ex.pr e4)).trans p5).trans (Ex.pr e6)).trans (Ex.pr e7))
  have hp7 := (hp6.exx e6).exx e7
  have hf7 := hf6.ex e7
  have s5 := s4.set (k := 10) (w := .ref a2) (by decide) (by decide) (by decide)
  have c5 : (σ4.set 10 (some (.ref a2)))[9]? = some (some (.int (cut : Nat))) := get_ne c4 (by decide)
  have g5 : (σ4.set 10 (some (.ref a2)))[12]? = some (some (.str (S oo))) := get_ne g4 (by decide)
  have t5 : (σ4.set 10 (some (.ref a2)))[10]? = some (some (.ref a2)) := get_eq (by rw [s4.len]; decide)
  have z5 : (σ4.set 10 (some (.ref a2)))[2]? = σ[2]? := by
    rw [List.getElem?_set_ne (by decide), ← hσ4, List.getElem?_set_ne (by decide), ← hσ3, List.getElem?_set_ne (by decide), ← hσ2, List.getElem?_set_ne (by decide), ← hσ1, List.getElem?_set_ne (by decide)]
  generalize hσ5 : σ4.set 10 (some (.ref a2)) = σ5 at *
  cases hres : settle oo free with
  | read v =>
    rw [hres] at hr2
    obtain ⟨dx, x, h2a, h2x⟩ := hr2
    refine Evl.s_if (b := false) (et_B (isi_rd G (X := X) t5 h2a G.kDU)) (fun h => by cases h) fun _ H8 e8 => ?_
    have hsay := settle_say hf.2.2.1 hres
    have hnd := settle_nd hres
    have hrf : EvD g.K X (tCall (sp_reading_fault g) [] E0 (tCons (tVar 12) (tCons (tVar 6) (tCons (tVar 10) tNil)))) σ5 H8 .none := fun H9 e9 Q q =>
      ⟨_, g5, _, s5.h6, _, t5, X, oo, fv, free, .ref a2, .rd v, .none, rfl, hp7.dm.pr (e8.trans e9), oko, by omega, hf7.ex (e8.trans e9), ⟨a2, dx, x, rfl, e9 _ _ (e8 _ _ h2a), h2x.ex (e8.trans e9)⟩, by rw [hres]; exact .rdR hsay (by omega), fun H' u e' au => q u H' e' au⟩
    refine Evl.s_when (b := false) (et_test (ev_op hrf ev_non (rd_notN true fun H1 v a => by rw [at_non_inv a]; rfl))) (fun h => by cases h) fun _ H9 e9 => ?_
    exact k σ5 H9 s5 z5 (P7.trans (Ex.pr (e8.trans e9))) ((hp7.exx e8).exx e9)
  | unread pl =>
    rw [hres] at hr2 hge
    have hge : cut ≤ pl := hge
    have hpl := settle_le hres
    obtain ⟨dx, h2a⟩ := hr2
    refine Evl.s_if (b := true) (et_B (isi_un G (X := X) t5 h2a G.kUU)) (fun _ H8 e8 => ?_) (fun h => by cases h)
    have fp : ∀ {C : Hp}, Ex H8 C → Fld g.K X C a2 "place" (.int (pl : Nat)) := fun e => ⟨_, dx, _, _, e _ _ (e8 _ _ h2a), G.cU, G.nU1, rfl, at_int⟩
    have fe : ∀ {C : Hp}, Ex H8 C → Fld g.K X C a2 "is_end" (.bool (decide (pl = oo.length))) := fun e => ⟨_, dx, _, _, e _ _ (e8 _ _ h2a), G.cU, G.nU2, rfl, at_bl⟩
    have hp8 := hp7.exx e8
    have hf8 := hf7.ex e8
    refine Evl.q_when (b := false) (et_is (Evl.et_or (a := false) (b := false) (et_test (ev_op (ev_fld t5 (fp (Ex.refl _))) (ev_var c5 at_int) (rd_is rd_ltN (by rw [decide_eq_false (by omega)])))) fun _ => et_test (ev_op (ev_fld t5 (fe (Ex.refl _))) (ev_op (ev_fld t5 (fp (Ex.refl _))) (ev_cb (ea_cons (ev_var g5 (at_str oko)) ea_nil) (rc_lenSs (by omega))) rd_eqNn) (rd_is (rd_neN (Nat.zero_le _)) (by rw [SeqAt.eqv_refl _ rfl]; rfl)))) rfl) (fun h => by cases h) fun _ H9 e9 => ?_
    have test2 : EvT (tAnd (tNot (tB (tFld g.K (tVar 10) "is_end"))) (tTest (tOp (rNeO g) (tCall (sp_settle_formula g) [] E0 (tCons (tSl rSlS (tVar 12) tNoPart (tPart (tOp rAddI (tFld g.K (tVar 10) "place") (tC (.int 1))))) (tCons (tVar 6) tNil))) (tMake g.Unread (sp_Unread_init g) [] E0 (tCons (tFld g.K (tVar 10) "place") (tCons (tC (.bl false)) tNil)))))) σ5 H9 false := by
      by_cases hend : pl = oo.length
      · exact et_is (Evl.et_and (a := false) (b := false) (Evl.et_not (a := true) (et_B (evD_is (ev_fld t5 (fe e9)) (by rw [decide_eq_true hend])))) fun h => by cases h) rfl
      · refine et_is (Evl.et_and (a := true) (b := false) (Evl.et_not (a := false) (et_B (evD_is (ev_fld t5 (fe e9)) (by rw [decide_eq_false hend])))) fun _ => ?_) rfl
        intro C1 x9 Q q
        have e89 := e9.trans x9
        have hdead := settle_dead_pre (q := pl + 1) (by omega) hres (by omega)
        refine m_settle (te := tSl rSlS (tVar 12) tNoPart (tPart (tOp rAddI (tFld g.K (tVar 10) "place") (tC (.int 1))))) (ev_lo (n := pl + 1) (by omega) g5 oko (ev_op (ev_fld t5 (fp e89)) ev_int (rd_addN (n := 1)))) s5.h6 (hp8.dm.pr e89) (by rw [List.length_take]; omega) (hf8.ex e89) fun C2 a3 x10 ha3 hr3 => ?_
        rw [hdead] at hr3
        obtain ⟨dy, h3a⟩ := hr3
        have hlt : (oo.take (pl + 1)).length = pl + 1 := by rw [List.length_take]; omega
        rw [decide_eq_false (by omega)] at h3a
        refine mk_un (X := X) (ev_fld t5 (fp (e89.trans x10))) (ev_bl (x := false)) fun b3 C3 x11 hb3 ⟨dz, x, y, hb31, ax, ay⟩ => ?_
        cases at_int_inv ax
        cases at_bl_inv ay
        have h3b := x11 _ _ h3a
        exact ⟨⟨a3, b3, dy, dz, _, _, rfl, rfl, h3b, hb31, (pl : Nat), false, ⟨dy, _, h3b, rfl, rfl⟩, dz, _, hb31, rfl, rfl⟩, fun H' e' => ⟨false, rfl, q H' ((x10.trans x11).trans e')⟩⟩
    refine Evl.q_when (b := false) test2 (fun h => by cases h) fun _ H10 e10 => ?_
    have e810 := e9.trans e10
    refine q_asgR (m_settle (te := tSl rSlS (tVar 12) tNoPart (tPart (tFld g.K (tVar 10) "place"))) (ev_lo (n := pl) (by omega) g5 oko (ev_fld t5 (fp e810))) s5.h6 (hp8.dm.pr e810) (by rw [List.length_take]; omega) (hf8.ex e810) fun H11 a4 e11 ha4 hr4 => ?_)
    have hal4 := settle_alive_pre (q := pl) hpl (by rw [hres]; exact Nat.le_refl pl)
    have s6 := s5.set (k := 13) (w := .ref a4) (by decide) (by decide) (by decide)
    have t6 : (σ5.set 13 (some (.ref a4)))[13]? = some (some (.ref a4)) := get_eq (by rw [s5.len]; decide)
    have t610 : (σ5.set 13 (some (.ref a4)))[10]? = some (some (.ref a2)) := get_ne t5 (by decide)
    refine Evl.s_when (b := false) (alive_test (X := X) G t6 hr4 hal4 (by rw [List.length_take]; omega) fun H' e' => ev_fld t610 (fp ((e810.trans e11).trans e'))) (fun h => by cases h) fun _ H12 e12 => ?_
    exact k _ H12 s6 (by rw [List.getElem?_set_ne (by decide)]; exact z5) (P7.trans (Ex.pr (((e8.trans e810).trans e11).trans e12))) (((hp8.exx e810).exx e11).exx e12)
end
end Dy
namespace Dy
open PySem L2 Evl Mi
def NMS : List T := [[120], [121], [122, 49], [110], [97, 108, 108, 115], [97, 110]]
theorem nms_ok : ∀ x ∈ NMS, NameOk x := by
  intro x hx
  simp only [NMS, List.mem_cons, List.not_mem_nil, or_false] at hx
  rcases hx with z | z | z | z | z | z <;> subst z
  · exact ⟨⟨120, [], rfl, by decide⟩, by decide, by decide, by decide⟩
  · exact ⟨⟨121, [], rfl, by decide⟩, by decide, by decide, by decide⟩
  · exact ⟨⟨122, [49], rfl, by decide⟩, by decide, by decide, by decide⟩
  · exact ⟨⟨110, [], rfl, by decide⟩, by decide, by decide, by decide⟩
  · exact ⟨⟨97, [108, 108, 115], rfl, by decide⟩, by decide, by decide, by decide⟩
  · exact ⟨⟨97, [110], rfl, by decide⟩, by decide, by decide, by decide⟩
structure LS (σ : L2.St) (p : Addr) (nv : V) : Prop where
  len : σ.length = 17
  h1 : σ[1]? = some (some (.ref p))
  h2 : σ[2]? = some (some nv)
section
variable {g : G8} (G : Gf g) {X Y : List Addr} {H H' H1 A : Hp} {p l q a : Addr} {σ : L2.St} {Q : VK} {i j : Nat} {D : Ends} {tz : TS} {tv tw ts th te tp tf : TE} {d z : PyData} {v nv u fv : V} {N n : Nat} {ds : List PyData} {t : T} {free : List T}
theorem LS.set (h : LS σ p nv) {k : Nat} {w : V} (h1 : k ≠ 1) (h2 : k ≠ 2) : LS (σ.set k (some w)) p nv := ⟨by rw [List.length_set]; exact h.len, get_ne h.h1 h1, get_ne h.h2 h2⟩
theorem r_slice {n : Nat} (dm : Dom X H) (h : At g.K X H nv (.list ds)) (k : ∀ v H2, Ex H H2 → At g.K X H2 v (.list (ds.take n)) → Q v H2) : rSlL g.K nv none (some (n : Nat)) H Q := by
  have sl : EvD g.K X (tSl (rSlL g.K) (tC nv) tNoPart (tPart (tC (.int (n : Nat))))) ([] : L2.St) H (.list (ds.take n)) := evD_is (ev_slL dm (ev_cD h) eo_none (eo_int (ev_cD (at_int (K := g.K) (X := X))))) (by rw [cut0 (α := Unit)])
  obtain ⟨i', ei, r⟩ := sl H (Ex.refl _) Q k
  cases ei
  exact r
include G in
theorem lap_ok (hσ : LS σ p nv) (hp : PenAt g X H p N) (hN : N + 9000 ≤ 1000000) (hn : At g.K X H nv (.list (NMS.map Mi.str)))
    (k : ∀ σ' H', LS σ' p nv → Pr [p] H H' → PenAt g X H' p (N + 4000) → D.nx σ' H' ∧ D.ct σ' H') : lw_lap g D σ H := by
  refine q_asgR ⟨nv, hσ.h2, ?_⟩
  show tCall (sp_law_draw g) [] E0 _ σ H _
  refine m_draw (m := 6) hσ.h1 hp ev_int (by omega) (by omega) (by omega) fun H1 d p1 hd hp1 => ⟨1, d, rfl, rfl, _, rfl, ?_⟩
  have hn1 := hn.pr (p1.lift hp.px)
  have e1d : (1 : Int) + (d : Int) = ((1 + d : Nat) : Int) := by omega
  show rSlL g.K nv none (some ((1 : Int) + (d : Int))) H1 _
  rw [e1d]
  refine r_slice hp1.dm hn1 fun sv H2 e2 asv => ?_
  rw [← List.map_take] at asv
  have ns6 : (NMS.take (1 + d)).length = 1 + d := by rw [List.length_take]; show min (1 + d) 6 = _; omega
  have hnm : NmAt g X H2 sv (NMS.take (1 + d)) := ⟨asv, fun z => by rw [z] at ns6; have ns6 : 0 = 1 + d := ns6; omega, by omega, fun x hx => nms_ok x (List.mem_of_mem_take hx)⟩
  have s1 := hσ.set (k := 4) (w := sv) (by decide) (by decide)
  have c1 : (σ.set 4 (some sv))[4]? = some (some sv) := get_eq (by rw [hσ.len]; decide)
  generalize hσ1 : σ.set 4 (some sv) = σ1 at *
  have hp2 := hp1.exx e2
  refine q_asgR ⟨_, s1.h1, _, c1, ?_⟩
  show tCall (sp_law_draw g) [] E0 _ σ1 H2 _
  refine m_draw (m := 7) s1.h1 hp2 ev_int (by omega) (by omega) (by omega) fun H3 d2 p3 hd2 hp3 => ⟨2, d2, rfl, rfl, ?_⟩
  have e2d : (2 : Int) + (d2 : Int) = ((2 + d2 : Nat) : Int) := by omega
  refine ⟨X, p, sv, NMS.take (1 + d), 2 + d2, N + 1 + 1, by show [V.ref p, sv, V.int (2 + (d2 : Int)), V.int 4] = _; rw [e2d], hnm.pr (p3.lift hp.px), by omega, by omega, by omega, hp3, fun H4 fv f p4 hp4 wf hfr hfz hfd => ?_⟩
  have s2 := s1.set (k := 5) (w := fv) (by decide) (by decide)
  have c2 : (σ1.set 5 (some fv))[5]? = some (some fv) := get_eq (by rw [s1.len]; decide)
  show tSeq _ _ D (σ1.set 5 (some fv)) H4
  generalize hσ2 : σ1.set 5 (some fv) = σ2 at *
  refine sq ⟨_, c2, X, fv, f, NMS.take (1 + d), rfl, hp4.dm, hfd, wf, by omega, hfr, by omega, fun H5 frv fr e5 hfree hnd hfrv => ?_⟩
  show tCall (sp_law_s_text g) [] E0 _ σ2 H5 _
  refine ⟨_, c2, _, s2.h1, X, p, fv, f, N + 1 + 1 + 600, rfl, hfd.ex e5, wf, hfz, by omega, hp4.exx e5, fun H6 t p6 hp6 ot hl hread => ⟨_, _, rfl, ?_⟩⟩
  have s3 := (s2.set (k := 6) (w := frv) (by decide) (by decide)).set (k := 7) (w := .str (S t)) (by decide) (by decide)
  have c36 : ((σ2.set 6 (some frv)).set 7 (some (.str (S t))))[6]? = some (some frv) := get_ne (get_eq (by rw [s2.len]; decide)) (by decide)
  have c37 : ((σ2.set 6 (some frv)).set 7 (some (.str (S t))))[7]? = some (some (.str (S t))) := get_eq (by rw [List.length_set, s2.len]; decide)
  generalize hσ3 : (σ2.set 6 (some frv)).set 7 (some (.str (S t))) = σ3 at *
  have P6 : Pr [p] H H6 := (((((p1.trans (Ex.pr e2)).trans p3).trans p4).trans (Ex.pr e5)).trans p6)
  dsimp only
  have frl : fr.length ≤ 6 := Nat.le_trans (nodup_len hnd (B := NMS.take (1 + d)) fun x hx => hfr x ((hfree x).mp hx)) (by omega)
  have hfrn : ∀ x ∈ fr, NameOk x := fun x hx => nms_ok x (List.mem_of_mem_take (hfr x ((hfree x).mp hx)))
  have hin : f.In fr := Sy.in_of wf fun x hx => (hfree x).mpr hx
  have hrd := hread fr hfrn hin
  have hfa : FreeAt g X H6 frv fr := ⟨.inl (hfrv.pr (p6.lift hp.px)), by omega, hfrn, hnd⟩
  refine Evl.q_if (b := decide (390 < t.length)) (et_test (ev_op (K := g.K) (X := X) (ev_cb (ea_cons (ev_var c37 (at_str ot)) ea_nil) (rc_lenS (by omega))) ev_int (rd_gtN (n := 390)))) (fun hb H7 e7 => ?_) (fun hb H7 e7 => ?_)
  · exact (k σ3 H7 s3 (P6.trans (Ex.pr e7)) ((hp6.exx e7).up (by omega))).2
  · have hb := of_decide_eq_false hb
    have ts : TS8 σ3 p frv t := ⟨s3.len, s3.h1, c36, c37⟩
    refine s_for (X := X) (ei_rng (K := g.K) (n := 4) (by omega) ev_int) (fun i σ' H' => TS8 σ' p frv t ∧ σ'[2]? = some (some nv) ∧ Pr [p] H6 H' ∧ PenAt g X H' p (N + 1 + 1 + 600 + 3100 + 3 * i)) (fun H8 e8 => ⟨ts, s3.h2, (Ex.pr e7).trans (Ex.pr e8), (hp6.exx e7).exx e8⟩) (fun H8 i d w σ' H9 e8 p9 hdd ad ⟨h1, h2, h3, h4⟩ => ?_) (fun H8 σ' H9 e8 p9 ⟨h1, h2, h3, h4⟩ => ?_)
    · have hi : i < 4 := by
        have := (List.getElem?_eq_some_iff.mp hdd).1
        rw [List.length_map, List.length_range] at this
        exact this
      show lw_turn g _ (σ'.set 8 (some w)) H9
      refine turn_ok (X := X) G (h1.set (by decide) (by decide) (by decide)) h4 (by omega) (hfa.prp (h3.lift hp.px)) ot (by omega) hrd fun σ2 H10 k1 k2 k3 k4 => ⟨p9.trans (k3.lift hp.px), k1, by rw [k2, List.getElem?_set_ne (by decide)]; exact h2, h3.trans k3, k4.up (by omega)⟩
    · rw [List.length_map, List.length_range] at h4
      exact (k σ' H9 ⟨h1.len, h1.h1, h2⟩ (P6.trans h3) (h4.up (by omega))).1
end
end Dy
namespace Dy
open PySem L2 Evl Mi
def XY : List T := [[120], [121]]
theorem xy_ok : ∀ x ∈ XY, NameOk x := by
  intro x hx
  simp only [XY, List.mem_cons, List.not_mem_nil, or_false] at hx
  rcases hx with z | z <;> subst z
  · exact ⟨⟨120, [], rfl, by decide⟩, by decide, by decide, by decide⟩
  · exact ⟨⟨121, [], rfl, by decide⟩, by decide, by decide, by decide⟩
section
variable {g : G8} (G : Gf g) {X Y : List Addr} {H H' H1 A : Hp} {p l q a : Addr} {σ : L2.St} {Q : VK} {i j : Nat} {D : Ends} {tz : TS} {tv tw ts th te tp tf : TE} {d z : PyData} {v nv u fv : V} {N n : Nat} {ds : List PyData} {t : T} {free : List T}
theorem m_settleL (he : EvD g.K X te σ H (Mi.str t)) (hs : EvD g.K X tf σ H (.list (free.map Mi.str))) (dm : Dom X H) (lt : t.length ≤ 10000) (h8 : free.length ≤ 8) (hn : ∀ x ∈ free, NameOk x) (hd : free.Nodup) (q : ∀ H' a, Ex H H' → H a = none → SRes g X H' a t (settle t free) → Q (.ref a) H') :
    tCall (sp_settle_formula g) [] E0 (tCons te (tCons tf tNil)) σ H Q := by
  refine he H (Ex.refl _) _ fun v H1 e1 av => ?_
  cases at_str_inv av
  refine hs H1 e1 _ fun f H2 e2 af => ?_
  exact ⟨X, t, f, free, rfl, dm.pr (e1.trans e2), at_str_ok av, lt, ⟨.inl af, h8, hn, hd⟩, fun H' a e3 ha hr => q H' a ((e1.trans e2).trans e3) (fresh_back (e1.trans e2) ha) hr⟩
include G in
theorem kn_ok8 (hσ : LS σ p nv) (hp : PenAt g X H p N) (hN : N + 10 ≤ 1000000) (k : ∀ σ' H', LS σ' p nv → Pr [p] H H' → PenAt g X H' p (N + 1) → D.nx σ' H') : lw_kn g D σ H := by
  refine q_asgT (m_pick (ds := KN.map pairD) hσ.h1 hp (ev_call ea_nil (spd hp.dm ⟨rfl, rfl⟩)) (by decide) (by decide) (by omega) fun H1 u d p1 hm hp1 au => ?_)
  obtain ⟨⟨t, pl⟩, hx, rfl⟩ := List.mem_map.mp hm
  have hkl := kn_len _ hx
  have hkn := known_ok _ hx
  refine g_tup (ds := [Mi.str t, .int (pl : Nat)]) au rfl fun vs as => ?_
  obtain ⟨w1, w2, rfl, a1, a2⟩ := ats2 as
  cases at_str_inv a1
  cases at_int_inv a2
  have ot := at_str_ok a1
  refine ⟨_, _, rfl, _, _, rfl, rfl, ?_⟩
  have s1 := (hσ.set (k := 7) (w := .str (S t)) (by decide) (by decide)).set (k := 14) (w := .int (pl : Nat)) (by decide) (by decide)
  have c7 : ((σ.set 7 (some (.str (S t)))).set 14 (some (.int (pl : Nat))))[7]? = some (some (.str (S t))) := get_ne (get_eq (by rw [hσ.len]; decide)) (by decide)
  have c14 : ((σ.set 7 (some (.str (S t)))).set 14 (some (.int (pl : Nat))))[14]? = some (some (.int (pl : Nat))) := get_eq (by rw [List.length_set, hσ.len]; decide)
  show tSeq _ _ D ((σ.set 7 (some (.str (S t)))).set 14 (some (.int (pl : Nat)))) H1
  generalize hσ1 : (σ.set 7 (some (.str (S t)))).set 14 (some (.int (pl : Nat))) = σ1 at *
  refine q_asgR (m_settleL (free := XY) (ev_var c7 (at_str ot)) (ev_l2 hp1.dm (evs (t := [120])) (evs (t := [121]))) hp1.dm (by have : t.length ≤ 100 := hkl; omega) (by decide) xy_ok (by decide) fun H2 a e2 ha hr => ?_)
  have s2 := s1.set (k := 10) (w := .ref a) (by decide) (by decide)
  have t2 : (σ1.set 10 (some (.ref a)))[10]? = some (some (.ref a)) := get_eq (by rw [s1.len]; decide)
  have c7' : (σ1.set 10 (some (.ref a)))[7]? = some (some (.str (S t))) := get_ne c7 (by decide)
  have c14' : (σ1.set 10 (some (.ref a)))[14]? = some (some (.int (pl : Nat))) := get_ne c14 (by decide)
  show tIfS _ _ _ D (σ1.set 10 (some (.ref a))) H2
  generalize hσ2 : σ1.set 10 (some (.ref a)) = σ2 at *
  have hp2 := hp1.exx e2
  rcases hkn with hun | ⟨hrd, hin⟩
  · have hs : settle t XY = .unread pl := unr_some hun
    rw [hs] at hr
    obtain ⟨dx, h2a⟩ := hr
    refine Evl.s_if (b := false) (et_B (isi_un G (X := X) t2 h2a G.kUD)) (fun h => by cases h) fun _ H3 e3 => ?_
    have hp3 := hp2.exx e3
    refine ⟨_, c7', by decide, fun q hq => ⟨_, c14', X, t, .ref q, XY, pl, rfl, (hp3.exx (Ex.new hq)).dm, ot, by have : t.length ≤ 100 := hkl; omega, ⟨.inr (at_tupN (ds := XY.map Mi.str) hp3.dm hq (.cons (at_str (by decide +kernel)) (.cons (at_str (by decide +kernel)) .nil))), by decide, xy_ok, by decide⟩, hs, fun H4 e4 => ⟨true, rfl, if_f ?_⟩⟩⟩
    exact k σ2 H4 s2 (((p1.trans (Ex.pr e2)).trans (Ex.pr e3)).trans (Ex.pr ((Ex.new hq).trans e4))) ((hp3.exx (Ex.new hq)).exx e4)
  · obtain ⟨v, hs⟩ := unr_none hrd
    have hs : settle t XY = .read v := hs
    rw [hs] at hr
    obtain ⟨dx, x, h2a, h2x⟩ := hr
    refine Evl.s_if (b := true) (et_B (isi_rd G (X := X) t2 h2a G.kDD)) (fun _ H3 e3 => ?_) (fun h => by cases h)
    have hp3 := hp2.exx e3
    have hin : t ∈ RDS := hin
    refine Evl.s_when (b := false) (et_test (ev_op (ev_var c7' (at_str ot)) (ev_l2 hp3.dm (evs (t := [120, 32, 61, 32, 45, 49])) (evs (t := [120, 32, 61, 49, 32, 10]))) (rd_is (rd_niLs (x := t) (ts := RDS)) (by rw [decide_eq_true hin]; rfl)))) (fun h => by cases h) fun _ H4 e4 => ?_
    exact k σ2 H4 s2 (((p1.trans (Ex.pr e2)).trans (Ex.pr e3)).trans (Ex.pr e4)) (hp3.exx e4)
end
end Dy
namespace Dy
open PySem L2 Evl Mi
section
variable {g : G8} (G : Gf g) {X Y : List Addr} {H H' H1 A : Hp} {p l q a : Addr} {σ : L2.St} {Q : VK} {i j : Nat} {D : Ends} {tz : TS} {tv tw ts th te tp tf : TE} {d e z : PyData} {v nv u fv : V} {N n : Nat} {ds : List PyData} {t : T} {free : List T}
theorem AnsAt.ex {A : Ans} (h : AnsAt g X H v A) (x : Ex H H') : AnsAt g X H' v A := by
  cases A with
  | un p e =>
    obtain ⟨a, dx, x1, y, rfl, h1, h2, h3⟩ := h
    exact ⟨a, dx, x1, y, rfl, x _ _ h1, h2.ex x, h3.ex x⟩
  | rd d =>
    obtain ⟨a, dx, x1, rfl, h1, h2⟩ := h
    exact ⟨a, dx, x1, rfl, x _ _ h1, h2.ex x⟩
  | num i => exact h
/-- a row of answer and due -/
def RowOk (g : G8) (X : List Addr) (t : T) (R : Res) (H : Hp) (x : V) : Prop := ∃ q o dv A z, x = .ref q ∧ H q = some (.tup [o, dv]) ∧ AnsAt g X H o A ∧ At g.K X H dv z ∧ Flt8 t R A z ∧ z.depth ≤ 200
theorem RowOk.ex {R : Res} {x : V} (h : RowOk g X t R H x) (e : Ex H H') : RowOk g X t R H' x := by
  obtain ⟨q, o, dv, A, z, h1, h2, h3, h4, h5, h6⟩ := h
  exact ⟨q, o, dv, A, z, h1, e _ _ h2, h3.ex e, h4.ex e, h5, h6⟩
def EvRow (g : G8) (X : List Addr) (t : T) (R : Res) (te : TE) (σ : L2.St) (H : Hp) : Prop := ∀ H1, Ex H H1 → ∀ Q : VK, (∀ x H2, Ex H1 H2 → RowOk g X t R H2 x → Q x H2) → te σ H1 Q
def EvRows (g : G8) (X : List Addr) (t : T) (R : Res) (ta : TA) (σ : L2.St) (H : Hp) : Prop := ∀ H1, Ex H H1 → ∀ Q : List V → Hp → Prop, (∀ xs H2, Ex H1 H2 → xs.length ≤ 100 → (∀ x ∈ xs, RowOk g X t R H2 x) → Q xs H2) → ta σ H1 Q
def EvRowsN (g : G8) (X : List Addr) (t : T) (R : Res) (ta : TA) (σ : L2.St) (H : Hp) (n : Nat) : Prop := ∀ H1, Ex H H1 → ∀ Q : List V → Hp → Prop, (∀ xs H2, Ex H1 H2 → xs.length = n → (∀ x ∈ xs, RowOk g X t R H2 x) → Q xs H2) → ta σ H1 Q
variable {R : Res}
theorem er_nil : EvRowsN g X t R tNil σ H 0 := fun H1 _ Q q => q _ H1 (Ex.refl _) rfl (by simp)
theorem er_cons {ta : TA} (h : EvRow g X t R te σ H) (hr : EvRowsN g X t R ta σ H n) : EvRowsN g X t R (tCons te ta) σ H (n + 1) := fun H1 e1 Q q =>
  h H1 e1 _ fun x H2 e2 rx => hr H2 (e1.trans e2) _ fun xs H3 e3 hl rxs => q _ H3 (e2.trans e3) (by rw [List.length_cons, hl]) fun y hy => by
    rcases List.mem_cons.mp hy with z | z
    · rw [z]; exact rx.ex e3
    · exact rxs y z
theorem r_tup2 {ta tb : TE} (h : ta σ H fun v H2 => tb σ H2 fun w H3 => 2 ≤ sizeLine ∧ ∀ p, H3 p = none → Q (.ref p) (upd H3 p (.tup [v, w]))) : tTup (tCons ta (tCons tb tNil)) σ H Q := h
theorem er_un (h1 : EvD g.K X tp σ H d) (h2 : EvD g.K X te σ H e) (h3 : EvD g.K X tf σ H z) (hf : Flt8 t R (.un d e) z) (hd : z.depth ≤ 200) : EvRow g X t R (tTup (tCons (tMake g.Unread (sp_Unread_init g) [] E0 (tCons tp (tCons te tNil))) (tCons tf tNil))) σ H := fun H1 e1 Q q => by
  refine r_tup2 ?_
  refine mk_un (X := X) (h1.ex e1) (h2.ex e1) fun a H2 e2 ha ⟨dx, v, w, k1, k2, k3⟩ => ?_
  refine h3 H2 (e1.trans e2) _ fun zv H3 e3 az => ⟨by show 2 ≤ sizeLine; decide, fun s hs => ?_⟩
  have x4 := Ex.new (o := .tup [.ref a, zv]) hs
  exact q _ _ ((e2.trans e3).trans x4) ⟨s, .ref a, zv, .un d e, z, rfl, upd_same, ⟨a, dx, v, w, rfl, x4 _ _ (e3 _ _ k1), (k2.ex e3).ex x4, (k3.ex e3).ex x4⟩, az.ex x4, hf, hd⟩
theorem er_rd (h1 : EvD g.K X tp σ H d) (h3 : EvD g.K X tf σ H z) (hf : Flt8 t R (.rd d) z) (hd : z.depth ≤ 200) : EvRow g X t R (tTup (tCons (tMake g.Read (sp_Read_init g) [] E0 (tCons tp tNil)) (tCons tf tNil))) σ H := fun H1 e1 Q q => by
  refine r_tup2 ?_
  refine mk_rd (X := X) (h1.ex e1) fun a H2 e2 ha ⟨dx, v, k1, k2⟩ => ?_
  refine h3 H2 (e1.trans e2) _ fun zv H3 e3 az => ⟨by show 2 ≤ sizeLine; decide, fun s hs => ?_⟩
  have x4 := Ex.new (o := .tup [.ref a, zv]) hs
  exact q _ _ ((e2.trans e3).trans x4) ⟨s, .ref a, zv, .rd d, z, rfl, upd_same, ⟨a, dx, v, rfl, x4 _ _ (e3 _ _ k1), (k2.ex e3).ex x4⟩, az.ex x4, hf, hd⟩
theorem er_num {k : Int} (h3 : EvD g.K X tf σ H z) (hf : Flt8 t R (.num k) z) (hd : z.depth ≤ 200) : EvRow g X t R (tTup (tCons (tC (.int k)) (tCons tf tNil))) σ H := fun H1 e1 Q q => by
  refine r_tup2 ?_
  refine h3 H1 e1 _ fun zv H3 e3 az => ⟨by show 2 ≤ sizeLine; decide, fun s hs => ?_⟩
  have x4 := Ex.new (o := .tup [.int k, zv]) hs
  exact q _ _ (e3.trans x4) ⟨s, .int k, zv, .num k, z, rfl, upd_same, rfl, az.ex x4, hf, hd⟩
end
end Dy
namespace Dy
open PySem L2 Evl Mi
section
variable {g : G8} (G : Gf g) {X Y : List Addr} {H H' H1 A : Hp} {p l q a : Addr} {σ : L2.St} {Q : VK} {i j : Nat} {D : Ends} {tz : TS} {tv tw ts th te tp tf : TE} {d e z : PyData} {v nv u fv : V} {N n : Nat} {ds : List PyData} {t : T} {free : List T}
theorem m_text (he : EvD g.K X te σ H (Mi.str t)) (dm : Dom X H) (lt : t.length ≤ 10000) (q : ∀ H' a, Ex H H' → H a = none → SRes g X H' a t (settle t []) → Q (.ref a) H') : tCall (sp_settle_text g) [] E0 (tCons te tNil) σ H Q := by
  refine he H (Ex.refl _) _ fun v H1 e1 av => ?_
  cases at_str_inv av
  exact ⟨X, t, rfl, dm.pr e1, at_str_ok av, lt, fun H' a e2 ha hr => q H' a (e1.trans e2) (fresh_back e1 ha) hr⟩
theorem ev_rep {z : Str} {k : Int} {r : T} (hr : repT k.toNat z.cps.toList = r) (hk : 1 < k ∧ k < 1000) (hz : 0 < z.length ∧ z.length < 1000) (hok : ok (S r)) : EvD g.K X (tOp rRepS (tC (.str z)) (tC (.int k))) σ H (Mi.str r) := fun H1 e1 Q q =>
  ⟨z, k, rfl, rfl, hk.1, hk.2, hz.1, hz.2, by rw [hr]; exact q _ H1 (Ex.refl _) (at_str hok)⟩
/-- settle_text(..) == Unread(place, True) -/
theorem ev_eqT {pl : Nat} (he : EvD g.K X te σ H (Mi.str t)) (dm : Dom X H) (lt : t.length ≤ 10000) (hs : settle t [] = .unread pl) (hl : pl = t.length) : EvD g.K X (tOp (rEqO g) (tCall (sp_settle_text g) [] E0 (tCons te tNil)) (tMake g.Unread (sp_Unread_init g) [] E0 (tCons (tC (.int (pl : Nat))) (tCons (tC (.bl true)) tNil)))) σ H (.bool true) := fun H1 e1 Q q => by
  refine m_text (X := X) (he.ex e1) (dm.pr e1) lt fun H2 a e2 ha hr => ?_
  rw [hs] at hr
  obtain ⟨dx, h2a⟩ := hr
  rw [decide_eq_true hl] at h2a
  exact eq_un (X := X) h2a (ev_int (x := (pl : Nat))) (ev_bl (x := true)) fun H3 e3 => q _ H3 (e2.trans e3) at_bl
include G in
theorem fl_ok {R : Res} (h7 : σ[7]? = some (some (.str (S t)))) (ot : ok (S t)) (lt : t.length ≤ 10000) (dm : Dom X H) (hR : settle t [] = R) {o dv : V} {A : Ans} {z : PyData} (h15 : σ[15]? = some (some o)) (h16 : σ[16]? = some (some dv)) (hA : AnsAt g X H o A) (hz : At g.K X H dv z) (hf : Flt8 t R A z) (hd : z.depth ≤ 200) (k : ∀ H', Ex H H' → D.nx σ H') : lw_fl g D σ H := by
  have hrf : EvD g.K X (tCall (sp_reading_fault g) [] E0 (tCons (tVar 7) (tCons (tTup tNil) (tCons (tVar 15) tNil)))) σ H z := fun H1 e1 Q q => by
    refine ⟨_, h7, by decide, fun s hs => ⟨_, h15, X, t, .ref s, [], o, A, z, rfl, (dm.pr e1).pr (Ex.new hs), ot, lt, ⟨.inr (at_tupN (ds := []) (dm.pr e1) hs .nil), by simp, by simp, by simp⟩, (hA.ex e1).ex (Ex.new hs), by rw [hR]; exact hf, fun H' u e' au => q u H' ((Ex.new hs).trans e') au⟩⟩
  exact Evl.s_when (b := false) (et_test (ev_op hrf (ev_var h16 hz) (rd_is (rd_neN (Nat.le_trans (Nat.min_le_left _ _) hd)) (by rw [SeqAt.eqv_refl _ hz.lay]; rfl)))) (fun h => by cases h) fun _ H1 e1 => k H1 e1
include G in
theorem u_law : ∀ vs H Q E, sp_law g vs H Q E → t_law g (EQ Q) (start ["script", "pen", "names", "lap", "some", "tree", "free", "text", "turn", "cut", "told", "sign", "other", "again", "place", "answer", "due"] vs) H := fun vs H Q E ⟨a0, cells, e, av, q⟩ => by
  subst e
  rw [t_law_is]
  refine q_asgR ⟨_, rfl, [], a0, cells, rfl, fun a m => (by cases m), av, fun H1 p e1 hp0 hp1 => ?_⟩
  refine q_asg (K := g.K) (X := [p]) (d := .list (NMS.map Mi.str)) (ev_lst hp1.dm (ea_cons (evs (t := [120])) (ea_cons (evs (t := [121])) (ea_cons (evs (t := [122, 49])) (ea_cons (evs (t := [110])) (ea_cons (evs (t := [97, 108, 108, 115])) (ea_cons (evs (t := [97, 110])) ea_nil)))))) (by show 6 ≤ 100000; decide)) fun nv H2 e2 an => ?_
  have hp2 := hp1.exx e2
  have s2 : LS [some (.ref a0), some (.ref p), some nv, none, none, none, none, none, none, none, none, none, none, none, none, none, none] p nv := ⟨rfl, rfl, rfl⟩
  show tSeq _ _ _ [some (.ref a0), some (.ref p), some nv, none, none, none, none, none, none, none, none, none, none, none, none, none, none] H2
  generalize [some (.ref a0), some (.ref p), some nv, none, none, none, none, none, none, none, none, none, none, none, none, none, none] = σ2 at *
  have hpp : p ∈ [p] := List.mem_cons_self
  refine q_for (X := [p]) (ei_rng (K := g.K) (n := 2) (by omega) ev_int) (fun i σ' H' => LS σ' p nv ∧ Pr [p] H2 H' ∧ PenAt g [p] H' p (4000 * i)) (fun H3 e3 => ⟨s2, Ex.pr e3, hp2.exx e3⟩) (fun H3 i d w σ' H4 e3 p4 hd ad ⟨h1, h2, h3⟩ => ?_) (fun H3 σ' H4 e3 p4 ⟨h1, h2, h3⟩ => ?_)
  · have hi : i < 2 := by
      have := (List.getElem?_eq_some_iff.mp hd).1
      rw [List.length_map, List.length_range] at this
      exact this
    show lw_lap g _ (σ'.set 3 (some w)) H4
    exact lap_ok (X := [p]) G (h1.set (by decide) (by decide)) h3 (by omega) (an.pr h2) fun σ5 H5 k1 k2 k3 => ⟨⟨p4.trans k2, k1, h2.trans k2, k3.up (by omega)⟩, ⟨p4.trans k2, k1, h2.trans k2, k3.up (by omega)⟩⟩
  rw [List.length_map, List.length_range] at h3
  refine q_for (X := [p]) (ei_rng (K := g.K) (n := 6) (by omega) ev_int) (fun i σ' H' => LS σ' p nv ∧ Pr [p] H2 H' ∧ PenAt g [p] H' p (8000 + i)) (fun H5 e5 => ⟨h1, h2.trans (Ex.pr e5), (h3.exx e5).up (by omega)⟩) (fun H5 i d w σ' H6 e5 p6 hd ad ⟨k1, k2, k3⟩ => ?_) (fun H5 σ5 H6 e5 p6 ⟨k1, k2, k3⟩ => ?_)
  · have hi : i < 6 := by
      have := (List.getElem?_eq_some_iff.mp hd).1
      rw [List.length_map, List.length_range] at this
      exact this
    show lw_kn g _ (σ'.set 3 (some w)) H6
    exact kn_ok8 (X := [p]) G (k1.set (by decide) (by decide)) k3 (by omega) fun σ7 H7 m1 m2 m3 => ⟨p6.trans m2, m1, k2.trans m2, m3.up (by omega)⟩
  rw [List.length_map, List.length_range] at k3
  refine q_asgT (m_pick (X := [p]) (ds := KT4.map pairD) k1.h1 k3 (ev_l4 k3.dm (ev_pairD k3.dm (t := [120, 32, 61, 32, 49]) (n := 0)) (ev_pairD k3.dm (t := [97, 108, 108, 32, 120, 58, 32, 120, 32, 61, 32, 121]) (n := 11)) (ev_pairD k3.dm (t := [115, 111, 109, 101, 32, 120, 58, 32, 120, 32, 61, 32, 120, 121]) (n := 13)) (ev_pairD k3.dm (t := [97, 108, 108, 32, 97, 98, 58, 32, 97, 32, 61, 32, 49]) (n := 9))) (by decide) (by decide) (by omega) fun H7 u d p7 hm hp7 au => ?_)
  obtain ⟨⟨t, pl⟩, hx, rfl⟩ := List.mem_map.mp hm
  have hs : settle t [] = .unread pl := unr_some (kt4_ok _ hx)
  have lt : t.length ≤ 100 := (by decide : ∀ x ∈ KT4, x.1.length ≤ 100) _ hx
  refine g_tup (ds := [Mi.str t, .int (pl : Nat)]) au rfl fun vs as => ?_
  obtain ⟨w1, w2, rfl, a1, a2⟩ := ats2 as
  cases at_str_inv a1
  cases at_int_inv a2
  have ot := at_str_ok a1
  refine ⟨_, _, rfl, _, _, rfl, rfl, ?_⟩
  have l6 : ((σ5.set 7 (some (.str (S t)))).set 14 (some (.int (pl : Nat)))).length = 17 := by rw [List.length_set, List.length_set, k1.len]
  have c7 : ((σ5.set 7 (some (.str (S t)))).set 14 (some (.int (pl : Nat))))[7]? = some (some (.str (S t))) := get_ne (get_eq (by rw [k1.len]; decide)) (by decide)
  have c14 : ((σ5.set 7 (some (.str (S t)))).set 14 (some (.int (pl : Nat))))[14]? = some (some (.int (pl : Nat))) := get_eq (by rw [List.length_set, k1.len]; decide)
  show tSeq _ _ _ ((σ5.set 7 (some (.str (S t)))).set 14 (some (.int (pl : Nat)))) H7
  generalize (σ5.set 7 (some (.str (S t)))).set 14 (some (.int (pl : Nat))) = σ6 at *
  have dm7 := hp7.dm
  have hend : ∀ {C : Hp}, EvD g.K [p] (tOp rEq (tVar 14) (tCB (rLenA g.K) (tCons (tVar 7) tNil))) σ6 C (.bool (decide (pl = t.length))) := fun {C} => ev_op (ev_var c14 at_int) (ev_cb (ea_cons (ev_var c7 (at_str ot)) ea_nil) (rc_lenSs (by omega))) rd_eqNn
  have test : EvT (tTest (tOp (rNeO g) (tCall (sp_settle_text g) [] E0 (tCons (tVar 7) tNil)) (tMake g.Unread (sp_Unread_init g) [] E0 (tCons (tVar 14) (tCons (tOp rEq (tVar 14) (tCB (rLenA g.K) (tCons (tVar 7) tNil))) tNil))))) σ6 H7 false := fun C1 x1 Q q => by
    refine m_text (X := [p]) (te := tVar 7) (ev_var c7 (at_str ot)) (dm7.pr x1) (by omega) fun C2 a x2 ha hr => ?_
    rw [hs] at hr
    obtain ⟨dx, h2a⟩ := hr
    refine mk_un (X := [p]) (ev_var c14 at_int) hend fun b C3 x3 hb ⟨dy, x, y, hb1, ax, ay⟩ => ?_
    cases at_int_inv ax
    cases at_bl_inv ay
    have h3a := x3 _ _ h2a
    exact ⟨⟨a, b, dx, dy, _, _, rfl, rfl, h3a, hb1, (pl : Nat), _, ⟨dx, _, h3a, rfl, rfl⟩, dy, _, hb1, rfl, rfl⟩, fun H' e' => ⟨false, rfl, q H' ((x2.trans x3).trans e')⟩⟩
  refine Evl.q_when (b := false) test (fun h => by cases h) fun _ H8 e8 => ?_
  have dm8 := dm7.pr e8
  have hsd : ∀ x : T, (tup1 x).depth ≤ 200 := fun x => by show max 0 0 + 1 ≤ 200; decide
  -- the six answers
  have rows : EvRowsN g [p] t (.unread pl) _ σ6 H8 6 := er_cons (er_un (tp := tVar 14) (te := tC (.bl true)) (tf := tIf (tTest (tOp rEq (tVar 14) (tCB (rLenA g.K) (tCons (tVar 7) tNil)))) (tC .non) (tTup (tCons (tC (.str "end")) tNil))) (d := .int (pl : Nat)) (e := .bool true) (z := if true = decide (pl = t.length) then .none else tup1 nEnd) (ev_var c14 at_int) ev_bl (ev_if (b := decide (pl = t.length)) (et_test hend) (fun hb => by rw [if_pos hb.symm]; exact ev_non) (fun hb => by rw [if_neg (by rw [hb]; decide)]; exact ev_t1 (t := nEnd) dm8)) .enB (by split; exact Nat.zero_le _; exact hsd _))
    (er_cons (er_un (tp := tOp rAddI (tVar 14) (tC (.int 1))) (te := tC (.bl false)) (tf := tTup (tCons (tC (.str "place")) tNil)) (d := .int ((pl + 1 : Nat) : Int)) (e := .bool false) (z := tup1 nPlace) (ev_op (ev_var c14 at_int) ev_int (rd_addN (n := 1))) ev_bl (ev_t1 (t := nPlace) dm8) (.plN (by omega)) (hsd _))
    (er_cons (er_un (tp := tC .non) (te := tC .non) (tf := tTup (tCons (tC (.str "place")) tNil)) (d := .none) (e := .none) (z := tup1 nPlace) ev_non ev_non (ev_t1 (t := nPlace) dm8) .pl0 (hsd _))
    (er_cons (er_un (tp := tVar 14) (te := tC .non) (tf := tTup (tCons (tC (.str "end")) tNil)) (d := .int (pl : Nat)) (e := .none) (z := tup1 nEnd) (ev_var c14 at_int) ev_non (ev_t1 (t := nEnd) dm8) .en0 (hsd _))
    (er_cons (er_rd (tp := tC .non) (tf := tTup (tCons (tC (.str "unread")) tNil)) (d := .none) (z := tup1 [117, 110, 114, 101, 97, 100]) ev_non (ev_t1 (t := [117, 110, 114, 101, 97, 100]) dm8) .rdU (hsd _))
    (er_cons (er_num (tf := tTup (tCons (tC (.str "answer")) tNil)) (k := 5) (z := tup1 [97, 110, 115, 119, 101, 114]) (ev_t1 (t := [97, 110, 115, 119, 101, 114]) dm8) .num (hsd _)) er_nil)))))
  refine sq (r_forL ?_)
  refine rows H8 (Ex.refl _) _ fun xs H9 e9 hxl hrows => ⟨by rw [hxl]; decide, fun l hl => ?_⟩
  have e910 := Ex.new (o := .lst xs) hl
  refine Evl.s_forL (K := g.K) (a := l) (xs := xs) Evl.ev_c (sq_of upd_same) (fun i σ' H' => σ'.length = 17 ∧ σ'[7]? = some (some (.str (S t))) ∧ Ex (upd H9 l (.lst xs)) H') (fun H10 e10 => ⟨l6, c7, e10⟩) (fun i σ' H' hi ⟨_, _, h3⟩ => sq_of (h3 _ _ upd_same)) (fun i x σ' H' hxi ⟨hl17, hs7, hex⟩ => ?_) (fun σ' H' ⟨hl17, hs7, hex⟩ => ?_)
  · obtain ⟨qa, o, dv, A, z, rfl, hq, hA, hz, hf, hd⟩ := ((hrows x (List.mem_of_getElem? hxi)).ex e910).ex hex
    refine ⟨qa, [o, dv], rfl, st_of hq, rfl, _, _, rfl, _, _, rfl, rfl, ?_⟩
    have g15 : ((σ'.set 15 (some o)).set 16 (some dv))[15]? = some (some o) := get_ne (get_eq (by rw [hl17]; decide)) (by decide)
    have g16 : ((σ'.set 15 (some o)).set 16 (some dv))[16]? = some (some dv) := get_eq (by rw [List.length_set, hl17]; decide)
    have g7 : ((σ'.set 15 (some o)).set 16 (some dv))[7]? = some (some (.str (S t))) := get_ne (get_ne hs7 (by decide)) (by decide)
    refine fl_ok (X := [p]) G g7 ot (by omega) ((dm8.pr e9).pr (e910.trans hex)) hs g15 g16 hA hz hf hd fun H11 e11 => ⟨by rw [List.length_set, List.length_set]; exact hl17, g7, hex.trans e11⟩
  · have dm11 : Dom [p] H' := (dm8.pr e9).pr (e910.trans hex)
    dsimp only
    refine s_ret (K := g.K) (X := [p]) (evD_is (ev_andV (a := true) (b := true) (ev_eqT (t := rep1) (pl := 400) (ev_rep rfl (by decide) (by decide) (by decide +kernel)) dm11 (by decide +kernel) rep1_ok (by decide +kernel)) fun _ => ev_eqT (t := rep2) (pl := 300) (ev_rep rfl (by decide) (by decide) (by decide +kernel)) dm11 (by decide +kernel) rep2_ok (by decide +kernel)) rfl) fun u H12 e12 au => ?_
    cases at_bl_inv au
    exact q H12
end
end Dy
section
set_option maxHeartbeats 4000019
namespace Dy
open PySem L2 Evl Mi
def NoSp : Sp := fun _ _ _ _ => False
theorem no_okf {P : Program} {w : World} {g : G8} {mg : Str → Option Value} {base : Heap} {x : Str} {st : Stmt} {ps : List Str} (D : DefF g mg x st ps) : Okf P w g mg base 0 x ps NoSp := by
  obtain ⟨f, fd, F, m, b⟩ := D
  exact ⟨f, fd, ⟨fun vs H Q E h => False.elim h, fun A outer s H args us vs Q E _ _ _ _ h => False.elim h⟩, m, F.kp, b⟩
theorem okf_imp {P : Program} {w : World} {g : G8} {mg : Str → Option Value} {base : Heap} {k : Nat} {x : Str} {ps : List Str} {sp sp' : Sp} (O : Okf P w g mg base k x ps sp) (h : ∀ vs H Q E, sp' vs H Q E → sp vs H Q E) : Okf P w g mg base k x ps sp' := by
  obtain ⟨f, fd, F, m, kp, b⟩ := O
  exact ⟨f, fd, F.imp h, m, kp, b⟩
theorem all_ok {P : Program} {w : World} {g : G8} {mg : Str → Option Value} {base : Heap} (T : Tx g mg) (G : Gf g) (D_is_integer : DefF g mg "is_integer" s_is_integer ["value"]) (D_is_row : DefF g mg "is_row" s_is_row ["value"]) (D_is_name : DefF g mg "is_name" s_is_name ["value"]) (D_is_head : DefF g mg "is_head" s_is_head ["value", "heads", "length"]) (D_term_breach : DefF g mg "term_breach" s_term_breach ["value"]) (D_are_terms : DefF g mg "are_terms" s_are_terms ["values"]) (D_saying_parts : DefF g mg "saying_parts" s_saying_parts ["value"]) (D_is_saying : DefF g mg "is_saying" s_is_saying ["value"]) (D_Read_init : DefI g g.Read "Read.__init__" s_Read_init ["self", "tree"]) (D_Read_eq : DefM g g.Read "__eq__" "Read.__eq__" s_Read_eq ["self", "other"]) (D_Unread_init : DefI g g.Unread "Unread.__init__" s_Unread_init ["self", "place", "is_end"]) (D_Unread_eq : DefM g g.Unread "__eq__" "Unread.__eq__" s_Unread_eq ["self", "other"]) (D_run_end : DefF g mg "run_end" s_run_end ["text", "at", "signs"]) (D_token_at : DefF g mg "token_at" s_token_at ["text", "at"]) (D_Reader_init : DefI g g.Reader "Reader.__init__" s_Reader_init ["self", "text", "free"]) (D_Reader_step : DefM g g.Reader "step" "Reader.step" s_Reader_step ["self"]) (D_Reader_at : DefM g g.Reader "at" "Reader.at" s_Reader_at ["self", "kind", "tokens"]) (D_Reader_top : DefM g g.Reader "top" "Reader.top" s_Reader_top ["self"]) (D_longest_shared : DefF g mg "longest_shared" s_longest_shared ["token", "words"]) (D_Reader_stop : DefM g g.Reader "stop" "Reader.stop" s_Reader_stop ["self", "words", "signs"]) (D_read_name : DefF g mg "read_name" s_read_name ["reader"]) (D_read_number : DefF g mg "read_number" s_read_number ["reader", "most"]) (D_read_bound : DefF g mg "read_bound" s_read_bound ["reader"]) (D_read_unit : DefF g mg "read_unit" s_read_unit ["reader"]) (D_read_term : DefF g mg "read_term" s_read_term ["reader"]) (D_read_base : DefF g mg "read_base" s_read_base ["reader"]) (D_join_open : DefF g mg "join_open" s_join_open ["reader", "heads"]) (D_go_on : DefF g mg "go_on" s_go_on ["reader", "kind", "tokens", "head", "wanted"]) (D_close_bracket : DefF g mg "close_bracket" s_close_bracket ["reader"]) (D_read_more : DefF g mg "read_more" s_read_more ["reader"]) (D_read_joined : DefF g mg "read_joined" s_read_joined ["reader"]) (D_read_next : DefF g mg "read_next" s_read_next ["reader"]) (D_need_text : DefF g mg "need_text" s_need_text ["text", "free"]) (D_settled_formula : DefF g mg "settled_formula" s_settled_formula ["text", "free"]) (D_settle_formula : DefF g mg "settle_formula" s_settle_formula ["text", "free"]) (D_settle_text : DefF g mg "settle_text" s_settle_text ["text"]) (D_reading_fault : DefF g mg "reading_fault" s_reading_fault ["text", "free", "answer"]) (D_law_pen : DefF g mg "_law_pen" s_law_pen ["script"]) (D_law_draw : DefF g mg "_law_draw" s_law_draw ["pen", "many"]) (D_law_pick : DefF g mg "_law_pick" s_law_pick ["pen", "some"]) (D_law_s_term : DefF g mg "_law_s_term" s_law_s_term ["pen", "names", "size"]) (D_law_s_atom : DefF g mg "_law_s_atom" s_law_s_atom ["pen", "names", "size"]) (D_law_s_saying : DefF g mg "_law_s_saying" s_law_s_saying ["pen", "names", "size", "term"]) (D_law_s_parts : DefF g mg "_law_s_parts" s_law_s_parts ["tree"]) (D_law_s_in_terms : DefF g mg "_law_s_in_terms" s_law_s_in_terms ["terms"]) (D_law_s_free : DefF g mg "_law_s_free" s_law_s_free ["tree"]) (D_law_s_spread : DefF g mg "_law_s_spread" s_law_s_spread ["tree", "level", "more"]) (D_law_s_spread_term : DefF g mg "_law_s_spread_term" s_law_s_spread_term ["term", "level", "more"]) (D_law_s_tokens : DefF g mg "_law_s_tokens" s_law_s_tokens ["tree", "pen"]) (D_law_s_joined_text : DefF g mg "_law_s_joined_text" s_law_s_joined_text ["tokens", "pen"]) (D_law_s_text : DefF g mg "_law_s_text" s_law_s_text ["tree", "pen"]) (D_law_known : DefF g mg "_law_known" s_law_known []) (D_law_one_right : DefF g mg "_law_one_right" s_law_one_right ["text", "free", "place"]) {f : Addr} {fd : FuncData} (F : Fun g.K "law" "law" s_law f fd) : FnOk P w g.K mg base CX0 124 f fd ["script"] (sp_law g) := by
  have O_is_integer : Okf P w g mg base 1 "is_integer" ["value"] (sp_is_integer g) := ok_is_integer T D_is_integer  (p_len fun ds z h => by obtain ⟨_, e, _⟩ := h; subst e; rfl) u_is_integer
  have O_is_row : Okf P w g mg base 1 "is_row" ["value"] (sp_is_row g) := ok_is_row T D_is_row  (p_len fun ds z h => by obtain ⟨_, e, _⟩ := h; subst e; rfl) u_is_row
  have O_is_name : Okf P w g mg base 1 "is_name" ["value"] (sp_is_name g) := ok_is_name T D_is_name  (p_len fun ds z h => by obtain ⟨_, _, e, _⟩ := h; subst e; rfl) (u_is_name G)
  have O_is_head : Okf P w g mg base 1 "is_head" ["value", "heads", "length"] (sp_is_head g) := ok_is_head T D_is_head  (p_len fun ds z h => by obtain ⟨_, _, _, _, e, _⟩ := h; subst e; rfl) u_is_head
  have O_term_breach : Okf P w g mg base 2 "term_breach" ["value"] (sp_term_breach g) := ok_term_breach T D_term_breach O_is_head O_is_integer O_is_name (p_len fun ds z h => by obtain ⟨_, _, _, e, _⟩ := h; subst e; rfl) u_term_breach
  have O_are_terms : Okf P w g mg base 3 "are_terms" ["values"] (sp_are_terms g) := ok_are_terms T D_are_terms O_term_breach (p_len fun ds z h => by obtain ⟨_, _, _, e, _⟩ := h; subst e; rfl) u_are_terms
  have O_saying_parts : Okf P w g mg base 2 "saying_parts" ["value"] (sp_saying_parts g) := ok_saying_parts T D_saying_parts O_is_head O_is_name (p_len fun ds z h => by obtain ⟨_, _, _, e, _⟩ := h; subst e; rfl) (u_saying_parts G)
  have O_is_saying : Okf P w g mg base 4 "is_saying" ["value"] (sp_is_saying g) := ok_is_saying T D_is_saying O_saying_parts O_are_terms (p_len fun ds z h => by obtain ⟨_, _, _, e, _⟩ := h; subst e; rfl) (u_is_saying G)
  have O_Read_init : Oki P w g mg base 1 g.Read ["self", "tree"] (sp_Read_init g) := ok_Read_init T D_Read_init  (fun vs H Q E h => by obtain ⟨_, _, _, e, _⟩ := h; subst e; rfl) (u_Read_init G)
  have O_Read_eq : Okm P w g mg base 120 g.Read "__eq__" ["self", "other"] (sp_Read_eq g) := ok_Read_eq T D_Read_eq  (fun vs H Q E h => by obtain ⟨a, b, e, _⟩ := h; subst e; rfl) (u_Read_eq G)
  have O_Unread_init : Oki P w g mg base 1 g.Unread ["self", "place", "is_end"] (sp_Unread_init g) := ok_Unread_init T D_Unread_init  (fun vs H Q E h => by obtain ⟨_, _, _, _, e, _⟩ := h; subst e; rfl) (u_Unread_init G)
  have O_Unread_eq : Okm P w g mg base 1 g.Unread "__eq__" ["self", "other"] (sp_Unread_eq g) := ok_Unread_eq T D_Unread_eq  (fun vs H Q E h => by obtain ⟨a, b, e, _⟩ := h; subst e; rfl) (u_Unread_eq G)
  have O_run_end : Okf P w g mg base 1 "run_end" ["text", "at", "signs"] (sp_run_end g) := ok_run_end T D_run_end  (p_len fun ds z h => by obtain ⟨_, _, _, _, _, e, _⟩ := h; subst e; rfl) u_run_end
  have O_token_at : Okf P w g mg base 2 "token_at" ["text", "at"] (sp_token_at g) := ok_token_at T D_token_at O_run_end (p_len fun ds z h => by obtain ⟨_, _, _, _, e, _⟩ := h; subst e; rfl) (u_token_at G)
  have O_Reader_init : Oki P w g mg base 3 g.Reader ["self", "text", "free"] (sp_Reader_init g) := ok_Reader_init T D_Reader_init O_token_at (fun vs H Q E h => by obtain ⟨_, _, _, _, _, _, e, _⟩ := h; subst e; rfl) (u_Reader_init G)
  have O_Reader_step : Okm P w g mg base 3 g.Reader "step" ["self"] (sp_Reader_step g) := ok_Reader_step T D_Reader_step O_token_at (fun vs H Q E h => by obtain ⟨_, _, _, _, _, _, _, _, e, _⟩ := h; subst e; rfl) (u_Reader_step G)
  have O_Reader_at : Okm P w g mg base 1 g.Reader "at" ["self", "kind", "tokens"] (sp_Reader_at g) := ok_Reader_at T D_Reader_at  (fun vs H Q E h => by obtain ⟨_, _, _, _, _, _, _, _, _, _, _, e, _⟩ := h; subst e; rfl) (u_Reader_at G)
  have O_Reader_top : Okm P w g mg base 1 g.Reader "top" ["self"] (sp_Reader_top g) := ok_Reader_top T D_Reader_top  (fun vs H Q E h => by obtain ⟨_, _, _, _, _, _, _, _, e, _⟩ := h; subst e; rfl) (u_Reader_top G)
  have O_longest_shared : Okf P w g mg base 1 "longest_shared" ["token", "words"] (sp_longest_shared g) := ok_longest_shared T D_longest_shared  (p_len fun ds z h => by obtain ⟨_, _, _, _, e, _⟩ := h; subst e; rfl) u_longest_shared
  have O_Reader_stop : Okm P w g mg base 2 g.Reader "stop" ["self", "words", "signs"] (sp_Reader_stop g) := ok_Reader_stop T D_Reader_stop O_longest_shared (fun vs H Q E h => by obtain ⟨_, _, _, _, _, _, _, _, _, _, _, _, e, _⟩ := h; subst e; rfl) (u_Reader_stop G)
  have O_read_name : Okf P w g mg base 4 "read_name" ["reader"] (sp_read_name g) := ok_read_name T D_read_name O_Reader_stop O_Reader_step (fun vs H Q E h => by obtain ⟨_, _, _, _, _, _, _, _, e, _⟩ := h; subst e; rfl) (u_read_name G)
  have O_read_number : Okf P w g mg base 4 "read_number" ["reader", "most"] (sp_read_number g) := ok_read_number T D_read_number O_Reader_stop O_Reader_step (fun vs H Q E h => by obtain ⟨_, _, _, _, _, _, _, _, _, e, _⟩ := h; subst e; rfl) (u_read_number G)
  have O_read_bound : Okf P w g mg base 5 "read_bound" ["reader"] (sp_read_bound g) := ok_read_bound T D_read_bound O_Reader_step O_read_name O_Reader_at O_Reader_stop (fun vs H Q E h => by obtain ⟨_, _, _, _, _, _, e, _⟩ := h; subst e; rfl) (u_read_bound G)
  have O_read_unit : Okf P w g mg base 6 "read_unit" ["reader"] (sp_read_unit g) := ok_read_unit T D_read_unit O_Reader_at O_Reader_step O_read_bound (fun vs H Q E h => by obtain ⟨_, _, _, _, _, _, e, _⟩ := h; subst e; rfl) (u_read_unit G)
  have O_read_term : Okf P w g mg base 4 "read_term" ["reader"] (sp_read_term g) := ok_read_term T D_read_term O_Reader_at O_Reader_step (fun vs H Q E h => by obtain ⟨_, _, _, _, _, _, e, _⟩ := h; subst e; rfl) (u_read_term G)
  have O_read_base : Okf P w g mg base 5 "read_base" ["reader"] (sp_read_base g) := ok_read_base T D_read_base O_Reader_at O_Reader_step O_read_number O_Reader_stop (fun vs H Q E h => by obtain ⟨_, _, _, _, _, _, e, _⟩ := h; subst e; rfl) (u_read_base G)
  have O_join_open : Okf P w g mg base 2 "join_open" ["reader", "heads"] (sp_join_open g) := ok_join_open T D_join_open O_Reader_top (fun vs H Q E h => by obtain ⟨_, _, _, _, _, _, _, _, _, _, e, _⟩ := h; subst e; rfl) (u_join_open G)
  have O_go_on : Okf P w g mg base 4 "go_on" ["reader", "kind", "tokens", "head", "wanted"] (sp_go_on g) := ok_go_on T D_go_on O_Reader_at O_Reader_step (fun vs H Q E h => by obtain ⟨_, _, _, _, _, _, _, _, _, _, _, _, _, e, _⟩ := h; subst e; rfl) (u_go_on G)
  have O_close_bracket : Okf P w g mg base 4 "close_bracket" ["reader"] (sp_close_bracket g) := ok_close_bracket T D_close_bracket O_Reader_at O_Reader_step O_Reader_stop (fun vs H Q E h => by obtain ⟨_, _, _, _, _, _, e, _⟩ := h; subst e; rfl) (u_close_bracket G)
  have O_read_more : Okf P w g mg base 5 "read_more" ["reader"] (sp_read_more g) := ok_read_more T D_read_more O_Reader_at O_Reader_step O_read_number O_join_open O_go_on O_Reader_top O_close_bracket O_Reader_stop (fun vs H Q E h => by obtain ⟨_, _, _, _, _, _, e, _⟩ := h; subst e; rfl) (u_read_more G)
  have O_read_joined : Okf P w g mg base 5 "read_joined" ["reader"] (sp_read_joined g) := ok_read_joined T D_read_joined O_join_open O_go_on O_Reader_top O_Reader_at O_Reader_step O_Reader_stop (fun vs H Q E h => by obtain ⟨_, _, _, _, _, _, e, _⟩ := h; subst e; rfl) (u_read_joined G)
  have O_read_next : Okf P w g mg base 7 "read_next" ["reader"] (sp_read_next g) := ok_read_next T D_read_next O_read_unit O_read_term O_read_base O_read_more O_read_joined (fun vs H Q E h => by obtain ⟨_, _, _, _, _, _, e, _⟩ := h; subst e; rfl) (u_read_next G)
  have O_need_text : Okf P w g mg base 2 "need_text" ["text", "free"] (sp_need_text g) := ok_need_text T D_need_text O_is_row O_is_name (fun vs H Q E h => by obtain ⟨_, _, _, _, e, _⟩ := h; subst e; rfl) u_need_text
  have O_settled_formula : Okf P w g mg base 8 "settled_formula" ["text", "free"] (sp_settled_formula g) := ok_settled_formula T D_settled_formula O_Reader_init O_read_next O_Unread_init O_Read_init (fun vs H Q E h => by obtain ⟨_, _, _, _, e, _⟩ := h; subst e; rfl) (u_settled_formula G)
  have O_settle_formula : Okf P w g mg base 9 "settle_formula" ["text", "free"] (sp_settle_formula g) := ok_settle_formula T D_settle_formula O_need_text O_settled_formula (fun vs H Q E h => by obtain ⟨_, _, _, _, e, _⟩ := h; subst e; rfl) u_settle_formula
  have O_settle_text : Okf P w g mg base 9 "settle_text" ["text"] (sp_settle_text g) := ok_settle_text T D_settle_text O_need_text O_settled_formula (fun vs H Q E h => by obtain ⟨_, _, e, _⟩ := h; subst e; rfl) u_settle_text
  have O_reading_fault : Okf P w g mg base 122 "reading_fault" ["text", "free", "answer"] (sp_reading_fault g) := ok_reading_fault T D_reading_fault O_need_text O_settled_formula O_is_saying O_Read_eq O_Unread_eq O_is_integer (fun vs H Q E h => by obtain ⟨_, _, _, _, _, _, _, e, _⟩ := h; subst e; rfl) (u_reading_fault G)
  have O_law_pen : Okf P w g mg base 1 "_law_pen" ["script"] (sp_law_pen g) := ok_law_pen T D_law_pen  (fun vs H Q E h => by obtain ⟨_, _, _, e, _⟩ := h; subst e; rfl) u_law_pen
  have O_law_draw : Okf P w g mg base 1 "_law_draw" ["pen", "many"] (sp_law_draw g) := ok_law_draw T D_law_draw  (fun vs H Q E h => by obtain ⟨_, _, _, _, e, _⟩ := h; subst e; rfl) u_law_draw
  have O_law_pick : Okf P w g mg base 2 "_law_pick" ["pen", "some"] (sp_law_pick g) := ok_law_pick T D_law_pick O_law_draw (fun vs H Q E h => by obtain ⟨_, _, _, _, _, e, _⟩ := h; subst e; rfl) u_law_pick
  have O_law_s_term : Okf P w g mg base 3 "_law_s_term" ["pen", "names", "size"] (sp_law_s_term g) := ok_law_s_term T D_law_s_term O_law_draw O_law_pick (fun vs H Q E h => by obtain ⟨_, _, _, _, _, _, e, _⟩ := h; subst e; rfl) u_law_s_term
  have O_law_s_atom : Okf P w g mg base 4 "_law_s_atom" ["pen", "names", "size"] (sp_law_s_atom g) := ok_law_s_atom T D_law_s_atom O_law_pick O_law_s_term O_law_draw (fun vs H Q E h => by obtain ⟨_, _, _, _, _, e, _⟩ := h; subst e; rfl) u_law_s_atom
  have O_law_s_saying : Okf P w g mg base 5 "_law_s_saying" ["pen", "names", "size", "term"] (sp_law_s_saying g) := ok_law_s_saying T D_law_s_saying O_law_draw O_law_s_atom O_law_pick (fun vs H Q E h => by obtain ⟨_, _, _, _, _, _, e, _⟩ := h; subst e; rfl) u_law_s_saying
  have O_law_s_parts : Okf P w g mg base 1 "_law_s_parts" ["tree"] (sp_law_s_parts g) := ok_law_s_parts T D_law_s_parts  (p_len fun ds z h => by obtain ⟨_, _, e, _⟩ := h; subst e; rfl) u_law_s_parts
  have O_law_s_in_terms : Okf P w g mg base 1 "_law_s_in_terms" ["terms"] (sp_law_s_in_terms g) := ok_law_s_in_terms T D_law_s_in_terms  (fun vs H Q E h => by obtain ⟨_, _, _, e, _⟩ := h; subst e; rfl) u_law_s_in_terms
  have O_law_s_free : Okf P w g mg base 2 "_law_s_free" ["tree"] (sp_law_s_free g) := ok_law_s_free T D_law_s_free O_law_s_parts O_law_s_in_terms (fun vs H Q E h => by obtain ⟨_, _, _, _, e, _⟩ := h; subst e; rfl) u_law_s_free
  have N_law_s_spread : Okf P w g mg base 3 "_law_s_spread" ["tree", "level", "more"] (pSp g.K (spreadR false)) := okb_law_s_spread (spr := NoSp) T D_law_s_spread O_law_s_parts (no_okf D_law_s_spread) (p_len fun ds z h => by obtain ⟨_, _, _, _, _, e, _⟩ := h; subst e; rfl) (by decide) (u_law_s_spread (b := false) fun h => by cases h)
  have O_law_s_spread : Okf P w g mg base 4 "_law_s_spread" ["tree", "level", "more"] (sp_law_s_spread g) := okf_imp (okr_law_s_spread (spr := pSp g.K (spreadR false)) (sp := pSp g.K (spreadR true)) T D_law_s_spread O_law_s_parts N_law_s_spread (p_len fun ds z h => by obtain ⟨_, _, _, _, _, e, _⟩ := h; subst e; rfl) (by decide) (u_law_s_spread (b := true) fun _ _ _ _ _ h => h)) fun vs H Q E ⟨X, ds, z, dm, av, ⟨f, l, more, q⟩, k⟩ => ⟨X, ds, z, dm, av, ⟨f, l, more, (fun h => by cases h), q⟩, k⟩
  have N_law_s_spread_term : Okf P w g mg base 2 "_law_s_spread_term" ["term", "level", "more"] (pSp g.K (spreadTR false)) := okb_law_s_spread_term (spr := NoSp) T D_law_s_spread_term  (no_okf D_law_s_spread_term) (p_len fun ds z h => by obtain ⟨_, _, _, _, _, e, _⟩ := h; subst e; rfl) (by decide) (u_law_s_spread_term (b := false) fun h => by cases h)
  have O_law_s_spread_term : Okf P w g mg base 3 "_law_s_spread_term" ["term", "level", "more"] (sp_law_s_spread_term g) := okf_imp (okr_law_s_spread_term (spr := pSp g.K (spreadTR false)) (sp := pSp g.K (spreadTR true)) T D_law_s_spread_term  N_law_s_spread_term (p_len fun ds z h => by obtain ⟨_, _, _, _, _, e, _⟩ := h; subst e; rfl) (by decide) (u_law_s_spread_term (b := true) fun _ _ _ _ _ h => h)) fun vs H Q E ⟨X, ds, z, dm, av, ⟨f, l, more, q⟩, k⟩ => ⟨X, ds, z, dm, av, ⟨f, l, more, (fun h => by cases h), q⟩, k⟩
  have O_law_s_tokens : Okf P w g mg base 5 "_law_s_tokens" ["tree", "pen"] (sp_law_s_tokens g) := ok_law_s_tokens T D_law_s_tokens O_law_draw O_law_s_spread O_law_s_spread_term (fun vs H Q E h => by obtain ⟨_, _, _, _, _, e, _⟩ := h; subst e; rfl) u_law_s_tokens
  have O_law_s_joined_text : Okf P w g mg base 3 "_law_s_joined_text" ["tokens", "pen"] (sp_law_s_joined_text g) := ok_law_s_joined_text T D_law_s_joined_text O_law_pick (fun vs H Q E h => by obtain ⟨_, _, _, _, _, e, _⟩ := h; subst e; rfl) u_law_s_joined_text
  have O_law_s_text : Okf P w g mg base 6 "_law_s_text" ["tree", "pen"] (sp_law_s_text g) := ok_law_s_text T D_law_s_text O_law_s_joined_text O_law_s_tokens (fun vs H Q E h => by obtain ⟨_, _, _, _, _, e, _⟩ := h; subst e; rfl) u_law_s_text
  have O_law_known : Okf P w g mg base 1 "_law_known" [] (sp_law_known g) := ok_law_known T D_law_known  (p_len fun ds z h => by obtain ⟨e, _⟩ := h; subst e; rfl) u_law_known
  have O_law_one_right : Okf P w g mg base 123 "_law_one_right" ["text", "free", "place"] (sp_law_one_right g) := ok_law_one_right T D_law_one_right O_settle_formula O_Unread_init O_Read_eq O_Unread_eq O_reading_fault (fun vs H Q E h => by obtain ⟨_, _, _, _, _, e, _⟩ := h; subst e; rfl) (u_law_one_right G)
  exact okx_law T F O_law_pen O_law_draw O_law_s_saying O_law_s_text O_law_s_free O_settle_formula O_Unread_init O_Read_eq O_Unread_eq O_law_one_right O_law_pick O_reading_fault O_law_known O_settle_text O_Read_init (fun vs H Q E h => by obtain ⟨_, _, e, _⟩ := h; subst e; rfl) (u_law G)
end Dy
end
section
set_option maxHeartbeats 4000019
namespace Dy
open PySem L2 Evl Mi
/-- where a def stands -/
abbrev Ob (K : PySem.W.Frag) (f : Addr) (m qual : Str) (st : Stmt) : Prop := ∃ oc od an sl kV dc pm cd ct, K.lookup f = some ⟨oc, od, .func (PySem.W.fnOf m qual (defArgs st) (defBody st) (defScope st) .none kV dc pm an cd ct), sl⟩ ∧ PySem.W.codeIn K cd qual = true ∧ PySem.W.keepIn K (.ref f) = true
abbrev RowF (K : PySem.W.Frag) (x : Str) (st : Stmt) : Prop := ∃ f, PySem.W.nsIn K mainGlobals x = some (some (.ref f)) ∧ Ob K f x x st
abbrev RowM (K : PySem.W.Frag) (C : Addr) (m qual : Str) (st : Stmt) : Prop := ∃ f, PySem.W.findIn K (.ref C) m = some (some (.ref f)) ∧ PySem.W.isFn K (.ref f) = true ∧ Ob K f m qual st
abbrev RowC (K : PySem.W.Frag) (C : Addr) : Prop := PySem.W.plainGet K C Str.empty = true ∧ PySem.W.hasDictIn K C = true ∧ PySem.W.plainOver K C = true ∧ PySem.W.findIn K (.ref C) "__setattr__" = some (some (.builtin "object.__setattr__")) ∧ PySem.W.makesIn K C = true ∧ PySem.W.keepIn K (.ref C) = true
abbrev RowT (K : PySem.W.Frag) (a : Addr) (ts : List T) : Prop := ∃ oc od its n sl, K.lookup a = some ⟨oc, od, .seq its n, sl⟩ ∧ oc = .type "tuple" ∧ its.size ≤ sizeLine ∧ Vals (strsV ts) its.toList
theorem row_sq {K : PySem.W.Frag} {a : Addr} {ts : List T} (r : RowT K a ts) (H : Hp) : SqT K H a (strsV ts) := by
  obtain ⟨oc, od, its, n, sl, l, c, z, v⟩ := r
  subst c
  exact .inr ⟨_, its, n, l, rfl, rfl, z, v⟩
theorem row_cls {K : PySem.W.Frag} {C : Addr} (r : RowC K C) : Cls K C := ⟨r.1, r.2.1, r.2.2.1, r.2.2.2.1⟩
theorem df_is_integer {g : G8} {h : Heap} {mg : Str → Option Value} (X : g.K.In h) (N : h.Ns mainGlobals mg) (r : RowF g.K "is_integer" s_is_integer) : DefF g mg "is_integer" s_is_integer ["value"] := by
  obtain ⟨f, a, _, _, _, _, _, _, _, _, _, l, c, k⟩ := r
  have F := fun_mk l c k
  exact ⟨f, _, F, PySem.W.mg_of X N a, F.binds (ps := ["value"]) fun _ _ _ _ _ _ us hl => match us, hl with | [_], _ => rfl⟩
theorem df_is_row {g : G8} {h : Heap} {mg : Str → Option Value} (X : g.K.In h) (N : h.Ns mainGlobals mg) (r : RowF g.K "is_row" s_is_row) : DefF g mg "is_row" s_is_row ["value"] := by
  obtain ⟨f, a, _, _, _, _, _, _, _, _, _, l, c, k⟩ := r
  have F := fun_mk l c k
  exact ⟨f, _, F, PySem.W.mg_of X N a, F.binds (ps := ["value"]) fun _ _ _ _ _ _ us hl => match us, hl with | [_], _ => rfl⟩
theorem df_is_name {g : G8} {h : Heap} {mg : Str → Option Value} (X : g.K.In h) (N : h.Ns mainGlobals mg) (r : RowF g.K "is_name" s_is_name) : DefF g mg "is_name" s_is_name ["value"] := by
  obtain ⟨f, a, _, _, _, _, _, _, _, _, _, l, c, k⟩ := r
  have F := fun_mk l c k
  exact ⟨f, _, F, PySem.W.mg_of X N a, F.binds (ps := ["value"]) fun _ _ _ _ _ _ us hl => match us, hl with | [_], _ => rfl⟩
theorem df_is_head {g : G8} {h : Heap} {mg : Str → Option Value} (X : g.K.In h) (N : h.Ns mainGlobals mg) (r : RowF g.K "is_head" s_is_head) : DefF g mg "is_head" s_is_head ["value", "heads", "length"] := by
  obtain ⟨f, a, _, _, _, _, _, _, _, _, _, l, c, k⟩ := r
  have F := fun_mk l c k
  exact ⟨f, _, F, PySem.W.mg_of X N a, F.binds (ps := ["value", "heads", "length"]) fun _ _ _ _ _ _ us hl => match us, hl with | [_, _, _], _ => rfl⟩
theorem df_term_breach {g : G8} {h : Heap} {mg : Str → Option Value} (X : g.K.In h) (N : h.Ns mainGlobals mg) (r : RowF g.K "term_breach" s_term_breach) : DefF g mg "term_breach" s_term_breach ["value"] := by
  obtain ⟨f, a, _, _, _, _, _, _, _, _, _, l, c, k⟩ := r
  have F := fun_mk l c k
  exact ⟨f, _, F, PySem.W.mg_of X N a, F.binds (ps := ["value"]) fun _ _ _ _ _ _ us hl => match us, hl with | [_], _ => rfl⟩
theorem df_are_terms {g : G8} {h : Heap} {mg : Str → Option Value} (X : g.K.In h) (N : h.Ns mainGlobals mg) (r : RowF g.K "are_terms" s_are_terms) : DefF g mg "are_terms" s_are_terms ["values"] := by
  obtain ⟨f, a, _, _, _, _, _, _, _, _, _, l, c, k⟩ := r
  have F := fun_mk l c k
  exact ⟨f, _, F, PySem.W.mg_of X N a, F.binds (ps := ["values"]) fun _ _ _ _ _ _ us hl => match us, hl with | [_], _ => rfl⟩
theorem df_saying_parts {g : G8} {h : Heap} {mg : Str → Option Value} (X : g.K.In h) (N : h.Ns mainGlobals mg) (r : RowF g.K "saying_parts" s_saying_parts) : DefF g mg "saying_parts" s_saying_parts ["value"] := by
  obtain ⟨f, a, _, _, _, _, _, _, _, _, _, l, c, k⟩ := r
  have F := fun_mk l c k
  exact ⟨f, _, F, PySem.W.mg_of X N a, F.binds (ps := ["value"]) fun _ _ _ _ _ _ us hl => match us, hl with | [_], _ => rfl⟩
theorem df_is_saying {g : G8} {h : Heap} {mg : Str → Option Value} (X : g.K.In h) (N : h.Ns mainGlobals mg) (r : RowF g.K "is_saying" s_is_saying) : DefF g mg "is_saying" s_is_saying ["value"] := by
  obtain ⟨f, a, _, _, _, _, _, _, _, _, _, l, c, k⟩ := r
  have F := fun_mk l c k
  exact ⟨f, _, F, PySem.W.mg_of X N a, F.binds (ps := ["value"]) fun _ _ _ _ _ _ us hl => match us, hl with | [_], _ => rfl⟩
theorem df_Read_init {g : G8} (c : RowC g.K g.Read) (r : RowM g.K g.Read "__init__" "Read.__init__" s_Read_init) : DefI g g.Read "Read.__init__" s_Read_init ["self", "tree"] := by
  obtain ⟨f, a, i, _, _, _, _, _, _, _, _, _, l, cc, k⟩ := r
  have F := fun_mk l cc k
  exact ⟨f, _, F, ⟨c.2.2.2.2.1, a, i, c.2.2.2.2.2⟩, F.binds (ps := ["self", "tree"]) fun _ _ _ _ _ _ us hl => match us, hl with | [_, _], _ => rfl⟩
theorem df_Read_eq {g : G8} (r : RowM g.K g.Read "__eq__" "Read.__eq__" s_Read_eq) : DefM g g.Read "__eq__" "Read.__eq__" s_Read_eq ["self", "other"] := by
  obtain ⟨f, a, i, _, _, _, _, _, _, _, _, _, l, c, k⟩ := r
  have F := fun_mk l c k
  exact ⟨f, _, F, ⟨a, i, k⟩, F.binds (ps := ["self", "other"]) fun _ _ _ _ _ _ us hl => match us, hl with | [_, _], _ => rfl⟩
theorem df_Unread_init {g : G8} (c : RowC g.K g.Unread) (r : RowM g.K g.Unread "__init__" "Unread.__init__" s_Unread_init) : DefI g g.Unread "Unread.__init__" s_Unread_init ["self", "place", "is_end"] := by
  obtain ⟨f, a, i, _, _, _, _, _, _, _, _, _, l, cc, k⟩ := r
  have F := fun_mk l cc k
  exact ⟨f, _, F, ⟨c.2.2.2.2.1, a, i, c.2.2.2.2.2⟩, F.binds (ps := ["self", "place", "is_end"]) fun _ _ _ _ _ _ us hl => match us, hl with | [_, _, _], _ => rfl⟩
theorem df_Unread_eq {g : G8} (r : RowM g.K g.Unread "__eq__" "Unread.__eq__" s_Unread_eq) : DefM g g.Unread "__eq__" "Unread.__eq__" s_Unread_eq ["self", "other"] := by
  obtain ⟨f, a, i, _, _, _, _, _, _, _, _, _, l, c, k⟩ := r
  have F := fun_mk l c k
  exact ⟨f, _, F, ⟨a, i, k⟩, F.binds (ps := ["self", "other"]) fun _ _ _ _ _ _ us hl => match us, hl with | [_, _], _ => rfl⟩
theorem df_run_end {g : G8} {h : Heap} {mg : Str → Option Value} (X : g.K.In h) (N : h.Ns mainGlobals mg) (r : RowF g.K "run_end" s_run_end) : DefF g mg "run_end" s_run_end ["text", "at", "signs"] := by
  obtain ⟨f, a, _, _, _, _, _, _, _, _, _, l, c, k⟩ := r
  have F := fun_mk l c k
  exact ⟨f, _, F, PySem.W.mg_of X N a, F.binds (ps := ["text", "at", "signs"]) fun _ _ _ _ _ _ us hl => match us, hl with | [_, _, _], _ => rfl⟩
theorem df_token_at {g : G8} {h : Heap} {mg : Str → Option Value} (X : g.K.In h) (N : h.Ns mainGlobals mg) (r : RowF g.K "token_at" s_token_at) : DefF g mg "token_at" s_token_at ["text", "at"] := by
  obtain ⟨f, a, _, _, _, _, _, _, _, _, _, l, c, k⟩ := r
  have F := fun_mk l c k
  exact ⟨f, _, F, PySem.W.mg_of X N a, F.binds (ps := ["text", "at"]) fun _ _ _ _ _ _ us hl => match us, hl with | [_, _], _ => rfl⟩
theorem df_Reader_init {g : G8} (c : RowC g.K g.Reader) (r : RowM g.K g.Reader "__init__" "Reader.__init__" s_Reader_init) : DefI g g.Reader "Reader.__init__" s_Reader_init ["self", "text", "free"] := by
  obtain ⟨f, a, i, _, _, _, _, _, _, _, _, _, l, cc, k⟩ := r
  have F := fun_mk l cc k
  exact ⟨f, _, F, ⟨c.2.2.2.2.1, a, i, c.2.2.2.2.2⟩, F.binds (ps := ["self", "text", "free"]) fun _ _ _ _ _ _ us hl => match us, hl with | [_, _, _], _ => rfl⟩
theorem df_Reader_step {g : G8} (r : RowM g.K g.Reader "step" "Reader.step" s_Reader_step) : DefM g g.Reader "step" "Reader.step" s_Reader_step ["self"] := by
  obtain ⟨f, a, i, _, _, _, _, _, _, _, _, _, l, c, k⟩ := r
  have F := fun_mk l c k
  exact ⟨f, _, F, ⟨a, i, k⟩, F.binds (ps := ["self"]) fun _ _ _ _ _ _ us hl => match us, hl with | [_], _ => rfl⟩
theorem df_Reader_at {g : G8} (r : RowM g.K g.Reader "at" "Reader.at" s_Reader_at) : DefM g g.Reader "at" "Reader.at" s_Reader_at ["self", "kind", "tokens"] := by
  obtain ⟨f, a, i, _, _, _, _, _, _, _, _, _, l, c, k⟩ := r
  have F := fun_mk l c k
  exact ⟨f, _, F, ⟨a, i, k⟩, F.binds (ps := ["self", "kind", "tokens"]) fun _ _ _ _ _ _ us hl => match us, hl with | [_, _, _], _ => rfl⟩
theorem df_Reader_top {g : G8} (r : RowM g.K g.Reader "top" "Reader.top" s_Reader_top) : DefM g g.Reader "top" "Reader.top" s_Reader_top ["self"] := by
  obtain ⟨f, a, i, _, _, _, _, _, _, _, _, _, l, c, k⟩ := r
  have F := fun_mk l c k
  exact ⟨f, _, F, ⟨a, i, k⟩, F.binds (ps := ["self"]) fun _ _ _ _ _ _ us hl => match us, hl with | [_], _ => rfl⟩
theorem df_longest_shared {g : G8} {h : Heap} {mg : Str → Option Value} (X : g.K.In h) (N : h.Ns mainGlobals mg) (r : RowF g.K "longest_shared" s_longest_shared) : DefF g mg "longest_shared" s_longest_shared ["token", "words"] := by
  obtain ⟨f, a, _, _, _, _, _, _, _, _, _, l, c, k⟩ := r
  have F := fun_mk l c k
  exact ⟨f, _, F, PySem.W.mg_of X N a, F.binds (ps := ["token", "words"]) fun _ _ _ _ _ _ us hl => match us, hl with | [_, _], _ => rfl⟩
theorem df_Reader_stop {g : G8} (r : RowM g.K g.Reader "stop" "Reader.stop" s_Reader_stop) : DefM g g.Reader "stop" "Reader.stop" s_Reader_stop ["self", "words", "signs"] := by
  obtain ⟨f, a, i, _, _, _, _, _, _, _, _, _, l, c, k⟩ := r
  have F := fun_mk l c k
  exact ⟨f, _, F, ⟨a, i, k⟩, F.binds (ps := ["self", "words", "signs"]) fun _ _ _ _ _ _ us hl => match us, hl with | [_, _, _], _ => rfl⟩
theorem df_read_name {g : G8} {h : Heap} {mg : Str → Option Value} (X : g.K.In h) (N : h.Ns mainGlobals mg) (r : RowF g.K "read_name" s_read_name) : DefF g mg "read_name" s_read_name ["reader"] := by
  obtain ⟨f, a, _, _, _, _, _, _, _, _, _, l, c, k⟩ := r
  have F := fun_mk l c k
  exact ⟨f, _, F, PySem.W.mg_of X N a, F.binds (ps := ["reader"]) fun _ _ _ _ _ _ us hl => match us, hl with | [_], _ => rfl⟩
theorem df_read_number {g : G8} {h : Heap} {mg : Str → Option Value} (X : g.K.In h) (N : h.Ns mainGlobals mg) (r : RowF g.K "read_number" s_read_number) : DefF g mg "read_number" s_read_number ["reader", "most"] := by
  obtain ⟨f, a, _, _, _, _, _, _, _, _, _, l, c, k⟩ := r
  have F := fun_mk l c k
  exact ⟨f, _, F, PySem.W.mg_of X N a, F.binds (ps := ["reader", "most"]) fun _ _ _ _ _ _ us hl => match us, hl with | [_, _], _ => rfl⟩
theorem df_read_bound {g : G8} {h : Heap} {mg : Str → Option Value} (X : g.K.In h) (N : h.Ns mainGlobals mg) (r : RowF g.K "read_bound" s_read_bound) : DefF g mg "read_bound" s_read_bound ["reader"] := by
  obtain ⟨f, a, _, _, _, _, _, _, _, _, _, l, c, k⟩ := r
  have F := fun_mk l c k
  exact ⟨f, _, F, PySem.W.mg_of X N a, F.binds (ps := ["reader"]) fun _ _ _ _ _ _ us hl => match us, hl with | [_], _ => rfl⟩
theorem df_read_unit {g : G8} {h : Heap} {mg : Str → Option Value} (X : g.K.In h) (N : h.Ns mainGlobals mg) (r : RowF g.K "read_unit" s_read_unit) : DefF g mg "read_unit" s_read_unit ["reader"] := by
  obtain ⟨f, a, _, _, _, _, _, _, _, _, _, l, c, k⟩ := r
  have F := fun_mk l c k
  exact ⟨f, _, F, PySem.W.mg_of X N a, F.binds (ps := ["reader"]) fun _ _ _ _ _ _ us hl => match us, hl with | [_], _ => rfl⟩
theorem df_read_term {g : G8} {h : Heap} {mg : Str → Option Value} (X : g.K.In h) (N : h.Ns mainGlobals mg) (r : RowF g.K "read_term" s_read_term) : DefF g mg "read_term" s_read_term ["reader"] := by
  obtain ⟨f, a, _, _, _, _, _, _, _, _, _, l, c, k⟩ := r
  have F := fun_mk l c k
  exact ⟨f, _, F, PySem.W.mg_of X N a, F.binds (ps := ["reader"]) fun _ _ _ _ _ _ us hl => match us, hl with | [_], _ => rfl⟩
theorem df_read_base {g : G8} {h : Heap} {mg : Str → Option Value} (X : g.K.In h) (N : h.Ns mainGlobals mg) (r : RowF g.K "read_base" s_read_base) : DefF g mg "read_base" s_read_base ["reader"] := by
  obtain ⟨f, a, _, _, _, _, _, _, _, _, _, l, c, k⟩ := r
  have F := fun_mk l c k
  exact ⟨f, _, F, PySem.W.mg_of X N a, F.binds (ps := ["reader"]) fun _ _ _ _ _ _ us hl => match us, hl with | [_], _ => rfl⟩
theorem df_join_open {g : G8} {h : Heap} {mg : Str → Option Value} (X : g.K.In h) (N : h.Ns mainGlobals mg) (r : RowF g.K "join_open" s_join_open) : DefF g mg "join_open" s_join_open ["reader", "heads"] := by
  obtain ⟨f, a, _, _, _, _, _, _, _, _, _, l, c, k⟩ := r
  have F := fun_mk l c k
  exact ⟨f, _, F, PySem.W.mg_of X N a, F.binds (ps := ["reader", "heads"]) fun _ _ _ _ _ _ us hl => match us, hl with | [_, _], _ => rfl⟩
theorem df_go_on {g : G8} {h : Heap} {mg : Str → Option Value} (X : g.K.In h) (N : h.Ns mainGlobals mg) (r : RowF g.K "go_on" s_go_on) : DefF g mg "go_on" s_go_on ["reader", "kind", "tokens", "head", "wanted"] := by
  obtain ⟨f, a, _, _, _, _, _, _, _, _, _, l, c, k⟩ := r
  have F := fun_mk l c k
  exact ⟨f, _, F, PySem.W.mg_of X N a, F.binds (ps := ["reader", "kind", "tokens", "head", "wanted"]) fun _ _ _ _ _ _ us hl => match us, hl with | [_, _, _, _, _], _ => rfl⟩
theorem df_close_bracket {g : G8} {h : Heap} {mg : Str → Option Value} (X : g.K.In h) (N : h.Ns mainGlobals mg) (r : RowF g.K "close_bracket" s_close_bracket) : DefF g mg "close_bracket" s_close_bracket ["reader"] := by
  obtain ⟨f, a, _, _, _, _, _, _, _, _, _, l, c, k⟩ := r
  have F := fun_mk l c k
  exact ⟨f, _, F, PySem.W.mg_of X N a, F.binds (ps := ["reader"]) fun _ _ _ _ _ _ us hl => match us, hl with | [_], _ => rfl⟩
theorem df_read_more {g : G8} {h : Heap} {mg : Str → Option Value} (X : g.K.In h) (N : h.Ns mainGlobals mg) (r : RowF g.K "read_more" s_read_more) : DefF g mg "read_more" s_read_more ["reader"] := by
  obtain ⟨f, a, _, _, _, _, _, _, _, _, _, l, c, k⟩ := r
  have F := fun_mk l c k
  exact ⟨f, _, F, PySem.W.mg_of X N a, F.binds (ps := ["reader"]) fun _ _ _ _ _ _ us hl => match us, hl with | [_], _ => rfl⟩
theorem df_read_joined {g : G8} {h : Heap} {mg : Str → Option Value} (X : g.K.In h) (N : h.Ns mainGlobals mg) (r : RowF g.K "read_joined" s_read_joined) : DefF g mg "read_joined" s_read_joined ["reader"] := by
  obtain ⟨f, a, _, _, _, _, _, _, _, _, _, l, c, k⟩ := r
  have F := fun_mk l c k
  exact ⟨f, _, F, PySem.W.mg_of X N a, F.binds (ps := ["reader"]) fun _ _ _ _ _ _ us hl => match us, hl with | [_], _ => rfl⟩
theorem df_read_next {g : G8} {h : Heap} {mg : Str → Option Value} (X : g.K.In h) (N : h.Ns mainGlobals mg) (r : RowF g.K "read_next" s_read_next) : DefF g mg "read_next" s_read_next ["reader"] := by
  obtain ⟨f, a, _, _, _, _, _, _, _, _, _, l, c, k⟩ := r
  have F := fun_mk l c k
  exact ⟨f, _, F, PySem.W.mg_of X N a, F.binds (ps := ["reader"]) fun _ _ _ _ _ _ us hl => match us, hl with | [_], _ => rfl⟩
theorem df_need_text {g : G8} {h : Heap} {mg : Str → Option Value} (X : g.K.In h) (N : h.Ns mainGlobals mg) (r : RowF g.K "need_text" s_need_text) : DefF g mg "need_text" s_need_text ["text", "free"] := by
  obtain ⟨f, a, _, _, _, _, _, _, _, _, _, l, c, k⟩ := r
  have F := fun_mk l c k
  exact ⟨f, _, F, PySem.W.mg_of X N a, F.binds (ps := ["text", "free"]) fun _ _ _ _ _ _ us hl => match us, hl with | [_, _], _ => rfl⟩
theorem df_settled_formula {g : G8} {h : Heap} {mg : Str → Option Value} (X : g.K.In h) (N : h.Ns mainGlobals mg) (r : RowF g.K "settled_formula" s_settled_formula) : DefF g mg "settled_formula" s_settled_formula ["text", "free"] := by
  obtain ⟨f, a, _, _, _, _, _, _, _, _, _, l, c, k⟩ := r
  have F := fun_mk l c k
  exact ⟨f, _, F, PySem.W.mg_of X N a, F.binds (ps := ["text", "free"]) fun _ _ _ _ _ _ us hl => match us, hl with | [_, _], _ => rfl⟩
theorem df_settle_formula {g : G8} {h : Heap} {mg : Str → Option Value} (X : g.K.In h) (N : h.Ns mainGlobals mg) (r : RowF g.K "settle_formula" s_settle_formula) : DefF g mg "settle_formula" s_settle_formula ["text", "free"] := by
  obtain ⟨f, a, _, _, _, _, _, _, _, _, _, l, c, k⟩ := r
  have F := fun_mk l c k
  exact ⟨f, _, F, PySem.W.mg_of X N a, F.binds (ps := ["text", "free"]) fun _ _ _ _ _ _ us hl => match us, hl with | [_, _], _ => rfl⟩
theorem df_settle_text {g : G8} {h : Heap} {mg : Str → Option Value} (X : g.K.In h) (N : h.Ns mainGlobals mg) (r : RowF g.K "settle_text" s_settle_text) : DefF g mg "settle_text" s_settle_text ["text"] := by
  obtain ⟨f, a, _, _, _, _, _, _, _, _, _, l, c, k⟩ := r
  have F := fun_mk l c k
  exact ⟨f, _, F, PySem.W.mg_of X N a, F.binds (ps := ["text"]) fun _ _ _ _ _ _ us hl => match us, hl with | [_], _ => rfl⟩
theorem df_reading_fault {g : G8} {h : Heap} {mg : Str → Option Value} (X : g.K.In h) (N : h.Ns mainGlobals mg) (r : RowF g.K "reading_fault" s_reading_fault) : DefF g mg "reading_fault" s_reading_fault ["text", "free", "answer"] := by
  obtain ⟨f, a, _, _, _, _, _, _, _, _, _, l, c, k⟩ := r
  have F := fun_mk l c k
  exact ⟨f, _, F, PySem.W.mg_of X N a, F.binds (ps := ["text", "free", "answer"]) fun _ _ _ _ _ _ us hl => match us, hl with | [_, _, _], _ => rfl⟩
theorem df_law_pen {g : G8} {h : Heap} {mg : Str → Option Value} (X : g.K.In h) (N : h.Ns mainGlobals mg) (r : RowF g.K "_law_pen" s_law_pen) : DefF g mg "_law_pen" s_law_pen ["script"] := by
  obtain ⟨f, a, _, _, _, _, _, _, _, _, _, l, c, k⟩ := r
  have F := fun_mk l c k
  exact ⟨f, _, F, PySem.W.mg_of X N a, F.binds (ps := ["script"]) fun _ _ _ _ _ _ us hl => match us, hl with | [_], _ => rfl⟩
theorem df_law_draw {g : G8} {h : Heap} {mg : Str → Option Value} (X : g.K.In h) (N : h.Ns mainGlobals mg) (r : RowF g.K "_law_draw" s_law_draw) : DefF g mg "_law_draw" s_law_draw ["pen", "many"] := by
  obtain ⟨f, a, _, _, _, _, _, _, _, _, _, l, c, k⟩ := r
  have F := fun_mk l c k
  exact ⟨f, _, F, PySem.W.mg_of X N a, F.binds (ps := ["pen", "many"]) fun _ _ _ _ _ _ us hl => match us, hl with | [_, _], _ => rfl⟩
theorem df_law_pick {g : G8} {h : Heap} {mg : Str → Option Value} (X : g.K.In h) (N : h.Ns mainGlobals mg) (r : RowF g.K "_law_pick" s_law_pick) : DefF g mg "_law_pick" s_law_pick ["pen", "some"] := by
  obtain ⟨f, a, _, _, _, _, _, _, _, _, _, l, c, k⟩ := r
  have F := fun_mk l c k
  exact ⟨f, _, F, PySem.W.mg_of X N a, F.binds (ps := ["pen", "some"]) fun _ _ _ _ _ _ us hl => match us, hl with | [_, _], _ => rfl⟩
theorem df_law_s_term {g : G8} {h : Heap} {mg : Str → Option Value} (X : g.K.In h) (N : h.Ns mainGlobals mg) (r : RowF g.K "_law_s_term" s_law_s_term) : DefF g mg "_law_s_term" s_law_s_term ["pen", "names", "size"] := by
  obtain ⟨f, a, _, _, _, _, _, _, _, _, _, l, c, k⟩ := r
  have F := fun_mk l c k
  exact ⟨f, _, F, PySem.W.mg_of X N a, F.binds (ps := ["pen", "names", "size"]) fun _ _ _ _ _ _ us hl => match us, hl with | [_, _, _], _ => rfl⟩
theorem df_law_s_atom {g : G8} {h : Heap} {mg : Str → Option Value} (X : g.K.In h) (N : h.Ns mainGlobals mg) (r : RowF g.K "_law_s_atom" s_law_s_atom) : DefF g mg "_law_s_atom" s_law_s_atom ["pen", "names", "size"] := by
  obtain ⟨f, a, _, _, _, _, _, _, _, _, _, l, c, k⟩ := r
  have F := fun_mk l c k
  exact ⟨f, _, F, PySem.W.mg_of X N a, F.binds (ps := ["pen", "names", "size"]) fun _ _ _ _ _ _ us hl => match us, hl with | [_, _, _], _ => rfl⟩
theorem df_law_s_saying {g : G8} {h : Heap} {mg : Str → Option Value} (X : g.K.In h) (N : h.Ns mainGlobals mg) (r : RowF g.K "_law_s_saying" s_law_s_saying) : DefF g mg "_law_s_saying" s_law_s_saying ["pen", "names", "size", "term"] := by
  obtain ⟨f, a, _, _, _, _, _, _, _, _, _, l, c, k⟩ := r
  have F := fun_mk l c k
  exact ⟨f, _, F, PySem.W.mg_of X N a, F.binds (ps := ["pen", "names", "size", "term"]) fun _ _ _ _ _ _ us hl => match us, hl with | [_, _, _, _], _ => rfl⟩
theorem df_law_s_parts {g : G8} {h : Heap} {mg : Str → Option Value} (X : g.K.In h) (N : h.Ns mainGlobals mg) (r : RowF g.K "_law_s_parts" s_law_s_parts) : DefF g mg "_law_s_parts" s_law_s_parts ["tree"] := by
  obtain ⟨f, a, _, _, _, _, _, _, _, _, _, l, c, k⟩ := r
  have F := fun_mk l c k
  exact ⟨f, _, F, PySem.W.mg_of X N a, F.binds (ps := ["tree"]) fun _ _ _ _ _ _ us hl => match us, hl with | [_], _ => rfl⟩
theorem df_law_s_in_terms {g : G8} {h : Heap} {mg : Str → Option Value} (X : g.K.In h) (N : h.Ns mainGlobals mg) (r : RowF g.K "_law_s_in_terms" s_law_s_in_terms) : DefF g mg "_law_s_in_terms" s_law_s_in_terms ["terms"] := by
  obtain ⟨f, a, _, _, _, _, _, _, _, _, _, l, c, k⟩ := r
  have F := fun_mk l c k
  exact ⟨f, _, F, PySem.W.mg_of X N a, F.binds (ps := ["terms"]) fun _ _ _ _ _ _ us hl => match us, hl with | [_], _ => rfl⟩
theorem df_law_s_free {g : G8} {h : Heap} {mg : Str → Option Value} (X : g.K.In h) (N : h.Ns mainGlobals mg) (r : RowF g.K "_law_s_free" s_law_s_free) : DefF g mg "_law_s_free" s_law_s_free ["tree"] := by
  obtain ⟨f, a, _, _, _, _, _, _, _, _, _, l, c, k⟩ := r
  have F := fun_mk l c k
  exact ⟨f, _, F, PySem.W.mg_of X N a, F.binds (ps := ["tree"]) fun _ _ _ _ _ _ us hl => match us, hl with | [_], _ => rfl⟩
theorem df_law_s_spread {g : G8} {h : Heap} {mg : Str → Option Value} (X : g.K.In h) (N : h.Ns mainGlobals mg) (r : RowF g.K "_law_s_spread" s_law_s_spread) : DefF g mg "_law_s_spread" s_law_s_spread ["tree", "level", "more"] := by
  obtain ⟨f, a, _, _, _, _, _, _, _, _, _, l, c, k⟩ := r
  have F := fun_mk l c k
  exact ⟨f, _, F, PySem.W.mg_of X N a, F.binds (ps := ["tree", "level", "more"]) fun _ _ _ _ _ _ us hl => match us, hl with | [_, _, _], _ => rfl⟩
theorem df_law_s_spread_term {g : G8} {h : Heap} {mg : Str → Option Value} (X : g.K.In h) (N : h.Ns mainGlobals mg) (r : RowF g.K "_law_s_spread_term" s_law_s_spread_term) : DefF g mg "_law_s_spread_term" s_law_s_spread_term ["term", "level", "more"] := by
  obtain ⟨f, a, _, _, _, _, _, _, _, _, _, l, c, k⟩ := r
  have F := fun_mk l c k
  exact ⟨f, _, F, PySem.W.mg_of X N a, F.binds (ps := ["term", "level", "more"]) fun _ _ _ _ _ _ us hl => match us, hl with | [_, _, _], _ => rfl⟩
theorem df_law_s_tokens {g : G8} {h : Heap} {mg : Str → Option Value} (X : g.K.In h) (N : h.Ns mainGlobals mg) (r : RowF g.K "_law_s_tokens" s_law_s_tokens) : DefF g mg "_law_s_tokens" s_law_s_tokens ["tree", "pen"] := by
  obtain ⟨f, a, _, _, _, _, _, _, _, _, _, l, c, k⟩ := r
  have F := fun_mk l c k
  exact ⟨f, _, F, PySem.W.mg_of X N a, F.binds (ps := ["tree", "pen"]) fun _ _ _ _ _ _ us hl => match us, hl with | [_, _], _ => rfl⟩
theorem df_law_s_joined_text {g : G8} {h : Heap} {mg : Str → Option Value} (X : g.K.In h) (N : h.Ns mainGlobals mg) (r : RowF g.K "_law_s_joined_text" s_law_s_joined_text) : DefF g mg "_law_s_joined_text" s_law_s_joined_text ["tokens", "pen"] := by
  obtain ⟨f, a, _, _, _, _, _, _, _, _, _, l, c, k⟩ := r
  have F := fun_mk l c k
  exact ⟨f, _, F, PySem.W.mg_of X N a, F.binds (ps := ["tokens", "pen"]) fun _ _ _ _ _ _ us hl => match us, hl with | [_, _], _ => rfl⟩
theorem df_law_s_text {g : G8} {h : Heap} {mg : Str → Option Value} (X : g.K.In h) (N : h.Ns mainGlobals mg) (r : RowF g.K "_law_s_text" s_law_s_text) : DefF g mg "_law_s_text" s_law_s_text ["tree", "pen"] := by
  obtain ⟨f, a, _, _, _, _, _, _, _, _, _, l, c, k⟩ := r
  have F := fun_mk l c k
  exact ⟨f, _, F, PySem.W.mg_of X N a, F.binds (ps := ["tree", "pen"]) fun _ _ _ _ _ _ us hl => match us, hl with | [_, _], _ => rfl⟩
theorem df_law_known {g : G8} {h : Heap} {mg : Str → Option Value} (X : g.K.In h) (N : h.Ns mainGlobals mg) (r : RowF g.K "_law_known" s_law_known) : DefF g mg "_law_known" s_law_known [] := by
  obtain ⟨f, a, _, _, _, _, _, _, _, _, _, l, c, k⟩ := r
  have F := fun_mk l c k
  exact ⟨f, _, F, PySem.W.mg_of X N a, F.binds (ps := []) fun _ _ _ _ _ _ us hl => match us, hl with | [], _ => rfl⟩
theorem df_law_one_right {g : G8} {h : Heap} {mg : Str → Option Value} (X : g.K.In h) (N : h.Ns mainGlobals mg) (r : RowF g.K "_law_one_right" s_law_one_right) : DefF g mg "_law_one_right" s_law_one_right ["text", "free", "place"] := by
  obtain ⟨f, a, _, _, _, _, _, _, _, _, _, l, c, k⟩ := r
  have F := fun_mk l c k
  exact ⟨f, _, F, PySem.W.mg_of X N a, F.binds (ps := ["text", "free", "place"]) fun _ _ _ _ _ _ us hl => match us, hl with | [_, _, _], _ => rfl⟩
def sp_lawK (K : PySem.W.Frag) : Sp := fun vs H Q _ => ∃ a, ∃ cells : List Int, vs = [.ref a] ∧ SqL K H a (cells.map V.int) ∧ ∀ H', Q (.bl true) H'
theorem all_mk {l : PySem.W.OpenLaw} {w : World} {K : PySem.W.Frag} {h : Heap} {mg : Str → Option Value} {fa fL aReader aUnread aRead aW aR aP aS : Addr} {tL tF t1 t2 t3 t4 t5 : Tok} {odL anL : Option Addr} {slL : Array (Option Value)} {ocL kVL dcL pmL cdL ctL : Value} (X : K.In h) (N : h.Ns mainGlobals mg) (hfa : mg "law" = some (.ref fa))
    (n_Reader : PySem.W.nsIn K mainGlobals "Reader" = some (some (.ref aReader)))
    (n_Unread : PySem.W.nsIn K mainGlobals "Unread" = some (some (.ref aUnread)))
    (n_Read : PySem.W.nsIn K mainGlobals "Read" = some (some (.ref aRead)))
    (c_Reader : RowC K aReader)
    (c_Unread : RowC K aUnread)
    (c_Read : RowC K aRead)
    (n_WORDS : PySem.W.nsIn K mainGlobals "WORDS" = some (some (.ref aW)))
    (n_RELATIONS : PySem.W.nsIn K mainGlobals "RELATIONS" = some (some (.ref aR)))
    (n_PAIRED : PySem.W.nsIn K mainGlobals "PAIRED" = some (some (.ref aP)))
    (n_SIGNS : PySem.W.nsIn K mainGlobals "SIGNS" = some (some (.ref aS)))
    (t_WORDS : RowT K aW WORDS)
    (t_RELATIONS : RowT K aR RELS)
    (t_PAIRED : RowT K aP PAIRS)
    (t_SIGNS : RowT K aS SIGNS)
    (n_LETTERS : PySem.W.nsIn K mainGlobals "LETTERS" = some (some (.str (S LETS) tL)))
    (n_FIGURES : PySem.W.nsIn K mainGlobals "FIGURES" = some (some (.str (S FIGS) tF)))
    (n_MOST_NUMBER : PySem.W.nsIn K mainGlobals "MOST_NUMBER" = some (some (.int 999999 t1)))
    (n_MOST_POWER : PySem.W.nsIn K mainGlobals "MOST_POWER" = some (some (.int 9 t2)))
    (n_MOST_FREE : PySem.W.nsIn K mainGlobals "MOST_FREE" = some (some (.int 8 t3)))
    (n_MOST_FIGURES : PySem.W.nsIn K mainGlobals "MOST_FIGURES" = some (some (.int 6 t4)))
    (n_MOST_SIGNS : PySem.W.nsIn K mainGlobals "MOST_SIGNS" = some (some (.int 8 t5)))
    (b_all : PySem.W.nsIn K mainGlobals "all" = some none)
    (b_bool : PySem.W.nsIn K mainGlobals "bool" = some none)
    (b_enumerate : PySem.W.nsIn K mainGlobals "enumerate" = some none)
    (b_int : PySem.W.nsIn K mainGlobals "int" = some none)
    (b_isinstance : PySem.W.nsIn K mainGlobals "isinstance" = some none)
    (b_len : PySem.W.nsIn K mainGlobals "len" = some none)
    (b_list : PySem.W.nsIn K mainGlobals "list" = some none)
    (b_max : PySem.W.nsIn K mainGlobals "max" = some none)
    (b_min : PySem.W.nsIn K mainGlobals "min" = some none)
    (b_range : PySem.W.nsIn K mainGlobals "range" = some none)
    (b_set : PySem.W.nsIn K mainGlobals "set" = some none)
    (b_sorted : PySem.W.nsIn K mainGlobals "sorted" = some none)
    (b_str : PySem.W.nsIn K mainGlobals "str" = some none)
    (b_tuple : PySem.W.nsIn K mainGlobals "tuple" = some none)
    (u_ne : PySem.W.findIn K (.ref aUnread) "__ne__" = some (some (.builtin "object.__ne__")))
    (u_mo : PySem.W.mroIn K aUnread (.type "object") = some true)
    (nR_text : NoAttr K aReader "text")
    (nR_kind : NoAttr K aReader "kind")
    (nR_token : NoAttr K aReader "token")
    (nR_place : NoAttr K aReader "place")
    (nR_bound : NoAttr K aReader "bound")
    (nR_opened : NoAttr K aReader "opened")
    (nR_wanted : NoAttr K aReader "wanted")
    (nR_value : NoAttr K aReader "value")
    (nR_words : NoAttr K aReader "words")
    (nR_is_base : NoAttr K aReader "is_base")
    (nR_stopped : NoAttr K aReader "stopped")
    (nU1 : NoAttr K aUnread "place")
    (nU2 : NoAttr K aUnread "is_end")
    (nD : NoAttr K aRead "tree")
    (haU : PySem.W.findIn K (.ref aUnread) "__class__" = some (some (.builtin "object.__class__")))
    (haD : PySem.W.findIn K (.ref aRead) "__class__" = some (some (.builtin "object.__class__")))
    (hn : PySem.W.specialIn K (.builtin "object.__class__") "__get__" = some (some (.builtin "getset_descriptor.__get__")))
    (htk : PySem.W.takesIn K (.builtin "object.__class__") = some true)
    (hmD : PySem.W.mroIn K aRead (.type "object") = some true)
    (kUU : PySem.W.kitOne K (.ref aUnread) (.ref aUnread) = some true)
    (kUD : PySem.W.kitOne K (.ref aUnread) (.ref aRead) = some false)
    (kDU : PySem.W.kitOne K (.ref aRead) (.ref aUnread) = some false)
    (kDD : PySem.W.kitOne K (.ref aRead) (.ref aRead) = some true)
    (kiU : PySem.W.kitOne K (.type "int") (.ref aUnread) = some false)
    (kiD : PySem.W.kitOne K (.type "int") (.ref aRead) = some false)
    (r_is_integer : RowF K "is_integer" s_is_integer)
    (r_is_row : RowF K "is_row" s_is_row)
    (r_is_name : RowF K "is_name" s_is_name)
    (r_is_head : RowF K "is_head" s_is_head)
    (r_term_breach : RowF K "term_breach" s_term_breach)
    (r_are_terms : RowF K "are_terms" s_are_terms)
    (r_saying_parts : RowF K "saying_parts" s_saying_parts)
    (r_is_saying : RowF K "is_saying" s_is_saying)
    (r_Read_init : RowM K aRead "__init__" "Read.__init__" s_Read_init)
    (r_Read_eq : RowM K aRead "__eq__" "Read.__eq__" s_Read_eq)
    (r_Unread_init : RowM K aUnread "__init__" "Unread.__init__" s_Unread_init)
    (r_Unread_eq : RowM K aUnread "__eq__" "Unread.__eq__" s_Unread_eq)
    (r_run_end : RowF K "run_end" s_run_end)
    (r_token_at : RowF K "token_at" s_token_at)
    (r_Reader_init : RowM K aReader "__init__" "Reader.__init__" s_Reader_init)
    (r_Reader_step : RowM K aReader "step" "Reader.step" s_Reader_step)
    (r_Reader_at : RowM K aReader "at" "Reader.at" s_Reader_at)
    (r_Reader_top : RowM K aReader "top" "Reader.top" s_Reader_top)
    (r_longest_shared : RowF K "longest_shared" s_longest_shared)
    (r_Reader_stop : RowM K aReader "stop" "Reader.stop" s_Reader_stop)
    (r_read_name : RowF K "read_name" s_read_name)
    (r_read_number : RowF K "read_number" s_read_number)
    (r_read_bound : RowF K "read_bound" s_read_bound)
    (r_read_unit : RowF K "read_unit" s_read_unit)
    (r_read_term : RowF K "read_term" s_read_term)
    (r_read_base : RowF K "read_base" s_read_base)
    (r_join_open : RowF K "join_open" s_join_open)
    (r_go_on : RowF K "go_on" s_go_on)
    (r_close_bracket : RowF K "close_bracket" s_close_bracket)
    (r_read_more : RowF K "read_more" s_read_more)
    (r_read_joined : RowF K "read_joined" s_read_joined)
    (r_read_next : RowF K "read_next" s_read_next)
    (r_need_text : RowF K "need_text" s_need_text)
    (r_settled_formula : RowF K "settled_formula" s_settled_formula)
    (r_settle_formula : RowF K "settle_formula" s_settle_formula)
    (r_settle_text : RowF K "settle_text" s_settle_text)
    (r_reading_fault : RowF K "reading_fault" s_reading_fault)
    (r_law_pen : RowF K "_law_pen" s_law_pen)
    (r_law_draw : RowF K "_law_draw" s_law_draw)
    (r_law_pick : RowF K "_law_pick" s_law_pick)
    (r_law_s_term : RowF K "_law_s_term" s_law_s_term)
    (r_law_s_atom : RowF K "_law_s_atom" s_law_s_atom)
    (r_law_s_saying : RowF K "_law_s_saying" s_law_s_saying)
    (r_law_s_parts : RowF K "_law_s_parts" s_law_s_parts)
    (r_law_s_in_terms : RowF K "_law_s_in_terms" s_law_s_in_terms)
    (r_law_s_free : RowF K "_law_s_free" s_law_s_free)
    (r_law_s_spread : RowF K "_law_s_spread" s_law_s_spread)
    (r_law_s_spread_term : RowF K "_law_s_spread_term" s_law_s_spread_term)
    (r_law_s_tokens : RowF K "_law_s_tokens" s_law_s_tokens)
    (r_law_s_joined_text : RowF K "_law_s_joined_text" s_law_s_joined_text)
    (r_law_s_text : RowF K "_law_s_text" s_law_s_text)
    (r_law_known : RowF K "_law_known" s_law_known)
    (r_law_one_right : RowF K "_law_one_right" s_law_one_right)
    (n_law : PySem.W.nsIn K mainGlobals "law" = some (some (.ref fL)))
    (l_law : K.lookup fL = some ⟨ocL, odL, .func (PySem.W.fnOf "law" "law" (defArgs s_law) (defBody s_law) (defScope s_law) .none kVL dcL pmL anL cdL ctL), slL⟩)
    (cd_law : PySem.W.codeIn K cdL "law" = true)
    (k_law : PySem.W.keepIn K (.ref fL) = true) :
    ∃ fd : FuncData, (∀ (s : Shared) (v : Value), BindsTo s fd ⟨[v], []⟩ [("script", v)]) ∧ ∀ base : Heap, K.In base → base.Ns mainGlobals mg → FnOk l.prog w K mg base CX0 124 fa fd ["script"] (sp_lawK K) := by
  have same := hfa.symm.trans (PySem.W.mg_of X N n_law)
  cases same
  have FL := fun_mk (st := s_law) l_law cd_law k_law
  let g : G8 := ⟨K, aReader, aUnread, aRead, aW, aR, aP, aS, tL, tF, t1, t2, t3, t4, t5⟩
  have T : Tx g mg := ⟨PySem.W.mg_none_of X N b_all, PySem.W.mg_none_of X N b_bool, PySem.W.mg_none_of X N b_enumerate, PySem.W.mg_none_of X N b_int, PySem.W.mg_none_of X N b_isinstance, PySem.W.mg_none_of X N b_len, PySem.W.mg_none_of X N b_list, PySem.W.mg_none_of X N b_max, PySem.W.mg_none_of X N b_min, PySem.W.mg_none_of X N b_range, PySem.W.mg_none_of X N b_set, PySem.W.mg_none_of X N b_sorted, PySem.W.mg_none_of X N b_str, PySem.W.mg_none_of X N b_tuple, PySem.W.mg_of X N n_Reader, PySem.W.mg_of X N n_Unread, PySem.W.mg_of X N n_Read, PySem.W.mg_of X N n_WORDS, PySem.W.mg_of X N n_RELATIONS, PySem.W.mg_of X N n_PAIRED, PySem.W.mg_of X N n_SIGNS, PySem.W.mg_of X N n_LETTERS, PySem.W.mg_of X N n_FIGURES, PySem.W.mg_of X N n_MOST_NUMBER, PySem.W.mg_of X N n_MOST_POWER, PySem.W.mg_of X N n_MOST_FREE, PySem.W.mg_of X N n_MOST_FIGURES, PySem.W.mg_of X N n_MOST_SIGNS, row_cls c_Reader, row_cls c_Unread, row_cls c_Read, u_ne, u_mo⟩
  have G : Gf g := ⟨row_cls c_Reader, row_cls c_Unread, row_cls c_Read, (fun f hf => by
    simp only [List.mem_cons, List.not_mem_nil, or_false] at hf
    rcases hf with h | h | h | h | h | h | h | h | h | h | h
    · subst h; exact nR_text
    · subst h; exact nR_kind
    · subst h; exact nR_token
    · subst h; exact nR_place
    · subst h; exact nR_bound
    · subst h; exact nR_opened
    · subst h; exact nR_wanted
    · subst h; exact nR_value
    · subst h; exact nR_words
    · subst h; exact nR_is_base
    · subst h; exact nR_stopped), nU1, nU2, nD, row_sq t_WORDS, row_sq t_RELATIONS, row_sq t_PAIRED, row_sq t_SIGNS, haU, haD, hn, htk, u_mo, hmD, kUU, kUD, kDU, kDD, kiU, kiD⟩
  exact ⟨PySem.W.fnOf "law" "law" (defArgs s_law) (defBody s_law) (defScope s_law) .none kVL dcL pmL anL cdL ctL, fun s v => .of_eq rfl, fun base _ _ => all_ok (g := g) T G (df_is_integer (g := g) X N r_is_integer) (df_is_row (g := g) X N r_is_row) (df_is_name (g := g) X N r_is_name) (df_is_head (g := g) X N r_is_head) (df_term_breach (g := g) X N r_term_breach) (df_are_terms (g := g) X N r_are_terms) (df_saying_parts (g := g) X N r_saying_parts) (df_is_saying (g := g) X N r_is_saying) (df_Read_init (g := g) c_Read r_Read_init) (df_Read_eq (g := g) r_Read_eq) (df_Unread_init (g := g) c_Unread r_Unread_init) (df_Unread_eq (g := g) r_Unread_eq) (df_run_end (g := g) X N r_run_end) (df_token_at (g := g) X N r_token_at) (df_Reader_init (g := g) c_Reader r_Reader_init) (df_Reader_step (g := g) r_Reader_step) (df_Reader_at (g := g) r_Reader_at) (df_Reader_top (g := g) r_Reader_top) (df_longest_shared (g := g) X N r_longest_shared) (df_Reader_stop (g := g) r_Reader_stop) (df_read_name (g := g) X N r_read_name) (df_read_number (g := g) X N r_read_number) (df_read_bound (g := g) X N r_read_bound) (df_read_unit (g := g) X N r_read_unit) (df_read_term (g := g) X N r_read_term) (df_read_base (g := g) X N r_read_base) (df_join_open (g := g) X N r_join_open) (df_go_on (g := g) X N r_go_on) (df_close_bracket (g := g) X N r_close_bracket) (df_read_more (g := g) X N r_read_more) (df_read_joined (g := g) X N r_read_joined) (df_read_next (g := g) X N r_read_next) (df_need_text (g := g) X N r_need_text) (df_settled_formula (g := g) X N r_settled_formula) (df_settle_formula (g := g) X N r_settle_formula) (df_settle_text (g := g) X N r_settle_text) (df_reading_fault (g := g) X N r_reading_fault) (df_law_pen (g := g) X N r_law_pen) (df_law_draw (g := g) X N r_law_draw) (df_law_pick (g := g) X N r_law_pick) (df_law_s_term (g := g) X N r_law_s_term) (df_law_s_atom (g := g) X N r_law_s_atom) (df_law_s_saying (g := g) X N r_law_s_saying) (df_law_s_parts (g := g) X N r_law_s_parts) (df_law_s_in_terms (g := g) X N r_law_s_in_terms) (df_law_s_free (g := g) X N r_law_s_free) (df_law_s_spread (g := g) X N r_law_s_spread) (df_law_s_spread_term (g := g) X N r_law_s_spread_term) (df_law_s_tokens (g := g) X N r_law_s_tokens) (df_law_s_joined_text (g := g) X N r_law_s_joined_text) (df_law_s_text (g := g) X N r_law_s_text) (df_law_known (g := g) X N r_law_known) (df_law_one_right (g := g) X N r_law_one_right) FL⟩
theorem walk {l : PySem.W.OpenLaw} {q : Program} {loose : List Str} {XP : (Str → Option Value) → Heap → Prop} {YP : World → Heap → Prop} {d : DefRec} {K : Params → PySem.W.Frag} (most : l.most = some 63) (none' : d.params.defaults = [])
    (written : ∀ (w : World) (h : Heap), YP w h → (K w.params).In h)
    (ok : ∀ (w : World) (mg : Str → Option Value) (fa : Addr) (h : Heap), (K w.params).In h → h.Ns mainGlobals mg → mg d.name = some (.ref fa) →
      ∃ fd : FuncData, (∀ (s : Shared) (u : Value), BindsTo s fd ⟨[u], []⟩ [("script", u)]) ∧ ∀ base : Heap, (K w.params).In base → base.Ns mainGlobals mg → FnOk l.prog w (K w.params) mg base CX0 124 fa fd ["script"] (sp_lawK (K w.params))) :
    PySem.W.WalkO q loose XP YP l.row.toRowW d [] (fun f vs => PySem.call f vs) :=
  L2.walk_of (n := 63) (k := 124) (x := "script") (CX := fun _ => CX0) (sp := fun w => sp_lawK (K w.params)) most (by decide) none' ⟨rfl, by decide, by decide⟩ written ok (fun _ _ a ns _ _ hS => ⟨a, ns, rfl, hS, fun _ => rfl⟩) fun _ _ _ _ _ z => z
end Dy
end
open PySem PySem.W PyProof.Rows
set_option maxRecDepth 100003 in
set_option maxHeartbeats 0 in
theorem PySem.Challenge.cw_realsaid_k08_whole_texts_that_begin_none_holds : PySem.Challenge.rw_realsaid_k08_whole_texts_that_begin_none.Holds := by
  w_on; o_law; k_head; (case hw => w_witness2)
  k_fill
  refine Dy.walk (l := PySem.Challenge.rw_realsaid_k08_whole_texts_that_begin_none) rfl rfl (fun w h Y => PySem.W.kIn_of Y) ?ok
  case ok =>
    intro w mg fa h KX G hmg
    refine' Dy.all_mk KX G hmg ?n_Reader ?n_Unread ?n_Read ?c_Reader ?c_Unread ?c_Read ?n_WORDS ?n_RELATIONS ?n_PAIRED ?n_SIGNS ?t_WORDS ?t_RELATIONS ?t_PAIRED ?t_SIGNS ?n_LETTERS ?n_FIGURES ?n_MOST_NUMBER ?n_MOST_POWER ?n_MOST_FREE ?n_MOST_FIGURES ?n_MOST_SIGNS ?b_all ?b_bool ?b_enumerate ?b_int ?b_isinstance ?b_len ?b_list ?b_max ?b_min ?b_range ?b_set ?b_sorted ?b_str ?b_tuple ?u_ne ?u_mo ?nR_text ?nR_kind ?nR_token ?nR_place ?nR_bound ?nR_opened ?nR_wanted ?nR_value ?nR_words ?nR_is_base ?nR_stopped ?nU1 ?nU2 ?nD ?haU ?haD ?hn ?htk ?hmD ?kUU ?kUD ?kDU ?kDD ?kiU ?kiD ?r_is_integer ?r_is_row ?r_is_name ?r_is_head ?r_term_breach ?r_are_terms ?r_saying_parts ?r_is_saying ?r_Read_init ?r_Read_eq ?r_Unread_init ?r_Unread_eq ?r_run_end ?r_token_at ?r_Reader_init ?r_Reader_step ?r_Reader_at ?r_Reader_top ?r_longest_shared ?r_Reader_stop ?r_read_name ?r_read_number ?r_read_bound ?r_read_unit ?r_read_term ?r_read_base ?r_join_open ?r_go_on ?r_close_bracket ?r_read_more ?r_read_joined ?r_read_next ?r_need_text ?r_settled_formula ?r_settle_formula ?r_settle_text ?r_reading_fault ?r_law_pen ?r_law_draw ?r_law_pick ?r_law_s_term ?r_law_s_atom ?r_law_s_saying ?r_law_s_parts ?r_law_s_in_terms ?r_law_s_free ?r_law_s_spread ?r_law_s_spread_term ?r_law_s_tokens ?r_law_s_joined_text ?r_law_s_text ?r_law_known ?r_law_one_right ?n_law ?l_law ?cd_law ?k_law
    (case n_Reader => k_is)
    (case n_Unread => k_is)
    (case n_Read => k_is)
    (case c_Reader => exact ⟨by k_is, by k_is, by k_is, by k_is, by k_is, by k_is⟩)
    (case c_Unread => exact ⟨by k_is, by k_is, by k_is, by k_is, by k_is, by k_is⟩)
    (case c_Read => exact ⟨by k_is, by k_is, by k_is, by k_is, by k_is, by k_is⟩)
    (case n_WORDS => k_is)
    (case n_RELATIONS => k_is)
    (case n_PAIRED => k_is)
    (case n_SIGNS => k_is)
    (case t_WORDS => exact ⟨_, _, _, _, _, by k_is, rfl, by decide, by repeat (first | exact .nil | refine .cons ⟨_, rfl⟩ ?_)⟩)
    (case t_RELATIONS => exact ⟨_, _, _, _, _, by k_is, rfl, by decide, by repeat (first | exact .nil | refine .cons ⟨_, rfl⟩ ?_)⟩)
    (case t_PAIRED => exact ⟨_, _, _, _, _, by k_is, rfl, by decide, by repeat (first | exact .nil | refine .cons ⟨_, rfl⟩ ?_)⟩)
    (case t_SIGNS => exact ⟨_, _, _, _, _, by k_is, rfl, by decide, by repeat (first | exact .nil | refine .cons ⟨_, rfl⟩ ?_)⟩)
    (case n_LETTERS => k_is)
    (case n_FIGURES => k_is)
    (case n_MOST_NUMBER => k_is)
    (case n_MOST_POWER => k_is)
    (case n_MOST_FREE => k_is)
    (case n_MOST_FIGURES => k_is)
    (case n_MOST_SIGNS => k_is)
    (case b_all => k_is)
    (case b_bool => k_is)
    (case b_enumerate => k_is)
    (case b_int => k_is)
    (case b_isinstance => k_is)
    (case b_len => k_is)
    (case b_list => k_is)
    (case b_max => k_is)
    (case b_min => k_is)
    (case b_range => k_is)
    (case b_set => k_is)
    (case b_sorted => k_is)
    (case b_str => k_is)
    (case b_tuple => k_is)
    (case u_ne => k_is)
    (case u_mo => k_is)
    (case nR_text => show PySem.W.findIn _ _ _ = _; k_is)
    (case nR_kind => show PySem.W.findIn _ _ _ = _; k_is)
    (case nR_token => show PySem.W.findIn _ _ _ = _; k_is)
    (case nR_place => show PySem.W.findIn _ _ _ = _; k_is)
    (case nR_bound => show PySem.W.findIn _ _ _ = _; k_is)
    (case nR_opened => show PySem.W.findIn _ _ _ = _; k_is)
    (case nR_wanted => show PySem.W.findIn _ _ _ = _; k_is)
    (case nR_value => show PySem.W.findIn _ _ _ = _; k_is)
    (case nR_words => show PySem.W.findIn _ _ _ = _; k_is)
    (case nR_is_base => show PySem.W.findIn _ _ _ = _; k_is)
    (case nR_stopped => show PySem.W.findIn _ _ _ = _; k_is)
    (case nU1 => show PySem.W.findIn _ _ _ = _; k_is)
    (case nU2 => show PySem.W.findIn _ _ _ = _; k_is)
    (case nD => show PySem.W.findIn _ _ _ = _; k_is)
    (case haU => k_is)
    (case haD => k_is)
    (case hn => k_is)
    (case htk => k_is)
    (case hmD => k_is)
    (case kUU => kit_is)
    (case kUD => kit_is)
    (case kDU => kit_is)
    (case kDD => kit_is)
    (case kiU => kit_is)
    (case kiD => kit_is)
    (case r_is_integer => exact ⟨_, by k_is, _, _, _, _, _, _, _, _, _, by k_is, by k_is, by k_is⟩)
    (case r_is_row => exact ⟨_, by k_is, _, _, _, _, _, _, _, _, _, by k_is, by k_is, by k_is⟩)
    (case r_is_name => exact ⟨_, by k_is, _, _, _, _, _, _, _, _, _, by k_is, by k_is, by k_is⟩)
    (case r_is_head => exact ⟨_, by k_is, _, _, _, _, _, _, _, _, _, by k_is, by k_is, by k_is⟩)
    (case r_term_breach => exact ⟨_, by k_is, _, _, _, _, _, _, _, _, _, by k_is, by k_is, by k_is⟩)
    (case r_are_terms => exact ⟨_, by k_is, _, _, _, _, _, _, _, _, _, by k_is, by k_is, by k_is⟩)
    (case r_saying_parts => exact ⟨_, by k_is, _, _, _, _, _, _, _, _, _, by k_is, by k_is, by k_is⟩)
    (case r_is_saying => exact ⟨_, by k_is, _, _, _, _, _, _, _, _, _, by k_is, by k_is, by k_is⟩)
    (case r_Read_init => exact ⟨_, by k_is, by k_is, _, _, _, _, _, _, _, _, _, by k_is, by k_is, by k_is⟩)
    (case r_Read_eq => exact ⟨_, by k_is, by k_is, _, _, _, _, _, _, _, _, _, by k_is, by k_is, by k_is⟩)
    (case r_Unread_init => exact ⟨_, by k_is, by k_is, _, _, _, _, _, _, _, _, _, by k_is, by k_is, by k_is⟩)
    (case r_Unread_eq => exact ⟨_, by k_is, by k_is, _, _, _, _, _, _, _, _, _, by k_is, by k_is, by k_is⟩)
    (case r_run_end => exact ⟨_, by k_is, _, _, _, _, _, _, _, _, _, by k_is, by k_is, by k_is⟩)
    (case r_token_at => exact ⟨_, by k_is, _, _, _, _, _, _, _, _, _, by k_is, by k_is, by k_is⟩)
    (case r_Reader_init => exact ⟨_, by k_is, by k_is, _, _, _, _, _, _, _, _, _, by k_is, by k_is, by k_is⟩)
    (case r_Reader_step => exact ⟨_, by k_is, by k_is, _, _, _, _, _, _, _, _, _, by k_is, by k_is, by k_is⟩)
    (case r_Reader_at => exact ⟨_, by k_is, by k_is, _, _, _, _, _, _, _, _, _, by k_is, by k_is, by k_is⟩)
    (case r_Reader_top => exact ⟨_, by k_is, by k_is, _, _, _, _, _, _, _, _, _, by k_is, by k_is, by k_is⟩)
    (case r_longest_shared => exact ⟨_, by k_is, _, _, _, _, _, _, _, _, _, by k_is, by k_is, by k_is⟩)
    (case r_Reader_stop => exact ⟨_, by k_is, by k_is, _, _, _, _, _, _, _, _, _, by k_is, by k_is, by k_is⟩)
    (case r_read_name => exact ⟨_, by k_is, _, _, _, _, _, _, _, _, _, by k_is, by k_is, by k_is⟩)
    (case r_read_number => exact ⟨_, by k_is, _, _, _, _, _, _, _, _, _, by k_is, by k_is, by k_is⟩)
    (case r_read_bound => exact ⟨_, by k_is, _, _, _, _, _, _, _, _, _, by k_is, by k_is, by k_is⟩)
    (case r_read_unit => exact ⟨_, by k_is, _, _, _, _, _, _, _, _, _, by k_is, by k_is, by k_is⟩)
    (case r_read_term => exact ⟨_, by k_is, _, _, _, _, _, _, _, _, _, by k_is, by k_is, by k_is⟩)
    (case r_read_base => exact ⟨_, by k_is, _, _, _, _, _, _, _, _, _, by k_is, by k_is, by k_is⟩)
    (case r_join_open => exact ⟨_, by k_is, _, _, _, _, _, _, _, _, _, by k_is, by k_is, by k_is⟩)
    (case r_go_on => exact ⟨_, by k_is, _, _, _, _, _, _, _, _, _, by k_is, by k_is, by k_is⟩)
    (case r_close_bracket => exact ⟨_, by k_is, _, _, _, _, _, _, _, _, _, by k_is, by k_is, by k_is⟩)
    (case r_read_more => exact ⟨_, by k_is, _, _, _, _, _, _, _, _, _, by k_is, by k_is, by k_is⟩)
    (case r_read_joined => exact ⟨_, by k_is, _, _, _, _, _, _, _, _, _, by k_is, by k_is, by k_is⟩)
    (case r_read_next => exact ⟨_, by k_is, _, _, _, _, _, _, _, _, _, by k_is, by k_is, by k_is⟩)
    (case r_need_text => exact ⟨_, by k_is, _, _, _, _, _, _, _, _, _, by k_is, by k_is, by k_is⟩)
    (case r_settled_formula => exact ⟨_, by k_is, _, _, _, _, _, _, _, _, _, by k_is, by k_is, by k_is⟩)
    (case r_settle_formula => exact ⟨_, by k_is, _, _, _, _, _, _, _, _, _, by k_is, by k_is, by k_is⟩)
    (case r_settle_text => exact ⟨_, by k_is, _, _, _, _, _, _, _, _, _, by k_is, by k_is, by k_is⟩)
    (case r_reading_fault => exact ⟨_, by k_is, _, _, _, _, _, _, _, _, _, by k_is, by k_is, by k_is⟩)
    (case r_law_pen => exact ⟨_, by k_is, _, _, _, _, _, _, _, _, _, by k_is, by k_is, by k_is⟩)
    (case r_law_draw => exact ⟨_, by k_is, _, _, _, _, _, _, _, _, _, by k_is, by k_is, by k_is⟩)
    (case r_law_pick => exact ⟨_, by k_is, _, _, _, _, _, _, _, _, _, by k_is, by k_is, by k_is⟩)
    (case r_law_s_term => exact ⟨_, by k_is, _, _, _, _, _, _, _, _, _, by k_is, by k_is, by k_is⟩)
    (case r_law_s_atom => exact ⟨_, by k_is, _, _, _, _, _, _, _, _, _, by k_is, by k_is, by k_is⟩)
    (case r_law_s_saying => exact ⟨_, by k_is, _, _, _, _, _, _, _, _, _, by k_is, by k_is, by k_is⟩)
    (case r_law_s_parts => exact ⟨_, by k_is, _, _, _, _, _, _, _, _, _, by k_is, by k_is, by k_is⟩)
    (case r_law_s_in_terms => exact ⟨_, by k_is, _, _, _, _, _, _, _, _, _, by k_is, by k_is, by k_is⟩)
    (case r_law_s_free => exact ⟨_, by k_is, _, _, _, _, _, _, _, _, _, by k_is, by k_is, by k_is⟩)
    (case r_law_s_spread => exact ⟨_, by k_is, _, _, _, _, _, _, _, _, _, by k_is, by k_is, by k_is⟩)
    (case r_law_s_spread_term => exact ⟨_, by k_is, _, _, _, _, _, _, _, _, _, by k_is, by k_is, by k_is⟩)
    (case r_law_s_tokens => exact ⟨_, by k_is, _, _, _, _, _, _, _, _, _, by k_is, by k_is, by k_is⟩)
    (case r_law_s_joined_text => exact ⟨_, by k_is, _, _, _, _, _, _, _, _, _, by k_is, by k_is, by k_is⟩)
    (case r_law_s_text => exact ⟨_, by k_is, _, _, _, _, _, _, _, _, _, by k_is, by k_is, by k_is⟩)
    (case r_law_known => exact ⟨_, by k_is, _, _, _, _, _, _, _, _, _, by k_is, by k_is, by k_is⟩)
    (case r_law_one_right => exact ⟨_, by k_is, _, _, _, _, _, _, _, _, _, by k_is, by k_is, by k_is⟩)
    (case n_law => k_is)
    (case l_law => k_is)
    (case cd_law => k_is)
    (case k_law => k_is)
