import PyProof.Rows.All
import Wide.All
import OpenK.AllK
import Wide.FinOn
import HandS.ForMost
import HandS.ForExc
import HandS.Defaults
import HandS.Flow
import HandS.TupAny
import HandS.IsInst
import HandS.Zip
import HandS.Lambda
import HandS.Nested
import HandS.Style
import HandS.Strs
import HandS.More
import HandS.EndTab
import HandS.HeadWalk
import HandS.HeadHook2
import HandS.Head2
import HandS.SortInts
import PySem.Challenge.RW_tailheard_k08_whole_plans_alike
import KE.GoesEnum
import KE.SortData
import KE.KDictDisplayH
import HandS.SetFor
import HandS.OwnIter
import HandS.IterNext
import HandS.Walk
import HandS.HeadHook4
set_option Elab.async false
set_option linter.all false
set_option maxRecDepth 100000
namespace Tk
open PySem L2

/-! ### heaps with some addresses out of sight -/
def hide (L : List Addr) (H : Hp) : Hp := fun b => if b ∈ L then none else H b
theorem hide_none {L : List Addr} {H : Hp} {b : Addr} (h : H b = none) : hide L H b = none := by
  unfold hide; split
  · rfl
  · exact h
theorem hide_in {L : List Addr} {H : Hp} {b : Addr} (h : b ∈ L) : hide L H b = none := by
  unfold hide; rw [if_pos h]
theorem hide_out {L : List Addr} {H : Hp} {b : Addr} (h : b ∉ L) : hide L H b = H b := by
  unfold hide; rw [if_neg h]
theorem hide_some {L : List Addr} {H : Hp} {b : Addr} {o : HO} (h : hide L H b = some o) : b ∉ L ∧ H b = some o := by
  unfold hide at h; split at h
  · cases h
  · exact ⟨by assumption, h⟩
theorem hide_same (L : List Addr) (H : Hp) : Same (hide L H) H := fun b o h => (hide_some h).2
theorem hide_mono {L : List Addr} {H H' : Hp} (s : Same H H') : Same (hide L H) (hide L H') := fun b o h => by
  obtain ⟨h1, h2⟩ := hide_some h
  rw [hide_out h1]; exact s b o h2
theorem hide_mut {L : List Addr} {H : Hp} {p : Addr} {o : HO} (h : p ∈ L) : hide L (upd H p o) = hide L H := by
  funext b; unfold hide
  by_cases hb : b ∈ L
  · rw [if_pos hb, if_pos hb]
  · rw [if_neg hb, if_neg hb, upd_ne (fun e : b = p => hb (by rw [e]; exact h))]
theorem hide_new {L : List Addr} {H : Hp} {p : Addr} {o : HO} (h : p ∉ L) : hide L (upd H p o) = upd (hide L H) p o := by
  funext b
  by_cases hb : b = p
  · subst hb; rw [hide_out h, upd_same, upd_same]
  · unfold hide; rw [upd_ne hb, upd_ne hb]
theorem hide_base {L : List Addr} {H0 H : Hp} (s : Same H0 H) (h : ∀ p ∈ L, H0 p = none) : Same H0 (hide L H) := fun b o e => by
  rw [hide_out (fun hb => by rw [h b hb] at e; cases e)]; exact s b o e
theorem hide_sub {L M : List Addr} {H : Hp} (h : ∀ p ∈ L, p ∈ M) : Same (hide M H) (hide L H) := fun b o e => by
  obtain ⟨h1, h2⟩ := hide_some e
  rw [hide_out (fun hb => h1 (h b hb))]; exact h2
theorem hide_nil (H : Hp) : hide [] H = H := by
  funext b; exact hide_out (by simp)
theorem same_new {H : Hp} {p : Addr} {o : HO} (h : H p = none) : Same H (upd H p o) := fun b x e => by
  rw [upd_ne (ne_of_none e h)]; exact e
/-- an object that the base does not know changes -/
theorem Same.mut {H0 H : Hp} {p : Addr} {o : HO} (s : Same H0 H) (h : H0 p = none) : Same H0 (upd H p o) := fun b x e => by
  rw [upd_ne (ne_of_none e h)]; exact s b x e
theorem Same.new {H0 H : Hp} {p : Addr} {o : HO} (s : Same H0 H) (h : H p = none) : Same H0 (upd H p o) := s.trans (same_new h)
theorem Same.ne {H0 H : Hp} {p q : Addr} {o : HO} (h : H0 q = some o) (s : Same H0 H) (hp : H p = none) : q ≠ p := ne_of_none (s q o h) hp

/-! ### immutable data -/
mutual
inductive Im (H : Hp) : V → PyData → Prop
  | non : Im H .non .none
  | bl (b : Bool) : Im H (.bl b) (.bool b)
  | int (i : Int) : Im H (.int i) (.int i)
  | str (x : Str) : Im H (.str x) (.str x)
  | tup {a : Addr} {xs : List V} {ds : List PyData} : H a = some (.tup xs) → Ims H xs ds → Im H (.ref a) (.tuple ds)
  | lst {a : Addr} {xs : List V} {ds : List PyData} : H a = some (.lst xs) → Ims H xs ds → Im H (.ref a) (.list ds)
inductive Ims (H : Hp) : List V → List PyData → Prop
  | nil : Ims H [] []
  | cons {v : V} {vs : List V} {d : PyData} {ds : List PyData} : Im H v d → Ims H vs ds → Ims H (v :: vs) (d :: ds)
end
section
variable {H H' : Hp} {K : PySem.W.Frag}
mutual
theorem Im.ext (s : LamX.ExtN H H') : ∀ {v : V} {d : PyData}, Im H v d → Im H' v d
  | _, _, .non => .non
  | _, _, .bl b => .bl b
  | _, _, .int i => .int i
  | _, _, .str x => .str x
  | _, _, .tup e h => .tup (s _ _ e (fun _ z => nomatch z)) (Ims.ext s h)
  | _, _, .lst e h => .lst (s _ _ e (fun _ z => nomatch z)) (Ims.ext s h)
theorem Ims.ext (s : LamX.ExtN H H') : ∀ {vs : List V} {ds : List PyData}, Ims H vs ds → Ims H' vs ds
  | _, _, .nil => .nil
  | _, _, .cons h t => .cons (Im.ext s h) (Ims.ext s t)
end
theorem Im.mono (s : Same H H') {v : V} {d : PyData} (h : Im H v d) : Im H' v d := Im.ext (LamX.ExtN.of s) h
theorem Ims.mono (s : Same H H') {vs : List V} {ds : List PyData} (h : Ims H vs ds) : Ims H' vs ds := Ims.ext (LamX.ExtN.of s) h
mutual
theorem Im.dp : ∀ {v : V} {d : PyData}, Im H v d → Dp K H v d
  | _, _, .non => .non
  | _, _, .bl b => .bl b
  | _, _, .int i => .int i
  | _, _, .str x => .str x
  | _, _, .tup e h => .tup (SqT.of e) (Ims.dp h)
  | _, _, .lst e h => .lst (SqL.of e) (Ims.dp h)
theorem Ims.dp : ∀ {vs : List V} {ds : List PyData}, Ims H vs ds → DpAll K H vs ds
  | _, _, .nil => .nil
  | _, _, .cons h t => .cons (Im.dp h) (Ims.dp t)
end
theorem Ims.len : ∀ {vs : List V} {ds : List PyData}, Ims H vs ds → vs.length = ds.length
  | _, _, .nil => rfl
  | _, _, .cons _ t => by rw [List.length_cons, List.length_cons, Ims.len t]
theorem Ims.get : ∀ {vs : List V} {ds : List PyData} {i : Nat} {v : V}, Ims H vs ds → vs[i]? = some v → ∃ d, ds[i]? = some d ∧ Im H v d
  | _, _, _, _, .nil, e => by simp at e
  | _, _, 0, _, .cons h t, e => by simp at e; subst e; exact ⟨_, rfl, h⟩
  | _, _, i + 1, v, .cons h t, e => by
    obtain ⟨d, h1, h2⟩ := Ims.get (i := i) (v := v) t (by simpa using e)
    exact ⟨d, by simpa using h1, h2⟩
theorem Ims.at_ : ∀ {vs : List V} {ds : List PyData} {i : Nat} {d : PyData}, Ims H vs ds → ds[i]? = some d → ∃ v, vs[i]? = some v ∧ Im H v d
  | _, _, _, _, .nil, e => by simp at e
  | _, _, 0, _, .cons h t, e => by simp at e; subst e; exact ⟨_, rfl, h⟩
  | _, _, i + 1, d, .cons h t, e => by
    obtain ⟨v, h1, h2⟩ := Ims.at_ (i := i) (d := d) t (by simpa using e)
    exact ⟨v, by simpa using h1, h2⟩
theorem Ims.app : ∀ {vs ws : List V} {ds es : List PyData}, Ims H vs ds → Ims H ws es → Ims H (vs ++ ws) (ds ++ es)
  | _, _, _, _, .nil, s => s
  | _, _, _, _, .cons h t, s => .cons h (Ims.app t s)
theorem Ims.one {v : V} {d : PyData} (h : Im H v d) : Ims H [v] [d] := .cons h .nil
theorem Ims.snoc {vs : List V} {ds : List PyData} {v : V} {d : PyData} (t : Ims H vs ds) (h : Im H v d) : Ims H (vs ++ [v]) (ds ++ [d]) := t.app (.one h)
theorem Ims.ints : ∀ (ns : List Int), Ims H (ns.map V.int) (ns.map PyData.int)
  | [] => .nil
  | n :: r => .cons (.int n) (Ims.ints r)
theorem Ims.ints_inv : ∀ {ns : List Int} {vs : List V}, Ims H vs (ns.map PyData.int) → vs = ns.map V.int
  | [], _, .nil => rfl
  | n :: r, _, .cons (.int _) t => by rw [Ims.ints_inv (ns := r) t]; rfl
theorem Im.tup_inv {v : V} {ds : List PyData} (h : Im H v (.tuple ds)) : ∃ a xs, v = .ref a ∧ H a = some (.tup xs) ∧ Ims H xs ds := by
  cases h with
  | tup e t => exact ⟨_, _, rfl, e, t⟩
theorem Im.int_inv {v : V} {i : Int} (h : Im H v (.int i)) : v = .int i := by cases h; rfl
theorem Im.str_inv {v : V} {x : Str} (h : Im H v (.str x)) : v = .str x := by cases h; rfl
theorem Im.bl_inv {v : V} {x : Bool} (h : Im H v (.bool x)) : v = .bl x := by cases h; rfl
theorem Im.non_inv {v : V} (h : Im H v .none) : v = .non := by cases h; rfl
theorem Ims.nil_inv {vs : List V} (h : Ims H vs []) : vs = [] := by cases h; rfl
theorem Ims.cons_inv {vs : List V} {d : PyData} {ds : List PyData} (h : Ims H vs (d :: ds)) : ∃ x xs, vs = x :: xs ∧ Im H x d ∧ Ims H xs ds := by
  cases h with
  | cons h t => exact ⟨_, _, rfl, h, t⟩
/-- a pair -/
theorem Im.pair_inv {v : V} {d e : PyData} (h : Im H v (.tuple [d, e])) : ∃ a x y, v = .ref a ∧ H a = some (.tup [x, y]) ∧ Im H x d ∧ Im H y e := by
  obtain ⟨a, xs, rfl, ha, t⟩ := h.tup_inv
  obtain ⟨x, r, rfl, hx, t⟩ := t.cons_inv
  obtain ⟨y, r, rfl, hy, t⟩ := t.cons_inv
  cases t.nil_inv
  exact ⟨a, x, y, rfl, ha, hx, hy⟩
theorem Im.pair {a : Addr} {x y : V} {d e : PyData} (h : H a = some (.tup [x, y])) (hx : Im H x d) (hy : Im H y e) : Im H (.ref a) (.tuple [d, e]) := .tup h (.cons hx (.cons hy .nil))
end
end Tk
namespace Tk
open PySem L2
def top (i : Nat) : Stmt := PySem.Challenge.pw_tailheard_k08_whole_plans_alike.main.body.getD i (.Pass ⟨0, 0, 0, 0⟩)
structure Fx (K : PySem.W.Frag) (mg : Str → Option Value) where
  a_listed : Addr
  d_listed : FuncData
  F_listed : FunD K "listed" "listed" (defArgs (top 9)) (defBody (top 9)) (defScope (top 9)) [] [] a_listed d_listed
  g_listed : mg "listed" = some (.ref a_listed)
  a_isint : Addr
  d_isint : FuncData
  F_isint : FunD K "is_integer" "is_integer" (defArgs (top 11)) (defBody (top 11)) (defScope (top 11)) [] [] a_isint d_isint
  g_isint : mg "is_integer" = some (.ref a_isint)
  a_deep : Addr
  d_deep : FuncData
  F_deep : FunD K "deep" "deep" (defArgs (top 12)) (defBody (top 12)) (defScope (top 12)) [.int 12] [] a_deep d_deep
  g_deep : mg "deep" = some (.ref a_deep)
  a_rising : Addr
  d_rising : FuncData
  F_rising : FunD K "is_rising" "is_rising" (defArgs (top 13)) (defBody (top 13)) (defScope (top 13)) [] [] a_rising d_rising
  g_rising : mg "is_rising" = some (.ref a_rising)
  a_psteps : Addr
  d_psteps : FuncData
  F_psteps : FunD K "pair_steps" "pair_steps" (defArgs (top 15)) (defBody (top 15)) (defScope (top 15)) [] [] a_psteps d_psteps
  g_psteps : mg "pair_steps" = some (.ref a_psteps)
  a_isfinal : Addr
  d_isfinal : FuncData
  F_isfinal : FunD K "is_final" "is_final" (defArgs (top 16)) (defBody (top 16)) (defScope (top 16)) [] [] a_isfinal d_isfinal
  g_isfinal : mg "is_final" = some (.ref a_isfinal)
  a_lpairs : Addr
  d_lpairs : FuncData
  F_lpairs : FunD K "listed_pairs" "listed_pairs" (defArgs (top 17)) (defBody (top 17)) (defScope (top 17)) [] [] a_lpairs d_lpairs
  g_lpairs : mg "listed_pairs" = some (.ref a_lpairs)
  c_lp : Addr
  P_lp : Addr
  code_lp : d_lpairs.code = .ref c_lp
  a_ppInit : Addr
  d_ppInit : FuncData
  F_ppInit : FunD K "__init__" "PlanPair.__init__" (defArgs (inClass (top 18) 0)) (defBody (inClass (top 18) 0)) (defScope (inClass (top 18) 0)) [] [] a_ppInit d_ppInit
  a_ppBool : Addr
  d_ppBool : FuncData
  F_ppBool : FunD K "__bool__" "PlanPair.__bool__" (defArgs (inClass (top 18) 1)) (defBody (inClass (top 18) 1)) (defScope (inClass (top 18) 1)) [] [] a_ppBool d_ppBool
  a_ppLen : Addr
  d_ppLen : FuncData
  F_ppLen : FunD K "__len__" "PlanPair.__len__" (defArgs (inClass (top 18) 2)) (defBody (inClass (top 18) 2)) (defScope (inClass (top 18) 2)) [] [] a_ppLen d_ppLen
  a_ppIter : Addr
  d_ppIter : FuncData
  F_ppIter : FunD K "__iter__" "PlanPair.__iter__" (defArgs (inClass (top 18) 3)) (defBody (inClass (top 18) 3)) (defScope (inClass (top 18) 3)) [] [] a_ppIter d_ppIter
  a_ispair : Addr
  d_ispair : FuncData
  F_ispair : FunD K "is_state_pair" "is_state_pair" (defArgs (top 19)) (defBody (top 19)) (defScope (top 19)) [] [] a_ispair d_ispair
  g_ispair : mg "is_state_pair" = some (.ref a_ispair)
  a_judge : Addr
  d_judge : FuncData
  F_judge : FunD K "judge_plans" "judge_plans" (defArgs (top 20)) (defBody (top 20)) (defScope (top 20)) [] [] a_judge d_judge
  g_judge : mg "judge_plans" = some (.ref a_judge)
  a_issign : Addr
  d_issign : FuncData
  F_issign : FunD K "is_plan_sign" "is_plan_sign" (defArgs (top 22)) (defBody (top 22)) (defScope (top 22)) [] [] a_issign d_issign
  g_issign : mg "is_plan_sign" = some (.ref a_issign)
  a_isstate : Addr
  d_isstate : FuncData
  F_isstate : FunD K "is_state" "is_state" (defArgs (top 23)) (defBody (top 23)) (defScope (top 23)) [] [] a_isstate d_isstate
  g_isstate : mg "is_state" = some (.ref a_isstate)
  a_live : Addr
  d_live : FuncData
  F_live : FunD K "live_states" "live_states" (defArgs (top 24)) (defBody (top 24)) (defScope (top 24)) [] [] a_live d_live
  g_live : mg "live_states" = some (.ref a_live)
  a_srows : Addr
  d_srows : FuncData
  F_srows : FunD K "step_rows_of" "step_rows_of" (defArgs (top 29)) (defBody (top 29)) (defScope (top 29)) [] [] a_srows d_srows
  g_srows : mg "step_rows_of" = some (.ref a_srows)
  a_pInit : Addr
  d_pInit : FuncData
  F_pInit : FunD K "__init__" "Plan.__init__" (defArgs (inClass (top 30) 0)) (defBody (inClass (top 30) 0)) (defScope (inClass (top 30) 0)) [.non] [] a_pInit d_pInit
  a_draw : Addr
  d_draw : FuncData
  F_draw : FunD K "_law_draw" "_law_draw" (defArgs (top 32)) (defBody (top 32)) (defScope (top 32)) [] [] a_draw d_draw
  g_draw : mg "_law_draw" = some (.ref a_draw)
  a_mix : Addr
  d_mix : FuncData
  F_mix : FunD K "_law_mix" "_law_mix" (defArgs (top 33)) (defBody (top 33)) (defScope (top 33)) [] [] a_mix d_mix
  g_mix : mg "_law_mix" = some (.ref a_mix)
  a_pick : Addr
  d_pick : FuncData
  F_pick : FunD K "_law_pick" "_law_pick" (defArgs (top 34)) (defBody (top 34)) (defScope (top 34)) [] [] a_pick d_pick
  g_pick : mg "_law_pick" = some (.ref a_pick)
  a_lisint : Addr
  d_lisint : FuncData
  F_lisint : FunD K "_law_is_int" "_law_is_int" (defArgs (top 35)) (defBody (top 35)) (defScope (top 35)) [] [] a_lisint d_lisint
  g_lisint : mg "_law_is_int" = some (.ref a_lisint)
  a_plan : Addr
  d_plan : FuncData
  F_plan : FunD K "_law_plan" "_law_plan" (defArgs (top 36)) (defBody (top 36)) (defScope (top 36)) [] [] a_plan d_plan
  g_plan : mg "_law_plan" = some (.ref a_plan)
  a_reaches : Addr
  d_reaches : FuncData
  F_reaches : FunD K "_law_reaches" "_law_reaches" (defArgs (top 37)) (defBody (top 37)) (defScope (top 37)) [] [] a_reaches d_reaches
  g_reaches : mg "_law_reaches" = some (.ref a_reaches)
  a_ring : Addr
  d_ring : FuncData
  F_ring : FunD K "_law_ring" "_law_ring" (defArgs (top 38)) (defBody (top 38)) (defScope (top 38)) [] [] a_ring d_ring
  g_ring : mg "_law_ring" = some (.ref a_ring)
  a_split : Addr
  d_split : FuncData
  F_split : FunD K "_law_split" "_law_split" (defArgs (top 39)) (defBody (top 39)) (defScope (top 39)) [] [] a_split d_split
  g_split : mg "_law_split" = some (.ref a_split)
  a_changed : Addr
  d_changed : FuncData
  F_changed : FunD K "_law_changed" "_law_changed" (defArgs (top 40)) (defBody (top 40)) (defScope (top 40)) [] [] a_changed d_changed
  g_changed : mg "_law_changed" = some (.ref a_changed)
  a_two : Addr
  d_two : FuncData
  F_two : FunD K "_law_two" "_law_two" (defArgs (top 41)) (defBody (top 41)) (defScope (top 41)) [] [] a_two d_two
  g_two : mg "_law_two" = some (.ref a_two)
  a_pairs : Addr
  d_pairs : FuncData
  F_pairs : FunD K "_law_pairs" "_law_pairs" (defArgs (top 42)) (defBody (top 42)) (defScope (top 42)) [] [] a_pairs d_pairs
  g_pairs : mg "_law_pairs" = some (.ref a_pairs)
  a_verdict : Addr
  d_verdict : FuncData
  F_verdict : FunD K "_law_verdict" "_law_verdict" (defArgs (top 43)) (defBody (top 43)) (defScope (top 43)) [] [] a_verdict d_verdict
  g_verdict : mg "_law_verdict" = some (.ref a_verdict)
  a_inform : Addr
  d_inform : FuncData
  F_inform : FunD K "_law_in_form" "_law_in_form" (defArgs (top 44)) (defBody (top 44)) (defScope (top 44)) [] [] a_inform d_inform
  g_inform : mg "_law_in_form" = some (.ref a_inform)
  a_looker : Addr
  d_looker : FuncData
  F_looker : FunD K "_law_looker" "_law_looker" (defArgs (top 45)) (defBody (top 45)) (defScope (top 45)) [] [] a_looker d_looker
  g_looker : mg "_law_looker" = some (.ref a_looker)
  a_bent : Addr
  d_bent : FuncData
  F_bent : FunD K "_law_bent" "_law_bent" (defArgs (top 46)) (defBody (top 46)) (defScope (top 46)) [] [] a_bent d_bent
  g_bent : mg "_law_bent" = some (.ref a_bent)
  a_judged : Addr
  d_judged : FuncData
  F_judged : FunD K "_law_judged" "_law_judged" (defArgs (top 47)) (defBody (top 47)) (defScope (top 47)) [] [] a_judged d_judged
  g_judged : mg "_law_judged" = some (.ref a_judged)
  a_law : Addr
  d_law : FuncData
  F_law : FunD K "law" "law" (defArgs (top 48)) (defBody (top 48)) (defScope (top 48)) [] [] a_law d_law
  g_law : mg "law" = some (.ref a_law)
  z_len : mg "len" = none
  z_int : mg "int" = none
  z_bool : mg "bool" = none
  z_list : mg "list" = none
  z_tuple : mg "tuple" = none
  z_str : mg "str" = none
  z_range : mg "range" = none
  z_enumerate : mg "enumerate" = none
  z_sorted : mg "sorted" = none
  z_zip : mg "zip" = none
  z_all : mg "all" = none
  z_isinstance : mg "isinstance" = none
  z_iter : mg "iter" = none
  z_sum : mg "sum" = none
  z_abs : mg "abs" = none
  z_set : mg "set" = none
  cP : Addr
  cQ : Addr
  g_Plan : mg "Plan" = some (.ref cP)
  g_PlanPair : mg "PlanPair" = some (.ref cQ)
  clP : Cls K cP
  clQ : Cls K cQ
  mkP : Mk K cP a_pInit
  mkQ : Mk K cQ a_ppInit
  nP_states : NoAttr K cP "states"
  nP_ends : NoAttr K cP "ends"
  nP_table : NoAttr K cP "table"
  nP_is_end : NoAttr K cP "is_end"
  nP_step_rows : NoAttr K cP "step_rows"
  nQ_holds : NoAttr K cQ "holds"
  nQ_table : NoAttr K cQ "table"
  nQ_text : NoAttr K cQ "text"
  nQ_bearer : NoAttr K cQ "bearer"
  nQ_rows : NoAttr K cQ "rows"
  m_ppBool : Meth K cQ "__bool__" a_ppBool
  m_ppLen : Meth K cQ "__len__" a_ppLen
  m_ppIter : Meth K cQ "__iter__" a_ppIter
theorem sc_listed : FnScope ["first", "onward", "most", "word", "nodes", "rows", "level", "paths", "found", "rank", "node", "label", "after", "fresh", "last", "mark"] ["first", "onward", "most", "word"] (defScope (top 9)) := ⟨rfl, rfl, rfl, by decide +kernel, rfl, by decide +kernel, by decide +kernel⟩
theorem Fx.b_listed {K : PySem.W.Frag} {mg : Str → Option Value} (T : Fx K mg) : Binds K T.d_listed ["first", "onward", "most", "word"] [] := T.F_listed.bindsN fun _ _ _ _ _ _ us hl => match us, hl with | [_, _, _, _], _ => rfl
theorem sc_isint : FnScope ["thing", "low", "high"] ["thing", "low", "high"] (defScope (top 11)) := ⟨rfl, rfl, rfl, by decide +kernel, rfl, by decide +kernel, by decide +kernel⟩
theorem Fx.b_isint {K : PySem.W.Frag} {mg : Str → Option Value} (T : Fx K mg) : Binds K T.d_isint ["thing", "low", "high"] [] := T.F_isint.bindsN fun _ _ _ _ _ _ us hl => match us, hl with | [_, _, _], _ => rfl
theorem sc_deep : FnScope ["thing", "left", "part"] ["thing", "left"] (defScope (top 12)) := ⟨rfl, rfl, rfl, by decide +kernel, rfl, by decide +kernel, by decide +kernel⟩
theorem sc_rising : FnScope ["thing", "low", "high", "one", "two", "part"] ["thing", "low", "high"] (defScope (top 13)) := ⟨rfl, rfl, rfl, by decide +kernel, rfl, by decide +kernel, by decide +kernel⟩
theorem Fx.b_rising {K : PySem.W.Frag} {mg : Str → Option Value} (T : Fx K mg) : Binds K T.d_rising ["thing", "low", "high"] [] := T.F_rising.bindsN fun _ _ _ _ _ _ us hl => match us, hl with | [_, _, _], _ => rfl
theorem sc_psteps : FnScope ["first", "second", "pair", "ones", "twos", "signs", "sign"] ["first", "second", "pair"] (defScope (top 15)) := ⟨rfl, rfl, rfl, by decide +kernel, rfl, by decide +kernel, by decide +kernel⟩
theorem Fx.b_psteps {K : PySem.W.Frag} {mg : Str → Option Value} (T : Fx K mg) : Binds K T.d_psteps ["first", "second", "pair"] [] := T.F_psteps.bindsN fun _ _ _ _ _ _ us hl => match us, hl with | [_, _, _], _ => rfl
theorem sc_isfinal : FnScope ["plan", "state"] ["plan", "state"] (defScope (top 16)) := ⟨rfl, rfl, rfl, by decide +kernel, rfl, by decide +kernel, by decide +kernel⟩
theorem Fx.b_isfinal {K : PySem.W.Frag} {mg : Str → Option Value} (T : Fx K mg) : Binds K T.d_isfinal ["plan", "state"] [] := T.F_isfinal.bindsN fun _ _ _ _ _ _ us hl => match us, hl with | [_, _], _ => rfl
theorem sc_lpairs : FnScope ["first", "second", "onward"] ["first", "second"] (defScope (top 17)) := ⟨rfl, rfl, rfl, by decide +kernel, rfl, by decide +kernel, by decide +kernel⟩
theorem Fx.b_lpairs {K : PySem.W.Frag} {mg : Str → Option Value} (T : Fx K mg) : Binds K T.d_lpairs ["first", "second"] [] := T.F_lpairs.bindsN fun _ _ _ _ _ _ us hl => match us, hl with | [_, _], _ => rfl
theorem sc_ppInit : FnScope ["self", "first", "second", "nodes", "rows", "node"] ["self", "first", "second"] (defScope (inClass (top 18) 0)) := ⟨rfl, rfl, rfl, by decide +kernel, rfl, by decide +kernel, by decide +kernel⟩
theorem Fx.b_ppInit {K : PySem.W.Frag} {mg : Str → Option Value} (T : Fx K mg) : Binds K T.d_ppInit ["self", "first", "second"] [] := T.F_ppInit.bindsN fun _ _ _ _ _ _ us hl => match us, hl with | [_, _, _], _ => rfl
theorem sc_ppBool : FnScope ["self"] ["self"] (defScope (inClass (top 18) 1)) := ⟨rfl, rfl, rfl, by decide +kernel, rfl, by decide +kernel, by decide +kernel⟩
theorem Fx.b_ppBool {K : PySem.W.Frag} {mg : Str → Option Value} (T : Fx K mg) : Binds K T.d_ppBool ["self"] [] := T.F_ppBool.bindsN fun _ _ _ _ _ _ us hl => match us, hl with | [_], _ => rfl
theorem sc_ppLen : FnScope ["self"] ["self"] (defScope (inClass (top 18) 2)) := ⟨rfl, rfl, rfl, by decide +kernel, rfl, by decide +kernel, by decide +kernel⟩
theorem Fx.b_ppLen {K : PySem.W.Frag} {mg : Str → Option Value} (T : Fx K mg) : Binds K T.d_ppLen ["self"] [] := T.F_ppLen.bindsN fun _ _ _ _ _ _ us hl => match us, hl with | [_], _ => rfl
theorem sc_ppIter : FnScope ["self"] ["self"] (defScope (inClass (top 18) 3)) := ⟨rfl, rfl, rfl, by decide +kernel, rfl, by decide +kernel, by decide +kernel⟩
theorem Fx.b_ppIter {K : PySem.W.Frag} {mg : Str → Option Value} (T : Fx K mg) : Binds K T.d_ppIter ["self"] [] := T.F_ppIter.bindsN fun _ _ _ _ _ _ us hl => match us, hl with | [_], _ => rfl
theorem sc_ispair : FnScope ["first", "second", "row"] ["first", "second", "row"] (defScope (top 19)) := ⟨rfl, rfl, rfl, by decide +kernel, rfl, by decide +kernel, by decide +kernel⟩
theorem Fx.b_ispair {K : PySem.W.Frag} {mg : Str → Option Value} (T : Fx K mg) : Binds K T.d_ispair ["first", "second", "row"] [] := T.F_ispair.bindsN fun _ _ _ _ _ _ us hl => match us, hl with | [_, _, _], _ => rfl
theorem sc_judge : FnScope ["first", "second", "table", "rows", "there", "row", "number", "sign", "after"] ["first", "second", "table"] (defScope (top 20)) := ⟨rfl, rfl, rfl, by decide +kernel, rfl, by decide +kernel, by decide +kernel⟩
theorem Fx.b_judge {K : PySem.W.Frag} {mg : Str → Option Value} (T : Fx K mg) : Binds K T.d_judge ["first", "second", "table"] [] := T.F_judge.bindsN fun _ _ _ _ _ _ us hl => match us, hl with | [_, _, _], _ => rfl
theorem sc_issign : FnScope ["sign"] ["sign"] (defScope (top 22)) := ⟨rfl, rfl, rfl, by decide +kernel, rfl, by decide +kernel, by decide +kernel⟩
theorem Fx.b_issign {K : PySem.W.Frag} {mg : Str → Option Value} (T : Fx K mg) : Binds K T.d_issign ["sign"] [] := T.F_issign.bindsN fun _ _ _ _ _ _ us hl => match us, hl with | [_], _ => rfl
theorem sc_isstate : FnScope ["many", "state", "last", "pair"] ["many", "state"] (defScope (top 23)) := ⟨rfl, rfl, rfl, by decide +kernel, rfl, by decide +kernel, by decide +kernel⟩
theorem Fx.b_isstate {K : PySem.W.Frag} {mg : Str → Option Value} (T : Fx K mg) : Binds K T.d_isstate ["many", "state"] [] := T.F_isstate.bindsN fun _ _ _ _ _ _ us hl => match us, hl with | [_, _], _ => rfl
theorem sc_live : FnScope ["tables", "ends", "back", "state", "table", "sign", "live", "waiting", "before", "end"] ["tables", "ends"] (defScope (top 24)) := ⟨rfl, rfl, rfl, by decide +kernel, rfl, by decide +kernel, by decide +kernel⟩
theorem Fx.b_live {K : PySem.W.Frag} {mg : Str → Option Value} (T : Fx K mg) : Binds K T.d_live ["tables", "ends"] [] := T.F_live.bindsN fun _ _ _ _ _ _ us hl => match us, hl with | [_, _], _ => rfl
theorem sc_srows : FnScope ["rows", "flags", "found", "state", "row", "ways"] ["rows", "flags"] (defScope (top 29)) := ⟨rfl, rfl, rfl, by decide +kernel, rfl, by decide +kernel, by decide +kernel⟩
theorem Fx.b_srows {K : PySem.W.Frag} {mg : Str → Option Value} (T : Fx K mg) : Binds K T.d_srows ["rows", "flags"] [] := T.F_srows.bindsN fun _ _ _ _ _ _ us hl => match us, hl with | [_, _], _ => rfl
theorem sc_pInit : FnScope ["self", "states", "ends", "rows", "finals", "table", "number", "state", "row", "sign", "after", "flags", "live"] ["self", "states", "ends"] (defScope (inClass (top 30) 0)) := ⟨rfl, rfl, rfl, by decide +kernel, rfl, by decide +kernel, by decide +kernel⟩
theorem sc_draw : FnScope ["_law_script", "_law_cells", "_law_cell"] ["_law_script"] (defScope (top 32)) := ⟨rfl, rfl, rfl, by decide +kernel, rfl, by decide +kernel, by decide +kernel⟩
theorem Fx.b_draw {K : PySem.W.Frag} {mg : Str → Option Value} (T : Fx K mg) : Binds K T.d_draw ["_law_script"] [] := T.F_draw.bindsN fun _ _ _ _ _ _ us hl => match us, hl with | [_], _ => rfl
theorem sc_mix : FnScope ["_law_cell", "_law_turn", "_law_one", "_law_two_here"] ["_law_cell", "_law_turn"] (defScope (top 33)) := ⟨rfl, rfl, rfl, by decide +kernel, rfl, by decide +kernel, by decide +kernel⟩
theorem Fx.b_mix {K : PySem.W.Frag} {mg : Str → Option Value} (T : Fx K mg) : Binds K T.d_mix ["_law_cell", "_law_turn"] [] := T.F_mix.bindsN fun _ _ _ _ _ _ us hl => match us, hl with | [_, _], _ => rfl
theorem sc_pick : FnScope ["_law_draw_here", "_law_many", "_law_cell", "_law_digit", "_law_found"] ["_law_draw_here", "_law_many"] (defScope (top 34)) := ⟨rfl, rfl, rfl, by decide +kernel, rfl, by decide +kernel, by decide +kernel⟩
theorem Fx.b_pick {K : PySem.W.Frag} {mg : Str → Option Value} (T : Fx K mg) : Binds K T.d_pick ["_law_draw_here", "_law_many"] [] := T.F_pick.bindsN fun _ _ _ _ _ _ us hl => match us, hl with | [_, _], _ => rfl
theorem sc_lisint : FnScope ["_law_thing"] ["_law_thing"] (defScope (top 35)) := ⟨rfl, rfl, rfl, by decide +kernel, rfl, by decide +kernel, by decide +kernel⟩
theorem Fx.b_lisint {K : PySem.W.Frag} {mg : Str → Option Value} (T : Fx K mg) : Binds K T.d_lisint ["_law_thing"] [] := T.F_lisint.bindsN fun _ _ _ _ _ _ us hl => match us, hl with | [_], _ => rfl
theorem sc_plan : FnScope ["_law_draw_here", "_law_signs", "_law_many", "_law_states", "_law_state", "_law_row", "_law_sign", "_law_kind", "_law_ends"] ["_law_draw_here", "_law_signs", "_law_many"] (defScope (top 36)) := ⟨rfl, rfl, rfl, by decide +kernel, rfl, by decide +kernel, by decide +kernel⟩
theorem Fx.b_plan {K : PySem.W.Frag} {mg : Str → Option Value} (T : Fx K mg) : Binds K T.d_plan ["_law_draw_here", "_law_signs", "_law_many"] [] := T.F_plan.bindsN fun _ _ _ _ _ _ us hl => match us, hl with | [_, _, _], _ => rfl
theorem sc_reaches : FnScope ["_law_states", "_law_ends", "_law_begin", "_law_there", "_law_order", "_law_turn", "_law_sign", "_law_after"] ["_law_states", "_law_ends", "_law_begin"] (defScope (top 37)) := ⟨rfl, rfl, rfl, by decide +kernel, rfl, by decide +kernel, by decide +kernel⟩
theorem Fx.b_reaches {K : PySem.W.Frag} {mg : Str → Option Value} (T : Fx K mg) : Binds K T.d_reaches ["_law_states", "_law_ends", "_law_begin"] [] := T.F_reaches.bindsN fun _ _ _ _ _ _ us hl => match us, hl with | [_, _, _], _ => rfl
theorem sc_ring : FnScope ["_law_sign", "_law_many", "_law_step", "_law_states", "_law_state"] ["_law_sign", "_law_many", "_law_step"] (defScope (top 38)) := ⟨rfl, rfl, rfl, by decide +kernel, rfl, by decide +kernel, by decide +kernel⟩
theorem Fx.b_ring {K : PySem.W.Frag} {mg : Str → Option Value} (T : Fx K mg) : Binds K T.d_ring ["_law_sign", "_law_many", "_law_step"] [] := T.F_ring.bindsN fun _ _ _ _ _ _ us hl => match us, hl with | [_, _, _], _ => rfl
theorem sc_split : FnScope ["_law_draw_here", "_law_plan_here", "_law_states", "_law_ends", "_law_pool", "_law_state", "_law_turn", "_law_copies", "_law_rows", "_law_row", "_law_sign", "_law_after", "_law_there", "_law_number"] ["_law_draw_here", "_law_plan_here"] (defScope (top 39)) := ⟨rfl, rfl, rfl, by decide +kernel, rfl, by decide +kernel, by decide +kernel⟩
theorem Fx.b_split {K : PySem.W.Frag} {mg : Str → Option Value} (T : Fx K mg) : Binds K T.d_split ["_law_draw_here", "_law_plan_here"] [] := T.F_split.bindsN fun _ _ _ _ _ _ us hl => match us, hl with | [_, _], _ => rfl
theorem sc_changed : FnScope ["_law_draw_here", "_law_plan_here", "_law_signs", "_law_rows", "_law_ends", "_law_state", "_law_way", "_law_at", "_law_free", "_law_states", "_law_row", "_law_sign", "_law_pair"] ["_law_draw_here", "_law_plan_here", "_law_signs"] (defScope (top 40)) := ⟨rfl, rfl, rfl, by decide +kernel, rfl, by decide +kernel, by decide +kernel⟩
theorem Fx.b_changed {K : PySem.W.Frag} {mg : Str → Option Value} (T : Fx K mg) : Binds K T.d_changed ["_law_draw_here", "_law_plan_here", "_law_signs"] [] := T.F_changed.bindsN fun _ _ _ _ _ _ us hl => match us, hl with | [_, _, _], _ => rfl
theorem sc_two : FnScope ["_law_draw_here", "_law_pool", "_law_signs", "_law_way", "_law_step", "_law_many", "_law_one", "_law_other", "_law_two_here", "_law_letter", "_law_turn"] ["_law_draw_here"] (defScope (top 41)) := ⟨rfl, rfl, rfl, by decide +kernel, rfl, by decide +kernel, by decide +kernel⟩
theorem Fx.b_two {K : PySem.W.Frag} {mg : Str → Option Value} (T : Fx K mg) : Binds K T.d_two ["_law_draw_here"] [] := T.F_two.bindsN fun _ _ _ _ _ _ us hl => match us, hl with | [_], _ => rfl
theorem sc_pairs : FnScope ["_law_one", "_law_two_here", "_law_order", "_law_texts", "_law_turn", "_law_first", "_law_second", "_law_onward", "_law_sign", "_law_after"] ["_law_one", "_law_two_here"] (defScope (top 42)) := ⟨rfl, rfl, rfl, by decide +kernel, rfl, by decide +kernel, by decide +kernel⟩
theorem Fx.b_pairs {K : PySem.W.Frag} {mg : Str → Option Value} (T : Fx K mg) : Binds K T.d_pairs ["_law_one", "_law_two_here"] [] := T.F_pairs.bindsN fun _ _ _ _ _ _ us hl => match us, hl with | [_, _], _ => rfl
theorem sc_verdict : FnScope ["_law_told", "_law_one", "_law_two_here", "_law_order", "_law_texts", "_law_unlike", "_law_row", "_law_pair", "_law_part"] ["_law_told", "_law_one", "_law_two_here"] (defScope (top 43)) := ⟨rfl, rfl, rfl, by decide +kernel, rfl, by decide +kernel, by decide +kernel⟩
theorem Fx.b_verdict {K : PySem.W.Frag} {mg : Str → Option Value} (T : Fx K mg) : Binds K T.d_verdict ["_law_told", "_law_one", "_law_two_here"] [] := T.F_verdict.bindsN fun _ _ _ _ _ _ us hl => match us, hl with | [_, _, _], _ => rfl
theorem sc_inform : FnScope ["_law_one", "_law_two_here", "_law_row"] ["_law_one", "_law_two_here", "_law_row"] (defScope (top 44)) := ⟨rfl, rfl, rfl, by decide +kernel, rfl, by decide +kernel, by decide +kernel⟩
theorem Fx.b_inform {K : PySem.W.Frag} {mg : Str → Option Value} (T : Fx K mg) : Binds K T.d_inform ["_law_one", "_law_two_here", "_law_row"] [] := T.F_inform.bindsN fun _ _ _ _ _ _ us hl => match us, hl with | [_, _, _], _ => rfl
theorem sc_looker : FnScope ["_law_one", "_law_two_here", "_law_table", "_law_there", "_law_row", "_law_number", "_law_first", "_law_second", "_law_at", "_law_pair"] ["_law_one", "_law_two_here", "_law_table"] (defScope (top 45)) := ⟨rfl, rfl, rfl, by decide +kernel, rfl, by decide +kernel, by decide +kernel⟩
theorem Fx.b_looker {K : PySem.W.Frag} {mg : Str → Option Value} (T : Fx K mg) : Binds K T.d_looker ["_law_one", "_law_two_here", "_law_table"] [] := T.F_looker.bindsN fun _ _ _ _ _ _ us hl => match us, hl with | [_, _, _], _ => rfl
theorem sc_bent : FnScope ["_law_draw_here", "_law_table", "_law_one", "_law_two_here", "_law_rows", "_law_at", "_law_fresh", "_law_odd", "_law_way", "_law_row"] ["_law_draw_here", "_law_table", "_law_one", "_law_two_here"] (defScope (top 46)) := ⟨rfl, rfl, rfl, by decide +kernel, rfl, by decide +kernel, by decide +kernel⟩
theorem Fx.b_bent {K : PySem.W.Frag} {mg : Str → Option Value} (T : Fx K mg) : Binds K T.d_bent ["_law_draw_here", "_law_table", "_law_one", "_law_two_here"] [] := T.F_bent.bindsN fun _ _ _ _ _ _ us hl => match us, hl with | [_, _, _, _], _ => rfl
theorem sc_judged : FnScope ["_law_one", "_law_two_here", "_law_first", "_law_second", "_law_table", "_law_due", "_law_told"] ["_law_one", "_law_two_here", "_law_first", "_law_second", "_law_table"] (defScope (top 47)) := ⟨rfl, rfl, rfl, by decide +kernel, rfl, by decide +kernel, by decide +kernel⟩
theorem Fx.b_judged {K : PySem.W.Frag} {mg : Str → Option Value} (T : Fx K mg) : Binds K T.d_judged ["_law_one", "_law_two_here", "_law_first", "_law_second", "_law_table"] [] := T.F_judged.bindsN fun _ _ _ _ _ _ us hl => match us, hl with | [_, _, _, _, _], _ => rfl
theorem sc_law : FnScope ["_law_script", "_law_draw_here", "_law_one", "_law_two_here", "_law_first", "_law_second", "_law_table", "_law_turn", "_law_bent_here", "_law_step", "_law_pair", "_law_row"] ["_law_script"] (defScope (top 48)) := ⟨rfl, rfl, rfl, by decide +kernel, rfl, by decide +kernel, by decide +kernel⟩
theorem Fx.b_law {K : PySem.W.Frag} {mg : Str → Option Value} (T : Fx K mg) : Binds K T.d_law ["_law_script"] [] := T.F_law.bindsN fun _ _ _ _ _ _ us hl => match us, hl with | [_], _ => rfl

end Tk
/-! enumerate of a tuple -/
namespace PySem
open Sem (wp)
set_option maxHeartbeats 1000000 in
theorem tk_enumerate_new1 {v : Value} {o : Obj} {H : Heap → Prop} (B : Begins v o H) :
    Meets (Builtin.«enumerate.__new__» ⟨[.type "enumerate", v], []⟩) (fun _ R s => H s.heap ∧
      R (.ok (.ret (.ref (s.heap.push o).objs.size))) { s with heap := (s.heap.push o).push { cls := .type "enumerate", data := .fields #[.none, .bool false, .ref s.heap.objs.size, rawInt 0, .none, .none] } }) :=
  .of_wp fun prog w A R s h => by
    obtain ⟨hp, g, d, tk, os⟩ := s; obtain ⟨h1, h⟩ := h
    have hsub := sub_enumerate
    have q1 : ∀ {A' : Around} {E : Value → Shared → Prop} {Q : Value → Shared → Prop}, Q (.ref hp.objs.size) ⟨hp.push o, g, d, tk, os⟩ → wpAny (model prog w) A' (pyIter v) Q E ⟨hp, g, d, tk, os⟩ :=
      fun q => B.iter prog w _ _ ⟨hp, g, d, tk, os⟩ _ h1 q
    wp_walk using q1
    refine wpAny_stack_any fun st => wpAny_pure ?_
    split
    · rename_i c _ _ _ _ _
      cases (c == Value.type "enumerate")
      · wp_walk using q1
        exact ⟨_, rfl, h⟩
      · wp_walk using q1
        exact ⟨_, rfl, h⟩
    · wp_walk using q1
      exact ⟨_, rfl, h⟩
theorem tk_call_enumerate {prog : Program} {w : World} {A : Around} {E : Value → Shared → Prop} {s : Shared} {v : Value} {o : Obj} {H : Heap → Prop} {Q : Value → Shared → Prop} (B : Begins v o H) (h1 : H s.heap)
    (h : ∀ h', IsEnum h' (s.heap.objs.size + 1) s.heap.objs.size 0 .none → h'.get? s.heap.objs.size = some o → h'.objs.size = s.heap.objs.size + 2 →
      (∀ b o, s.heap.get? b = some o → h'.get? b = some o) → Q (.ref (s.heap.objs.size + 1)) { s with heap := h' }) :
    wpAny (model prog w) A (call (.type "enumerate") [v]) Q E s := by
  refine callType_new F.called_enumerate (by decide) (F.typeCall_enumerate_1 _) (F.newCall_enumerate_1 _) (fun obj => F.args_object_init_2 obj _) F.entry_enumerate_new
    (tk_enumerate_new1 B) ⟨h1, ?_⟩
  have hz : (s.heap.push o).objs.size = s.heap.objs.size + 1 := Heap.size_push ..
  show _ ∧ _
  rw [hz]
  have he : IsEnum ((s.heap.push o).push { cls := .type "enumerate", data := .fields #[.none, .bool false, .ref s.heap.objs.size, rawInt 0, .none, .none] }) (s.heap.objs.size + 1) s.heap.objs.size 0 .none := by
    have := Heap.get?_push_size (s.heap.push o) (o := { cls := .type "enumerate", data := .fields #[.none, .bool false, .ref s.heap.objs.size, rawInt 0, .none, .none] }) rfl
    rw [hz] at this; exact this
  refine ⟨⟨_, he, rfl⟩, h _ he (Heap.get?_push_of_some _ (Heap.get?_push_size _ B.free)) (by rw [Heap.size_push, hz]) fun b o x => Heap.get?_push_of_some _ (Heap.get?_push_of_some _ x)⟩
end PySem
namespace Tk
open PySem PySem.Spec PyProof.Rows L2
/-- the tuple at a as it stands at each turn, its items in new pairs with their places -/
def ItT (K : PySem.W.Frag) (a : Addr) : It :=
  ⟨fun i H => ∃ (xs : List V) (x : V), SqT K H a xs ∧ xs[i]? = some x, fun i H v H' => ∃ T x, v = .ref T ∧ H T = none ∧ H' = upd H T (.tup [.int (i : Nat), x]) ∧ ∀ xs, SqT K H a xs → xs[i]? = some x, fun i H => ∃ xs : List V, SqT K H a xs ∧ xs.length ≤ i⟩
theorem turn_enumT {P : Program} {w : World} {K : PySem.W.Frag} {elts : List Expr} {kk : Nat} {tpos : Pos} (a e it : Addr) :
    Turn P w K (.Tuple elts kk tpos) (ItT K a) [e, it] e (fun i h => (∃ old, IsEnum h e it ((i : Nat) : Int) old) ∧ h.IsTupleIter it a i ∧ e ≠ it ∧ a ≠ it ∧ a ≠ e) where
  mem := by simp
  obj := fun i h st b hb => by
    obtain ⟨⟨old, he⟩, ⟨o, ho, hc, hd⟩, _⟩ := st
    have e' : b = e ∨ b = it := by simpa using hb
    rcases e' with z | z
    · rw [z]; exact ⟨_, he, fun v q => nomatch q⟩
    · rw [z]; exact ⟨o, ho, fun v q => by rw [hd] at q; cases q⟩
  keep := fun i h h' st k => let ⟨⟨old, he⟩, hi, hne⟩ := st; ⟨⟨old, k e (by simp) _ he⟩, hi.at fun o q => k it (by simp) o q, hne⟩
  item := by
    intro X hP hw hK hc i pins s σ H E I hf st hg
    subst hP hw hK
    obtain ⟨⟨old, he⟩, hit, hne, hai, hae⟩ := st
    obtain ⟨xs, x, hq, hx⟩ := hg
    obtain ⟨its, rv, p, hz⟩ := I.tuple hq
    obtain ⟨u, hu, ru⟩ := rv.get hx
    have hel : e < s.heap.objs.size := Heap.lt_size he
    have hil : it < s.heap.objs.size := by obtain ⟨_, q, _⟩ := hit; exact Heap.lt_size q
    have hlt : i < its.toArray.size := by
      have := (List.getElem?_eq_some_iff.mp hu).1
      simpa using this
    refine wpAny_pyNext_enum_itemD (Draws.tuple (A := X.A.in1) (I.ok.hd hc) it a hai its.toArray) he ⟨hit, show s.heap.IsTuple a its.toArray from p⟩ hlt hne (by simp [hne, Ne.symm hae]) fun x' h' tk hP ho hst' hT hsz hk => ?_
    have ex : x' = u := by
      have h1 : its.toArray[i]? = some u := by simpa using hu
      rw [h1] at hP
      exact (Option.some.inj hP).symm
    subst ex
    obtain ⟨hit', _⟩ := hst'
    refine ⟨_, rfl, wpAny_letOwnedTupleGo_enum (s := { s with heap := h', toks := tk + 1 }) ho fun h'' he' sb => ?_⟩
    have hT2 : h''.get? s.heap.objs.size = some { cls := .type "tuple", data := .seq #[.int i tk, x'] } := (sb.2 _ (Nat.ne_of_gt hel)).trans hT
    have new : ObjOk X.prog X.w (upd H s.heap.objs.size (.tup [.int (i : Nat), x])) h'' s.heap.objs.size (.tup [.int (i : Nat), x]) :=
      ⟨by show 2 ≤ sizeLine; decide, [.int i tk, x'], .cons ⟨_, rfl⟩ (.cons ru .nil), ⟨_, hT2, rfl, _, rfl⟩⟩
    have I1 : Inv X pins σ (upd H s.heap.objs.size (.tup [.int (i : Nat), x])) { s with heap := h'', toks := tk + 1 } :=
      I.turnedNew (ch := [e, it]) (fun b ob hb q => (sb.2 b (fun z => hb (by simp [z]))).trans (hk b ob (fun z => hb (by simp [z])) (fun z => hb (by simp [z])) q)) hf (Nat.le_refl _) new
    refine ⟨.ref s.heap.objs.size, _, I1, rfl, ⟨_, x, rfl, I.hok.fresh (Nat.le_refl _), rfl, fun ys hy => by rw [I.tuple_inj hy hq]; exact hx⟩, ⟨⟨x', ?_⟩, hit'.at fun o q => (sb.2 it (Ne.symm hne)).trans q, hne, hai, hae⟩, fun b hb => ?_⟩
    · have e1 : ((i + 1 : Nat) : Int) = (i : Int) + 1 := by omega
      rw [e1]; exact he'
    · have hb' : b < s.heap.objs.size := by
        have e' : b = e ∨ b = it := by simpa using hb
        rcases e' with z | z
        · rw [z]; exact hel
        · rw [z]; exact hil
      rw [upd_ne (Nat.ne_of_lt hb')]
      exact (hf b hb).1
  done := by
    intro X hP hw hK hc i pins s σ H E I hf st hg
    subst hP hw hK
    obtain ⟨⟨old, he⟩, hit, hne, hai, hae⟩ := st
    obtain ⟨xs, hq, hx⟩ := hg
    obtain ⟨its, rv, p, hz⟩ := I.tuple hq
    obtain ⟨f0, f1, f2, f3, f4, f5⟩ := hf it (by simp)
    have hl := rv.length
    have hT : s.TypeIs (.ref e) "enumerate" := ⟨_, he, rfl⟩
    unfold pyNext
    refine wpAny_bind (wpAny_attempt (wpAny_callSpecial?_slot (name := Str.ofString "__next__") hT PySem.F.slot_enumerate_next
      (wpAny_call_entry PySem.F.slot_enumerate_next hT PySem.F.entry_enumerate_next ?_ (PySem.F.args_enumerate_next_1 _))))
    show wpAny _ _ (field (.ref e) 2 >>= _) _ _ _
    refine wpAny_bind (wpAny_field he rfl (x := .ref it) rfl ?_)
    refine wpAny_bind (wpAny_nextOf_tuple_end (I.ok.hd hc) hit (show s.heap.IsTuple a its.toArray from p) (by simp; omega) fun h' x he' hx' => ?_)
    obtain ⟨o, ho, hc'⟩ := hx'
    refine wpAny_bind (wpAny_isInstance (T := "StopIteration") (b := true) ⟨o, ho, hc'⟩ isSubtype_stop ?_)
    exact wpAny_pure ⟨rfl, I.turned (t' := s.toks) (fun b o hb q => he' b o hb q) f0 f1 f3 f4 f5⟩
  self := fun A i s Q E st h => let ⟨⟨_, he⟩, _⟩ := st; wpAny_pyIter_enum he h
def iEnumT (K : PySem.W.Frag) (ta : TA) : TI := fun σ H R => ta σ H fun vs H1 => ∃ a xs, vs = [.ref a] ∧ SqT K H1 a xs ∧ R (ItT K a) H1
theorem pi_enumT {X : Cx} {e : Expr} {ta : TA} {p pos tpos : Pos} {elts : List Expr} {kk : Nat} (hg : Gl X "enumerate") (hm : X.mg "enumerate" = none) (ha : PA X [e] ta) (hs : starEach [e] X.env = [(false, eval e X.env)] := by rfl) :
    PI X (.Tuple elts kk tpos) (.Call (.Name "enumerate" p) [e] [] pos) (iEnumT X.K ta) := by
  refine ⟨fun pins s σ H R I h => ?_⟩
  refine Call_ (ld_blt I hg hm boot_enumerate (PyProof.Rows.callWith_type1 (thn (ha.run pos pins s σ H _ I h) fun us s1 ⟨vs, H1, I1, r1, q1⟩ => ?_) hs rfl))
  obtain ⟨a, xs, ex, hq, q⟩ := q1
  subst ex
  cases r1 with
  | cons r rr =>
    cases rr
    cases r
    obtain ⟨its, rv, p', hz⟩ := I1.tuple hq
    have hal : a < s1.heap.objs.size := p'.lt
    refine tk_call_enumerate (begins_tuple a its.toArray) (show s1.heap.IsTuple a its.toArray from p') fun h' he hit hsz hk => wpAny_pyIter_enum he ?_
    have I2 : Inv X pins σ H1 { s1 with heap := h' } := I1.kept (t' := s1.toks) hk
    refine ⟨s1.heap.objs.size + 1, [s1.heap.objs.size + 1, s1.heap.objs.size], _, _, H1, rfl, I2, turn_enumT a (s1.heap.objs.size + 1) s1.heap.objs.size,
      ⟨⟨.none, he⟩, ⟨_, hit, rfl, rfl⟩, Nat.succ_ne_self _, Nat.ne_of_lt hal, Nat.ne_of_lt (Nat.lt_succ_of_lt hal)⟩, fun b hb => ?_, q⟩
    have e' : b = s1.heap.objs.size + 1 ∨ b = s1.heap.objs.size := by simpa using hb
    have hle : s1.heap.objs.size ≤ b := by
      rcases e' with z | z
      · rw [z]; exact Nat.le_add_right _ _
      · rw [z]; exact Nat.le_refl _
    exact I1.fpOk hle (I1.hok.fresh hle)
end Tk
/-! < of data; sorted of a list that reads as data -/
namespace Tk
open PySem PySem.Spec PyProof.Rows L2
section
variable {X : Cx}
def rLtD (K : PySem.W.Frag) : R2 := fun x y H Q => ∃ d e, Dp K H x d ∧ Dp K H y e ∧ PySem.W.alike d e = true ∧ d ≠ .none ∧ d.depth ≤ 60 ∧ Q (.bl (PySem.W.dataLt d e)) H
theorem op_ltD (hu : X.A.units + 64 < cLine) : OpR X (compareOp .Lt) (rLtD X.K) := by
  intro pins s σ H x y v u Q I rx ry h
  obtain ⟨d, e, hd, he, ha, hn, hz, q⟩ := h
  obtain ⟨as, r1⟩ := Dp.reads I d x v hd rx
  obtain ⟨bs, r2⟩ := Dp.reads I e y u he ry
  have hm : min d.depth e.depth ≤ 60 := Nat.le_trans (Nat.min_le_left _ _) hz
  exact PySem.W.rcLt_alike d e X.A s v u as bs r1 r2 ha hn (by omega) _ _ _ _ ⟨.bl _, H, I, rfl, q⟩
/-- what an item stands for -/
def RvD (H : Hp) (u : Value) (d : PyData) : Prop := ∃ v, RelV v u ∧ Im H v d
theorem rvd_of {H : Hp} : ∀ {vs : List V} {us : List Value} {ds : List PyData}, Vals vs us → Ims H vs ds → PySem.W.EachIs (RvD H) us ds
  | _, _, _, .nil, .nil => .nil
  | _, _, _, .cons r rr, .cons h t => .cons ⟨_, r, h⟩ (rvd_of rr t)
theorem rvd_back {H : Hp} : ∀ {us : List Value} {ds : List PyData}, PySem.W.EachIs (RvD H) us ds → ∃ vs, Vals vs us ∧ Ims H vs ds
  | _, _, .nil => ⟨[], .nil, .nil⟩
  | _, _, .cons ⟨v, r, h⟩ t => by
    obtain ⟨vs, rr, hh⟩ := rvd_back t
    exact ⟨v :: vs, .cons r rr, .cons h hh⟩
def rSortedD (K : PySem.W.Frag) : List V → Hp → VK → Prop := fun xs H Q => ∃ (a : Addr) (vs : List V) (ds : List PyData), xs = [.ref a] ∧ SqL K H a vs ∧ Ims H vs ds ∧ PySem.W.AllAlike ds ∧ PySem.W.Sortable ds ∧ (∀ d ∈ ds, d.depth ≤ 40) ∧
  ∀ p ws, H p = none → Ims H ws (ds.mergeSort (PySem.W.dataLe false id)) → Q (.ref p) (upd H p (.lst ws))
theorem cr_sortedD (hu : X.A.units + 64 < cLine) : CallR X (.builtin "sorted") (rSortedD X.K) := by
  intro pins s σ H vs us Q I r h
  obtain ⟨a, ws, ds, rfl, hs, hi, hal, hk, hd, q⟩ := h
  obtain ⟨its, rv, hl, hz⟩ := I.list hs
  rw [Vals.ref1 r]
  have e1 : PySem.W.EachIs (RvD H) its ds := rvd_of rv hi
  have e2 : PySem.W.EachIs (fun v b => ∃ as, Reads s.heap v (id b) as) its ds := e1.mono fun u d ⟨v, rr, hh⟩ => Dp.reads I d v u (Im.dp hh) rr
  have lens : ds.length = ws.length := (Ims.len hi).symm
  refine PySem.W.sorted_data (enc := id) hl.isList e1 e2 (by rw [List.map_id]; exact hal) (by rw [List.map_id]; exact hk) (by rw [lens]; exact hz) (fun b hb => ?_) fun out h1 h2 => ?_
  · have := hd b hb
    show X.A.units + 2 + b.depth < cLine
    omega
  obtain ⟨zs, hv, hm⟩ := rvd_back h2
  obtain ⟨ep, he'⟩ := PyProof.Rows.sortedAll_at s.heap its out.toArray
  have hlen : zs.length ≤ sizeLine := by
    rw [Vals.length hv, h1, lens]; exact hz
  have hn : H (s.heap.objs.size + 1) = none := I.hok.fresh (Nat.le_succ _)
  exact ⟨.ref _, upd H (s.heap.objs.size + 1) (.lst zs), I.laid (t' := s.toks) (fun _ _ => PyProof.Rows.sortedAll_old) (Nat.le_succ _) ⟨hlen, out, ep, hv, he'⟩, rfl, q _ zs hn hm⟩
end
end Tk
/-! sorted of a text -/
namespace Tk
open PySem PySem.Spec PyProof.Rows L2
section
variable {X : Cx}
/-- the signs of a text -/
def sgn (c : Nat) : PyData := .str ⟨#[c]⟩
theorem rvd_signs {H : Hp} {x : Str} : ∀ {us : List Value} {cs : List Nat}, us.length = cs.length → (∀ (j : Nat) (v : Value), us[j]? = some v → ∃ (c : Nat) (u : Tok), cs[j]? = some c ∧ v = Value.str ⟨#[c]⟩ u) → PySem.W.EachIs (RvD H) us (cs.map sgn)
  | [], [], _, _ => .nil
  | u :: us, c :: cs, hl, h => by
    obtain ⟨c', t, e1, e2⟩ := h 0 u rfl
    have e1' : c = c' := Option.some.inj e1
    subst e1'
    refine .cons ⟨.str ⟨#[c]⟩, ⟨t, e2⟩, .str _⟩ (rvd_signs (x := x) (by simpa using hl) fun j v e => ?_)
    obtain ⟨c', t', a, b⟩ := h (j + 1) v (by simpa using e)
    exact ⟨c', t', by simpa using a, b⟩
  | [], _ :: _, hl, _ => by simp at hl
  | _ :: _, [], hl, _ => by simp at hl
theorem alike_signs (cs : List Nat) : PySem.W.AllAlike (cs.map sgn) := PySem.W.AllAlike.of fun _ _ => rfl
theorem sortable_signs (cs : List Nat) : PySem.W.Sortable (cs.map sgn) := PySem.W.Sortable.others fun b => ⟨(by intro h; cases h), fun xs => by intro h; cases h⟩
def rSortedS : List V → Hp → VK → Prop := fun xs H Q => ∃ x : Str, xs = [.str x] ∧ x.cps.size ≤ 1000 ∧
  ∀ p ws, H p = none → Ims H ws ((x.cps.toList.map sgn).mergeSort (PySem.W.dataLe false id)) → Q (.ref p) (upd H p (.lst ws))
theorem cr_sortedS (hcalm : X.calm = true) (hu : X.A.units + 64 < cLine) : CallR X (.builtin "sorted") rSortedS := by
  intro pins s σ H vs us Q I r h
  obtain ⟨x, rfl, hsz, q⟩ := h
  obtain ⟨u, rfl, ru⟩ := vals1 r
  obtain ⟨t, rfl⟩ := ru
  have hS : x.cps.size ≤ sizeLine := by rw [sizeLine_eq]; omega
  refine Calls.call_function_entry PyProof.Rows.kind_sorted PyProof.Rows.plain_sorted PyProof.Rows.entry_sorted (PyProof.Rows.args_sorted1 _) ?_
  unfold Builtin.«sorted»
  refine wpAny_bind (m := checkCount "sorted" 1 1 _) (wpAny_pure ?_)
  refine wpAny_bind (wpAny_collect_str (A := X.A.in1) (I.ok.hd hcalm) x t (fun s' acc hk hg hdr hos hacc => ?_) hS)
  obtain ⟨h', g', d', tk', os'⟩ := s'
  obtain rfl : g' = s.gens := hg
  obtain rfl : d' = s.drawn := hdr
  obtain rfl : os' = s.os := hos
  have I1 : Inv X pins σ H { s with heap := h', toks := tk' } := I.kept hk
  have hal : acc.toList.length = x.cps.toList.length := by rw [Array.length_toList, Array.length_toList]; exact hacc.1
  have e1 : PySem.W.EachIs (RvD H) acc.toList (x.cps.toList.map sgn) := rvd_signs (x := x) hal fun j v e => by
    obtain ⟨c, u, e1, e2⟩ := hacc.2 j v (by rw [← Array.getElem?_toList]; exact e)
    exact ⟨c, u, by rw [Array.getElem?_toList]; exact e1, e2⟩
  have hLn : acc.toList.length ≤ sizeLine := by rw [hal, Array.length_toList]; exact hS
  refine wpAny_bind (wpAny_newList ?_ hLn)
  have hoL : (h'.push (seqObj "list" acc.toList.toArray 0)).get? h'.objs.size = some (seqObj "list" acc.toList.toArray 0) := Heap.get?_push_size _ rfl
  show wpAny _ _ _ _ _ { s with heap := h'.push (seqObj "list" acc.toList.toArray 0), toks := tk' }
  have er' : PySem.W.EachIs (fun v b => ∃ as, Reads (PySem.W.sortingHeap (h'.push (seqObj "list" acc.toList.toArray 0)) h'.objs.size acc.toList) v (id b) as) acc.toList (x.cps.toList.map sgn) :=
    e1.mono fun u d ⟨v, rr, hh⟩ => by
      obtain ⟨as, r1⟩ := Dp.reads I1 _ _ _ (Im.dp hh) rr
      exact ⟨as, PyProof.Rows.Reads.keeps (fun b o e => PySem.W.sortingHeap_old (Nat.ne_of_lt (Heap.lt_size e)) (Heap.get?_push_of_some _ e)) r1⟩
  have hal2 : PySem.W.AllAlike ((x.cps.toList.map sgn).map id) := by rw [List.map_id]; exact alike_signs _
  refine wpAny_bind (wpAny_holding (wpAny_call_entry PyProof.Rows.slot_list_sort ⟨_, hoL, rfl⟩ PyProof.Rows.entry_list_sort
    (PySem.W.list_sort_vals (κ := PySem.W.dataKind (PySem.W.sortingHeap (h'.push (seqObj "list" acc.toList.toArray 0)) h'.objs.size acc.toList) ((x.cps.toList.map sgn).map id)) (s := { s with heap := h'.push (seqObj "list" acc.toList.toArray 0), toks := tk' }) hoL
      (PySem.W.SortsAt.data (s := { s with heap := PySem.W.sortingHeap (h'.push (seqObj "list" acc.toList.toArray 0)) h'.objs.size acc.toList, toks := tk' }) (PySem.W.each_map (R := fun v d => ∃ as, Reads (PySem.W.sortingHeap (h'.push (seqObj "list" acc.toList.toArray 0)) h'.objs.size acc.toList) v d as) id er') hal2 (by rw [List.map_id]; exact sortable_signs _) (fun d hd => ?_)) hLn ⟨_, rfl, ?_⟩)
    (PyProof.Rows.args_list_sort _)))
  · rw [List.map_id] at hd
    obtain ⟨c, _, rfl⟩ := List.mem_map.mp hd
    show X.A.units + 1 + 1 + (sgn c).depth < cLine
    have e0 : (sgn c).depth = 0 := by unfold sgn; simp [PyData.depth]
    omega
  · have e2 := PySem.W.sortVals_data (enc := id) false e1 er' hal2
    obtain ⟨zs, hv, hm⟩ := rvd_back e2
    obtain ⟨ep, he'⟩ := PyProof.Rows.sortedHeap_at (vs := acc.toList) (out := (PySem.W.sortVals (PySem.W.dataKind (PySem.W.sortingHeap (h'.push (seqObj "list" acc.toList.toArray 0)) h'.objs.size acc.toList) ((x.cps.toList.map sgn).map id)) false acc.toList acc.toList).toArray) hoL
    have hlen : zs.length ≤ sizeLine := by
      rw [Vals.length hv, e2.length, List.length_mergeSort, List.length_map, Array.length_toList]; exact hS
    have hn : H h'.objs.size = none := I1.hok.fresh (Nat.le_refl _)
    refine wpAny_pure ⟨_, rfl, .ref h'.objs.size, upd H h'.objs.size (.lst zs), I1.laid (t' := tk') (fun b u e => ?_) (Nat.le_refl _) (show ObjOk X.prog X.w _ _ _ (.lst zs) from ⟨hlen, _, ep, hv, he'⟩), rfl, q _ zs hn hm⟩
    have hb : b < h'.objs.size := Heap.lt_size e
    rw [PyProof.Rows.sortedHeap_old (Nat.ne_of_lt hb) (by rw [size_push']; exact Nat.lt_succ_of_lt hb)]
    exact Heap.get?_push_of_some _ e
end
end Tk
/-! {k: v}, the key a tuple -/
namespace Tk
open PySem PySem.Spec PyProof.Rows L2
def tDispT (tk tv : TE) : TE := fun σ H Q => ∀ p, H p = none → tk σ (upd H p (.dT [])) fun x H1 => tv σ H1 fun y H2 => H2 p = some (.dT []) ∧ ∃ b, ∃ k : List Key, x = .ref b ∧ H2 b = some (.tup (k.map kV)) ∧ Q (.ref p) (upd H2 p (.dT [(k, y)]))
theorem pe_dispT {X : Cx} {pos : Pos} {k v : Expr} {tk tv : TE} (hu : X.A.units + 1 < cLine) (hk : PE X k tk) (hv : PE X v tv) : PE X (.Dict [some k] [v] pos) (tDispT tk tv) := by
  refine ⟨fun pins s σ H Q I q => ?_⟩
  have hn := I.hok.fresh (Nat.le_refl s.heap.objs.size)
  have I1 := I.laid (a := s.heap.objs.size) (o := .dT []) (h' := s.heap.push { cls := .type "dict", data := .dict #[] }) (t' := s.toks) (fun _ _ q => Heap.get?_push_of_some _ q) (Nat.le_refl _) (dt_empty s.heap I.big)
  have q0 := q _ hn
  have ne : pairTrees [some k] [v] X.env pos ≠ [] := by
    intro e
    have := pairTrees_length [some k] [v] X.env pos rfl rfl
    rw [e] at this
    simp at this
  rw [arm_eval_Dict, zip_pairTrees [some k] [v] X.env pos rfl rfl, dictDisplay_pairs (pairTrees [some k] [v] X.env pos) ne (by rw [pairTrees_length [some k] [v] X.env pos rfl rfl]; simp)]
  refine wpAny_bind (wpAny_standAt (wpAny_bind (wpAny_subDictH (knd := tupleKind (mixKind X.prog X.w)) (show X.A.units < cLine from Nat.lt_of_succ_lt hu) (by rw [pairTrees_length [some k] [v] X.env pos rfl rfl]; simp) ?_)))
  refine pairTrees_cons_walk (thn (hk.run pins _ σ _ _ I1 q0) fun u s1 ⟨x, H1, I2, rx, q1⟩ => thn (hv.run pins s1 σ H1 _ I2 q1) fun w2 s2 ⟨y, H2, I3, ry, e, b, kk, ex, eb, q2⟩ => pairTrees_nil_walk ?_)
  subst ex
  cases (show u = Value.ref b from rx)
  obtain ⟨z, hd, xs, rel, dd⟩ := dt_of I3.hok e
  cases rel
  refine ⟨[(kk, b, w2)], ⟨rfl, rfl, key_of I3.hok eb, True.intro⟩, dd, fun h' tk dd' hs => wpAny_pure ?_⟩
  refine ⟨.ref s.heap.objs.size, _, ?_, rfl, q2⟩
  have dd2 : h'.DictOfH (tupleKind (mixKind X.prog X.w)) s.heap.objs.size [(kk, b, w2)] := dd'
  obtain ⟨qo, es, ep, hq, h2, h3, h4, _, h5⟩ := dd2
  have nb : b ≠ s.heap.objs.size := ne_of eb e (fun z => nomatch z)
  refine d_write I3 (by rw [e]; exact True.intro) hs ⟨qo, hq⟩ ⟨by show 1 ≤ sizeLine; decide, hd, [(kk, b, w2)], .cons ⟨rfl, ?_, ry⟩ .nil, qo, es, ep, hq, h2, h3, h4, h5⟩
  show upd H2 s.heap.objs.size (.dT [(kk, y)]) b = some (.tup (kk.map kV))
  rw [upd_ne nb]; exact eb
end Tk
/-! set(xs), xs a list of ints; powers of great bases -/
namespace L2
open PySem PySem.Spec PyProof.Rows
section
variable {P : Program} {w : World} {A : Around} {E : Value → Shared → Prop} {s : Shared}
set_option maxHeartbeats 3200000 in
theorem tk_set_list {l : Addr} {items : Array Value} (ns : List Int) {Q : Value → Shared → Prop} (hh : A.handled = none) (hl : s.heap.IsList l items) (hit : IntsAre items.toList ns) (hb : ns.length + 1 < scanBound)
    (h : ∀ (h' : Heap) (tk c : Nat), SetR w h' s.heap.objs.size (fun j => decide (j ∈ ns)) c → c ≤ ns.length → (∀ b o, s.heap.get? b = some o → h'.get? b = some o) → Q (.ref s.heap.objs.size) { s with heap := h', toks := tk }) :
    wpAny (model P w) A (call (.type "set") [.ref l]) Q E s := by
  have hisz : items.size = ns.length := by
    have q := IntsAre.length hit
    rw [Array.length_toList] at q
    exact q
  obtain ⟨c, tl, hmro⟩ := F.called_set.mro
  have hmade := F.called_set.made
  have hsub := F.called_set.sub
  refine wpAny_call (codeAny_of_tree ?_)
  show wpAny _ _ (callAny (.type "set") _) _ _ _
  refine wpAny_pure ⟨Code.quiet_builtin _ (by decide +kernel), codeAny_builtin F.entry_type_call ?_⟩
  rw [Around.under_plain (weight_type_call_type "set" [.ref l] []) rfl]
  have h1 := F.called_set.notType
  have h2 := F.called_set.canCreate
  have hct := F.typeCall_set_1 (.ref l)
  repeat (any_goals (first | assumption | wp_step))

  refine codeAny_mono (code_set_led1 (.ref l) (E := E) (Q₁ := fun obj s₁ => obj = .ref s.heap.objs.size ∧ s₁ = { s with heap := s.heap.push { cls := .type "set", dict := none, data := .set #[] 0 (.fresh 0 0 (!w.params.followText "set-order")) } }) ⟨rfl, rfl⟩) fun r s₁ hr => ?_
  cases r with
  | error e => exact hr
  | ok fl =>
    cases fl with
    | ret obj =>
      obtain ⟨rfl, rfl⟩ := hr
      have hS : (s.heap.push { cls := .type "set", dict := none, data := .set #[] 0 (.fresh 0 0 (!w.params.followText "set-order")) }).get? s.heap.objs.size = some { cls := .type "set", dict := none, data := .set #[] 0 (.fresh 0 0 (!w.params.followText "set-order")) } := Heap.get?_push_size _ rfl
      have hT : Shared.TypeIs { s with heap := s.heap.push { cls := .type "set", dict := none, data := .set #[] 0 (.fresh 0 0 (!w.params.followText "set-order")) } } (.ref s.heap.objs.size) "set" := ⟨_, hS, rfl⟩
      have hli := F.called_set.init.lookup
      have hbi := F.called_set.init.bind (.ref s.heap.objs.size)
      repeat (any_goals (first | assumption | wp_step))

      refine codeAny_mono (codeAny_call_builtin (R := wants (fun r s₂ => r = .none ∧ ∃ h' tk c, s₂ = { s with heap := h', toks := tk } ∧ SetR w h' s.heap.objs.size (fun j => decide (j ∈ ns)) c ∧ c ≤ ns.length ∧
          (∀ b o, s.heap.get? b = some o → h'.get? b = some o)) E) F.called_set.init.plain F.entry_set_init (check_set_init_1 hT ?_)) fun r₂ s₂ hr₂ => ?_
      · obtain ⟨ol, hol, hcl, nl, hdl⟩ := hl
        obtain ⟨ocls, odict, odata, oslots⟩ := ol
        simp only at hcl hdl
        subst hcl; subst hdl
        have hol' : (s.heap.push { cls := .type "set", dict := none, data := .set #[] 0 (.fresh 0 0 (!w.params.followText "set-order")) }).get? l = some { cls := .type "list", dict := odict, data := .seq items nl, slots := oslots } := Heap.get?_push_of_some _ hol
        have hsls := PySem.F.sub_list_set
        have hslf := PySem.F.sub_list_frozenset
        have hne : (Value.type "list" == Value.type "dict") = false := by decide
        have hl1 : (s.heap.push { cls := .type "set", dict := none, data := .set #[] 0 (.fresh 0 0 (!w.params.followText "set-order")) }).IsList l items := ⟨_, hol', rfl, nl, rfl⟩
        unfold Builtin.«set.__init__» noKeywords Builtin.Frozenset.updateFrom
        generalize hPI : pyIter = PI
        wp_walk
        subst hPI

        refine wpAny_pyIter_list hl1 ?_
        refine wpAny_bind (wpAny_runValue ?_)
        have hlS : l < s.heap.objs.size := Heap.lt_size hol
        have hh3 : A.in1.in1.in1.handled = none := by simp [hh]
        have hz1 : (s.heap.push { cls := .type "set", dict := none, data := .set #[] 0 (.fresh 0 0 (!w.params.followText "set-order")) }).objs.size = s.heap.objs.size + 1 := Heap.size_push ..
        have hneI : l ≠ (s.heap.push { cls := .type "set", dict := none, data := .set #[] 0 (.fresh 0 0 (!w.params.followText "set-order")) }).objs.size := by
          rw [Heap.size_push]; exact Nat.ne_of_lt (Nat.lt_succ_of_lt hlS)
        have hSf : s.heap.objs.size ∉ [(s.heap.push { cls := .type "set", dict := none, data := .set #[] 0 (.fresh 0 0 (!w.params.followText "set-order")) }).objs.size, l] := by
          rw [Heap.size_push]; simp only [List.mem_cons, List.mem_singleton, List.not_mem_nil, or_false, not_or]
          exact ⟨Nat.ne_of_lt (Nat.lt_succ_self _), Nat.ne_of_gt hlS⟩
        have hval : ∀ (i : Nat) (v : Value), items[i]? = some v → ∃ k t, ns[i]? = some k ∧ v = .int k t := fun i v hv => by
          have hi : i < ns.length := by rw [← hisz]; exact (Array.getElem?_eq_some_iff.mp hv).1
          obtain ⟨t, e⟩ := PyProof.Rows.IntsAre.int_at hit i v (by rw [Array.getElem?_toList]; exact hv)
          refine ⟨ns[i], t, List.getElem?_eq_getElem hi, ?_⟩
          rw [e, List.getD_eq_getElem?_getD, List.getElem?_eq_getElem hi] <;> rfl
        refine set_update_ints ((Walks.list hh3 _ l hneI items).toS) s.heap.objs.size
          hSf ns hisz hb hval (items.size - 0) 0 _ (by omega) (Nat.zero_le _)
          ⟨⟨_, Heap.get?_push_size _ rfl, rfl, rfl⟩, (hl1.push _)⟩ ?hS0 ?hR
        case hS0 =>
          have hget : ((s.heap.push { cls := .type "set", dict := none, data := .set #[] 0 (.fresh 0 0 (!w.params.followText "set-order")) }).push { cls := .type "list_iterator", data := .fields #[.ref l, .int 0 0] }).get? s.heap.objs.size
              = some { cls := .type "set", dict := none, data := .set #[] 0 (.fresh 0 0 (!w.params.followText "set-order")) } := Heap.get?_push_of_some _ hS
          exact ⟨0, Nat.le_refl 0, setR_new_at hget⟩
        case hR =>
          intro s' c' hm hc' hS'
          obtain ⟨h', g2, d', tk', os'⟩ := s'
          have eg : g2 = s.gens := hm.gens
          have ed : d' = s.drawn := hm.drawn
          have eo : os' = s.os := hm.os
          subst eg; subst ed; subst eo
          show wpAny _ _ _ _ _ _
          refine wpAny_pure ?_
          show wpAny _ _ (ret Value.none) _ _ _
          rw [hisz] at hc'
          refine wpAny_pure ⟨rfl, h', tk', c', rfl, hS', hc', fun b o e => ?_⟩
          have hb0 : b < s.heap.objs.size := Heap.lt_size e
          have hb1 : b ≠ s.heap.objs.size := Nat.ne_of_lt hb0
          have hb2 : b ≠ (s.heap.push { cls := .type "set", dict := none, data := .set #[] 0 (.fresh 0 0 (!w.params.followText "set-order")) }).objs.size := by
            rw [Heap.size_push]; exact Nat.ne_of_lt (Nat.lt_succ_of_lt hb0)
          exact hm.heap b o (by simp only [List.mem_cons, List.mem_singleton, List.not_mem_nil, or_false, not_or]; exact ⟨hb1, hb2⟩) (Heap.get?_push_of_some _ (Heap.get?_push_of_some _ e))

      · cases r₂ with
        | error e => exact hr₂
        | ok fl₂ =>
          cases fl₂ with
          | ret r =>
            obtain ⟨rfl, h', tk, c', rfl, hS', hc', hk'⟩ := hr₂
            repeat (any_goals (first | assumption | wp_step))
            exact h _ _ _ hS' hc' hk'
          | _ => exact hr₂.elim
    | _ => exact hr.elim

end
end L2
namespace Tk
open PySem PySem.Spec PyProof.Rows L2
section
variable {X : Cx}
def rSetL (K : PySem.W.Frag) (w : World) : List V → Hp → VK → Prop := fun xs H Q => ∃ (a : Addr) (ns : List Int), xs = [.ref a] ∧ SqL K H a (ns.map V.int) ∧ ns.length ≤ 1000 ∧
  ∀ p c, H p = none → c ≤ ns.length → Q (.ref p) (upd H p (SetO w p (fun j => decide (j ∈ ns)) c))
theorem cr_setL (hc : X.calm = true) : CallR X (.type "set") (rSetL X.K X.w) := by
  intro pins s σ H vs us Q I r h
  obtain ⟨a, ns, rfl, hs, hn, q⟩ := h
  obtain ⟨its, rv, hl, hz⟩ := I.list hs
  rw [Vals.ref1 r]
  refine L2.tk_set_list ns (I.ok.hd hc) hl.isList (by simpa using rv.ints) (by unfold scanBound; omega) fun h' tk c hS hc' hk => ?_
  have hf : H s.heap.objs.size = none := I.hok.fresh (Nat.le_refl _)
  exact ⟨.ref _, _, I.laid (t' := tk) hk (Nat.le_refl _) (setO_new hS), rfl, q _ c hf hc'⟩
theorem op_powB : OpR X (binaryOp .Pow) (rI (fun i j => 0 ≤ j ∧ (Builtin.Int.intBits i : Int) * j ≤ 2 ^ 27) fun i j => .int (i ^ j.toNat)) := opI fun _ _ _ _ _ _ _ hc q => PyProof.Rows.pow_int hc.1 hc.2 q
end
end Tk
/-! isinstance over data -/
namespace Tk
open PySem PySem.Spec PyProof.Rows L2
def dtn : PyData → String
  | .none => "NoneType"
  | .bool _ => "bool"
  | .int _ => "int"
  | .str _ => "str"
  | .list _ => "list"
  | .tuple _ => "tuple"
  | .dict _ => "dict"
theorem Im.ty {K : PySem.W.Frag} {H : Hp} {v : V} {d : PyData} (h : Im H v d) : TyX K H v (.type (dtn d)) := by
  cases h with
  | non => exact .base .non
  | bl b => exact .base (.bl b)
  | int i => exact .base (.int i)
  | str x => exact .base (.str x)
  | tup e _ => exact .base (.tup e)
  | lst e _ => exact .base (.lst e)
def isI : PyData → Bool
  | .bool _ => true
  | .int _ => true
  | _ => false
def isB : PyData → Bool
  | .bool _ => true
  | _ => false
def isS : PyData → Bool
  | .str _ => true
  | _ => false
def isTu : PyData → Bool
  | .tuple _ => true
  | _ => false
def isLi : PyData → Bool
  | .list _ => true
  | _ => false
theorem kit_I (d : PyData) : kitB (dtn d) "int" = some (isI d) := by
  cases d with
  | none => exact (by decide +kernel : kitB "NoneType" "int" = some false)
  | bool _ => exact (by decide +kernel : kitB "bool" "int" = some true)
  | int _ => exact (by decide +kernel : kitB "int" "int" = some true)
  | str _ => exact (by decide +kernel : kitB "str" "int" = some false)
  | list _ => exact (by decide +kernel : kitB "list" "int" = some false)
  | tuple _ => exact (by decide +kernel : kitB "tuple" "int" = some false)
  | dict _ => exact (by decide +kernel : kitB "dict" "int" = some false)
theorem kit_B (d : PyData) : kitB (dtn d) "bool" = some (isB d) := by
  cases d with
  | none => exact (by decide +kernel : kitB "NoneType" "bool" = some false)
  | bool _ => exact (by decide +kernel : kitB "bool" "bool" = some true)
  | int _ => exact (by decide +kernel : kitB "int" "bool" = some false)
  | str _ => exact (by decide +kernel : kitB "str" "bool" = some false)
  | list _ => exact (by decide +kernel : kitB "list" "bool" = some false)
  | tuple _ => exact (by decide +kernel : kitB "tuple" "bool" = some false)
  | dict _ => exact (by decide +kernel : kitB "dict" "bool" = some false)
theorem kit_S (d : PyData) : kitB (dtn d) "str" = some (isS d) := by
  cases d with
  | none => exact (by decide +kernel : kitB "NoneType" "str" = some false)
  | bool _ => exact (by decide +kernel : kitB "bool" "str" = some false)
  | int _ => exact (by decide +kernel : kitB "int" "str" = some false)
  | str _ => exact (by decide +kernel : kitB "str" "str" = some true)
  | list _ => exact (by decide +kernel : kitB "list" "str" = some false)
  | tuple _ => exact (by decide +kernel : kitB "tuple" "str" = some false)
  | dict _ => exact (by decide +kernel : kitB "dict" "str" = some false)
theorem kit_T (d : PyData) : kitB (dtn d) "tuple" = some (isTu d) := by
  cases d with
  | none => exact (by decide +kernel : kitB "NoneType" "tuple" = some false)
  | bool _ => exact (by decide +kernel : kitB "bool" "tuple" = some false)
  | int _ => exact (by decide +kernel : kitB "int" "tuple" = some false)
  | str _ => exact (by decide +kernel : kitB "str" "tuple" = some false)
  | list _ => exact (by decide +kernel : kitB "list" "tuple" = some false)
  | tuple _ => exact (by decide +kernel : kitB "tuple" "tuple" = some true)
  | dict _ => exact (by decide +kernel : kitB "dict" "tuple" = some false)
theorem kit_L (d : PyData) : kitB (dtn d) "list" = some (isLi d) := by
  cases d with
  | none => exact (by decide +kernel : kitB "NoneType" "list" = some false)
  | bool _ => exact (by decide +kernel : kitB "bool" "list" = some false)
  | int _ => exact (by decide +kernel : kitB "int" "list" = some false)
  | str _ => exact (by decide +kernel : kitB "str" "list" = some false)
  | list _ => exact (by decide +kernel : kitB "list" "list" = some true)
  | tuple _ => exact (by decide +kernel : kitB "tuple" "list" = some false)
  | dict _ => exact (by decide +kernel : kitB "dict" "list" = some false)
section
variable {X : Cx}
def rIs (n : String) (f : PyData → Bool) : List V → Hp → VK → Prop := fun xs H Q => ∃ x d, xs = [x, .ty n] ∧ Im H x d ∧ Q (.bl (f d)) H
theorem cr_is {n : String} {f : PyData → Bool} (hf : ∀ d, kitB (dtn d) n = some (f d)) : CallR X (.builtin "isinstance") (rIs n f) := by
  intro pins s σ H xs us Q I r h
  obtain ⟨x, d, rfl, hi, q⟩ := h
  exact call_isi pins s σ H _ us Q I r ⟨x, .ty n, .type (dtn d), .type n, f d, rfl, .ty n, hi.ty, kit_ty (hf d), q⟩
/-- isinstance(x, (list, tuple)), in either order -/
def rIs2 (n m : String) (f g : PyData → Bool) : List V → Hp → VK → Prop := fun xs H Q => ∃ x t d, xs = [x, .ref t] ∧ H t = some (.tup [.ty n, .ty m]) ∧ Im H x d ∧ Q (.bl (f d || g d)) H
theorem cr_is2 {n m : String} {f g : PyData → Bool} (hf : ∀ d, kitB (dtn d) n = some (f d)) (hg : ∀ d, kitB (dtn d) m = some (g d)) : CallR X (.builtin "isinstance") (rIs2 n m f g) := by
  intro pins s σ H xs us Q I r h
  obtain ⟨x, t, d, rfl, ht, hi, q⟩ := h
  refine call_isiT pins s σ H _ us Q I r ⟨x, t, [.ty n, .ty m], .type (dtn d), [.type n, .type m], f d || g d, rfl, ht, .cons (.ty n) (.cons (.ty m) .nil), hi.ty, ?_, q⟩
  refine kitAny_cons (kit_ty (hf d)) (fun e => ?_) (fun e => by rw [e]; rfl)
  rw [e]
  exact kitAny_cons (kit_ty (hg d)) (fun e => by rw [e]; exact kitAny_nil) (fun e => by rw [e]; rfl)
end
theorem nox {X : Cx} {ss : List Stmt} {t : TS} (h : PSs X ss t) : PSs X ss t := h
end Tk
/-! a def that is handed a nested function -/
namespace Tk
open PySem PySem.Spec PyProof.Rows L2 LamX NdefX
/-- the promise of a def at whose call the cells cl hold ws -/
structure FnC (P : Program) (w : World) (K : PySem.W.Frag) (mg : Str → Option Value) (base : Heap) (CX : CXT) (k : Nat) (f : Addr) (fd : FuncData) (ps fr : List Str) (sp : List (Str × Addr) → List (Option V) → Sp) : Prop where
  len : ∀ cl ws vs H Q E, sp cl ws vs H Q E → vs.length = ps.length
  run : ∀ (A : Around) (outer : List Env) (s : Shared) (H : Hp) (args : Args) (us : List Value) (vs : List V) (cl : List (Str × Addr)) (ws : List (Option V)) (Q : VK) (E : XK), Room k A → Env0 P w K mg base A outer s H → BindsTo s fd args (ps.zip us) → Vals vs us →
    CellsAt cl fr ws s.heap H → (∀ y c, cl.lookup y = some c → c ∉ frs outer) → sp cl ws vs H Q E → codeAny (model P w) A (.call (.ref f) args) (CR CX outer P w H s Q E) s
section
variable {P : Program} {w : World} {K : PySem.W.Frag} {mg : Str → Option Value} {base : Heap} {x qual : Str} {params : Arguments} {body : List Stmt} {scope : Scope} {dvs : List V} {kws : List (Str × V)} {f : Addr} {fd : FuncData}
theorem okC {CX : CXT} {N ps fr : List Str} {k : Nat} {sp : List (Str × Addr) → List (Option V) → Sp} (F : FunD K x qual params body scope dvs kws f fd) (S : FnScope N ps scope) (len : ∀ cl ws vs H Q E, sp cl ws vs H Q E → vs.length = ps.length)
    (hbody : ∀ (cdv : Value) (A : Around) (outer : List Env) (s : Shared) (H : Hp) (vs : List V) (cl : List (Str × Addr)) (ws : List (Option V)) (Q : VK) (E : XK), Room k (A.deeper (envOfC qual scope s.heap.objs.size f cdv)) → CellsAt cl fr ws s.heap H → (∀ y c, cl.lookup y = some c → c ∉ frs outer) → sp cl ws vs H Q E →
      ∃ t, PSs (cxOf CX P w K mg base N qual scope f cdv A outer s H E) body t ∧ t { nx := fun _ H' => Q .non H', rt := Q } (start N vs) H) : FnC P w K mg base CX (k + 1) f fd ps fr sp := by
  obtain ⟨oc, od, dV, kV, doc, pm, an, cdv, ct, osl, rfl, lk, hcd, _, _⟩ := F.ex
  refine ⟨len, fun A outer s H args us vs cl ws Q E hr e0 hb r hC hF hsp => ?_⟩
  have hl := len _ _ _ _ _ _ hsp
  have KX : K.In s.heap := e0.mod.kin.keeps fun b o e => (e0.bs b o e).1
  have lim : s.heap.NoLimit := e0.mod.nolimit.keeps fun b o e => (e0.bs b o e).1
  have kd : ∀ y ∈ ps.zip us, scope.names.lookup y.1 = some .local ∨ (scope.names.lookup y.1 = some .cell ∧ ((cellsFrom (s.heap.objs.size + 1) scope.names []).lookup y.1).isSome = true) := fun ⟨n, v⟩ hy =>
    (S.par n (List.of_mem_zip hy).1).elim .inl fun q => .inr ⟨q, PySem.W.cellsFrom_some _ _ _ (.inl q)⟩
  refine codeAny_call_function hr.depth (KX _ _ lk) rfl S.co S.gen rfl (PySem.W.codeRec_of KX hcd) (hb _ _ _ _ ?_)
  refine wpAny_newFunctionEnv_cells S.kind kd fun env he s1 x => ?_
  subst he
  refine ⟨lim.keeps x.toInCall.keep, codeAny_func ?_⟩
  obtain ⟨t, ht, hq⟩ := hbody cdv A outer s H vs cl ws Q E (hr.deeper _) hC hF hsp
  have I : Inv (cxOf CX P w K mg base N qual scope f cdv A outer s H E) [] (start N vs) H s1 := inv_start S hr.hd e0 hl r x
  refine wpAny_mono (ht.run [] s1 (start N vs) H _ I hq) (fun fl s' hs => ?_) fun e s' hs => hs
  cases fl with
  | ret u =>
    obtain ⟨v, σ', H', J, rv, q⟩ := hs
    exact ⟨v, H', J.os, J.bare, J.base, J.hok, rv, q⟩
  | next =>
    obtain ⟨σ', H', J, q⟩ := hs
    exact ⟨.non, H', J.os, J.bare, J.base, J.hok, rfl, q⟩
  | brk => exact hs.elim fun _ h => h.elim fun _ h => h.2.elim
  | cont => exact hs.elim fun _ h => h.elim fun _ h => h.2.elim
end
section
variable {X : Cx} {CX : CXT} {mk : Addr → NF} {cl : List (Str × Addr)} {ps fr : List Str} {js : List Nat} {i j k : Nat} {x : Str} {E : XK} {t : TA} {e : Expr} {es : List Expr} {p pos : Pos} {f : Addr} {fd : FuncData} {ds : List Value} {dvs : List V}
/-- at the def that made the function: it is handed on -/
theorem pe_callC {sp : List (Str × Addr) → List (Option V) → Sp} (F : FnC X.prog X.w X.K X.mg X.base CX k f fd ps fr sp) (cp : X.Ok → Caps X cl fr js) (hr : Room k X.A) (hg : Gl X x) (hm : X.mg x = some (.ref f)) (hk : PySem.W.keepIn X.K (.ref f) = true) (hb : Binds X.K fd ps []) (hx : Passes CX X E)
    (hfn : ∀ y, X.fn y = true) (ha : PA X (e :: es) t) (hdb : (x == ("__debug__" : Str)) = false := by decide) (he : starEach (e :: es) X.env = (false, eval e X.env) :: starEach es X.env := by rfl) (hpl : (backTo pos (starEach es X.env)).any (·.1) = false := by rfl) :
    PE X (.Call (.Name x p) (e :: es) [] pos) (fun σ H Q => t σ H fun vs H1 => sp cl (js.map (slotAt σ)) vs H1 Q E) := by
  refine ⟨fun pins s σ H Q I h => ?_⟩
  refine wpAny_Call_Name_kw (ld_glob I hg hm ?_ hdb)
  refine PySem.W.callWith_K (h₀ := X.base) I.ok.mod.kin hk (thn (ha.run pos pins s σ H _ I h) fun us s1 ⟨vs, H1, I1, r, q⟩ => ⟨I1.kIn, ?_⟩) he hpl
  have hl : (us ++ []).length = ps.length := by rw [List.append_nil, ← r.length]; exact F.len _ _ _ _ _ _ q
  have hB := hb s1 us I1.kIn hl
  rw [List.append_nil] at hB
  refine wpAny_call (codeAny_mono (F.run X.A X.stack s1 H1 ⟨us, []⟩ us vs cl _ Q E hr I1.env0 hB r (cells_of I1 (cp I1.ok)) (fun y c e hc => ?_) q) fun r s' hq => ?_)
  · have e1 := (cp I1.ok).sub y c e
    rcases List.mem_cons.mp (I1.stkSub c hc) with z | z
    · exact I1.cne y c e1 z
    · obtain ⟨_, o, ho, _⟩ := I1.ok.funs.mem z
      exact absurd (Heap.lt_size ho) (Nat.not_lt.mpr (I1.ok.cab y c (hfn y) e1))
  cases r with
  | error e => exact hx pins σ H1 s1 e s' I1 hq
  | ok fl =>
    cases fl with
    | ret u => exact I1.after hq
    | next => exact hq.elim
    | brk => exact hq.elim
    | cont => exact hq.elim
/-- the cells as they stood when the running def began stand still -/
theorem cells_still {ws : List (Option V)} {pins : List (Addr × Obj)} {σ : L2.St} {H : Hp} {s : Shared} (C : CellsAt cl fr ws X.s_0.heap X.H_0) (hF : ∀ y c, cl.lookup y = some c → c ∉ X.fs) (hex : X.ex = []) (I : Inv X pins σ H s) : CellsAt cl fr ws s.heap H :=
  C.later hF (fun y c e hb => by rw [hex] at hb; cases hb) I
/-- a call of the function that the def was handed -/
def tCallP (mk : Addr → NF) (ws : List (Option V)) (cl : List (Str × Addr)) (i : Nat) (sp : List (Option V) → Sp) (E : XK) (t : TA) : TE := fun σ H Q => ∃ f c', σ[i]? = some (some (.ref f)) ∧ (mk c').cl = cl ∧ H f = some (FnO f (mk c')) ∧
  t σ H fun vs H1 => H1 f = some (FnO f (mk c')) ∧ H1 (mk c').c = some (CodeO (mk c').c (mk c').qual) ∧ sp ws vs H1 Q E
theorem pe_callP {ws : List (Option V)} {sp : List (Option V) → Sp} (Fn : ∀ f c', NOk X.prog X.w X.K X.mg X.base CX k f (mk c') ps fr sp) (C : CellsAt cl fr ws X.s_0.heap X.H_0) (hF : ∀ y c, cl.lookup y = some c → c ∉ X.fs) (hex : X.ex = []) (hr : Room j X.A) (hk : k ≤ j) (hx : Passes CX X E) (hN : X.N[i]? = some x) (hv : Vis X.env.scope x) (ha : PA X (e :: es) t)
    (hd : (x == ("__debug__" : Str)) = false := by decide) (hcd : (x == ("__classdict__" : Str)) = false := by decide)
    (he : starEach (e :: es) X.env = (false, eval e X.env) :: starEach es X.env := by rfl) (hpl : (backTo pos (starEach es X.env)).any (·.1) = false := by rfl) :
    PE X (.Call (.Name x p) (e :: es) [] pos) (tCallP mk ws cl i sp E t) := by
  refine ⟨fun pins s σ H Q I h => ?_⟩
  obtain ⟨f, c', hs, hcl, hf, ht⟩ := h
  refine wpAny_Call_Name_kw (thn ((pe_var (pos := p) hN hv hd hcd).run pins s σ H (fun v H1 => v = .ref f ∧ H1 = H) I ⟨.ref f, hs, rfl, rfl⟩) fun u s1 ⟨v, H1, I1, r1, q1⟩ => ?_)
  obtain ⟨ev, eH⟩ := q1
  subst ev
  rw [eH] at I1
  cases (show u = Value.ref f from r1)
  refine PySem.W.callWith_F (first := []) (fnAt_of I1 hf) (thn (ha.run pos pins s1 σ H _ I1 ht) fun us s2 ⟨vs, H2, I2, r, h1, h2, q⟩ => ⟨fnAt_of I2 h1, ?_⟩) he hpl
  show wpAny _ _ (call (.ref f) us) _ _ _
  refine wpAny_call (codeAny_mono ((Fn f c').run X.A X.stack s2 H2 us vs ws Q E (hr.mono hk) I2.env0 h1 h2 (by rw [hcl]; exact cells_still C hF hex I2) r q) fun r s' hq => ?_)
  cases r with
  | error e => exact hx pins σ H2 s2 e s' I2 hq
  | ok fl =>
    cases fl with
    | ret u => exact I2.after hq
    | next => exact hq.elim
    | brk => exact hq.elim
    | cont => exact hq.elim
end
end Tk
set_option maxHeartbeats 1000000

namespace PySem
section
variable {prog : Program} {w : World} {A : Around} {E : Value → Shared → Prop} {s : Shared} {R : Result → Shared → Prop}
theorem tk_tuple_end {it t : Addr} {i : Nat} {items : Array Value} {Q : Option Value → Shared → Prop} (hh : A.handled = none) (hit : s.heap.IsTupleIter it t i) (ht : s.heap.IsTuple t items) (hx : items[i]? = none)
    (hQ : ∀ h', Heap.ExtBut it s.heap h' → (∃ u, h'.get? it = some u) → Q none { s with heap := h' }) : wpAny (model prog w) A (pyNext (.ref it)) Q E s := by
  obtain ⟨o, ho, hc, hd⟩ := id hit
  obtain ⟨ol, hol, _, nl, hdl⟩ := ht
  unfold pyNext
  refine wpAny_bind (wpAny_attempt (wpAny_callSpecial?_slot (name := Str.ofString "__next__") hit.typeIs F.slot_tuple_iterator_next
    (wpAny_call_entry F.slot_tuple_iterator_next hit.typeIs F.entry_tuple_iterator_next ?_ (F.args_tuple_iterator_next_1 _))))
  show wpAny _ _ (field (.ref it) 0 >>= _) _ _ s
  refine wpAny_bind (wpAny_field ho hd (x := .ref t) rfl ?_)
  show wpAny _ _ (if (Value.ref t == Value.none) = true then _ else _) _ _ s
  rw [if_neg (show ¬ ((Value.ref t == Value.none) = true) from Bool.false_ne_true)]
  show wpAny _ _ (field (.ref it) 1 >>= _) _ _ s
  refine wpAny_bind (wpAny_field ho hd (x := .int i 0) rfl ?_)
  show wpAny _ _ (seqItems? (.ref t) >>= _) _ _ s
  refine wpAny_bind (wpAny_seqItems hol hdl ?_)
  simp only [Int.toNat_natCast, hx]
  refine wpAny_bind (wpAny_rule (wpAny_bind (wpAny_setField ho hd (by simp) ?_)))
  show wpAny _ _ (newExc (.type "StopIteration") [] >>= _) _ _ _
  refine wpAny_bind ?_
  simp only [newExc, newTuple]
  refine wpAny_bind (wpAny_newObj_type ?_ (by size_fits))
  refine wpAny_bind (m := firstArgMember _ _) (wpAny_of_eq (a := Value.none) (by first | rfl | (simp only [firstArgMember]; rfl)) ?_)
  refine wpAny_newObj_type ?_ (by size_fits)
  simp only [raiseNew]
  refine wpAny_bind (wpAny_handled ?_)
  first | rw [show A.in1.handled = none from hh] | rw [hh]
  refine wpAny_bind (wpAny_pure (wpAny_throw ?_))
  refine wpAny_bind (wpAny_isInstance (T := "StopIteration") (b := true) ⟨_, Heap.get?_push_size _ rfl, rfl⟩ isSubtype_stop ?_)
  exact wpAny_pure (hQ _ (((Heap.SameBut.update ..).extBut.push _).push _) ⟨_, Heap.get?_push_of_some _ (Heap.get?_push_of_some _ (Heap.get?_update_self _ ho (Obj.isFreed_of_fields (Obj.data_mapFields hd _))))⟩)
theorem tk_loop {it t S : Addr} {items : Array Value} (hh : A.in1.handled = none) (h1 : S ≠ it) (h2 : S ≠ t) (h3 : t ≠ it) (hz : items.size ≤ sizeLine) :
    ∀ (k i : Nat) (s : Shared) (acc : Array Value) (c : Nat), items.size - i = k → i ≤ items.size → s.heap.IsTupleIter it t i → s.heap.IsTuple t items → s.heap.get? S = some { cls := .type "list", data := .seq acc c } → acc.toList = items.toList.take i →
    (∀ h' c', (∀ b o, b ≠ S → b ≠ it → s.heap.get? b = some o → h'.get? b = some o) → h'.get? S = some { cls := .type "list", data := .seq items c' } → (∃ u, h'.get? it = some u) → R (.ok (.ret .none)) { s with heap := h' }) →
    codeAny (model prog w) A (.builtin "list.extend.loop" ⟨[.ref S, .ref it, .none], []⟩) R s := by
  intro k
  induction k with
  | zero =>
    intro i s acc c hk hi hit ht hS hacc hR
    have hin : i = items.size := by omega
    subst hin
    refine codeAny_builtin F.entry_extend_loop ?_
    rw [Around.under_plainId F.plain_extend_loop _]
    show wpAny _ A.in1 (pyNext (.ref it) >>= _) _ _ s
    refine wpAny_bind (tk_tuple_end hh hit ht (by simp) fun h' he hu => wpAny_pure (hR h' c (fun b o _ n e => he b o n e) ?_ hu))
    have e1 : acc = items := by
      apply Array.toList_inj.mp
      rw [hacc, ← Array.length_toList, List.take_length]
    rw [← e1]
    exact he S _ h1 hS
  | succ k ih =>
    intro i s acc c hk hi hit ht hS hacc hR
    have hlt : i < items.size := by omega
    refine codeAny_builtin F.entry_extend_loop ?_
    rw [Around.under_plainId F.plain_extend_loop _]
    show wpAny _ A.in1 (pyNext (.ref it) >>= _) _ _ s
    have hl : acc.size = i := by
      have := congrArg List.length hacc
      rw [Array.length_toList, List.length_take, Array.length_toList] at this
      omega
    refine wpAny_bind (wpAny_pyNext_tuple_item hit ht (x := items[i]) (by simp [hlt]) fun h' hit' hs' => ?_)
    have hS' : h'.get? S = some { cls := .type "list", data := .seq acc c } := hs'.extBut S _ h1 hS
    show wpAny _ A.in1 (updateSeq S (·.push items[i]) >>= _) _ _ _
    refine wpAny_bind (wpAny_updateSeq hS' rfl (wpAny_pure ⟨plainId_quiet F.plain_extend_loop _, ?_⟩) (by rw [hl]; omega) (by show (acc.push _).size ≤ sizeLine + 1; rw [Array.size_push, hl]; omega))
    refine ih (i + 1) _ (acc.push items[i]) _ (by omega) hlt ?_ ?_ (Heap.get?_update_self _ hS' rfl) ?_ fun h'' c' kp hS'' hu => ?_
    · obtain ⟨o, ho, r⟩ := hit'
      exact ⟨o, (Heap.get?_update_other _ _ h1).trans ho, r⟩
    · obtain ⟨o, ho, r⟩ := ht
      exact ⟨o, (Heap.get?_update_other _ _ h2).trans (hs'.extBut t o h3 ho), r⟩
    · rw [Array.toList_push, hacc, List.take_add_one, List.getElem?_eq_getElem (by rw [Array.length_toList]; exact hlt)]
      rfl
    · exact hR h'' c' (fun b o n1 n2 e => kp b o n1 n2 ((Heap.get?_update_other _ _ (Ne.symm n1)).trans (hs'.extBut b o n2 e))) hS'' hu
end
end PySem
/-! len(o), bool(o), list(o) of an own class; iter of a tuple -/
namespace Tk
open PySem PySem.Spec PyProof.Rows L2
def TitO (it a : Addr) : HO := .ext fun h => h.IsTupleIter it a 0
def AnyO (it : Addr) : HO := .ext fun h => ∃ o, h.get? it = some o
section
variable {X : Cx}
theorem titO_ok {P : Program} {w : World} {H : Hp} {h : Heap} {it a : Addr} (e : h.IsTupleIter it a 0) : ObjOk P w H h it (TitO it a) :=
  ⟨e, let ⟨o, ho, _⟩ := e; ⟨o, ho⟩, fun h1 h2 q k => let ⟨o, ho, r⟩ := q; ⟨o, k o ho, r⟩⟩
/-- iter(t) -/
def rIterT (K : PySem.W.Frag) : List V → Hp → VK → Prop := fun xs H Q => ∃ (a : Addr) (ys : List V), xs = [.ref a] ∧ SqT K H a ys ∧ ∀ it, H it = none → Q (.ref it) (upd H it (TitO it a))
theorem cr_iterT : CallR X (.builtin "iter") (rIterT X.K) := by
  intro pins s σ H xs us Q I r h
  obtain ⟨a, ys, rfl, hq, q⟩ := h
  obtain rfl := Vals.ref1 r
  obtain ⟨its, rv, p, hz⟩ := I.tuple hq
  refine Calls.call_function_entry (by decide +kernel) (by decide +kernel) PySem.W.kdk_entry_iter (PySem.W.kdk_args_iter _) ?_
  unfold Builtin.«iter»
  refine wpAny_bind (m := someArgs "iter" 1 2 _) (wpAny_of_eq (a := [Value.ref a]) (by first | rfl | kernel_rfl!) ?_)
  show wpAny _ _ (pyIter (.ref a) >>= _) _ _ _
  refine wpAny_bind (wpAny_pyIter_tuple (show s.heap.IsTuple a its.toArray from p) ?_)
  refine wpAny_pure ⟨_, rfl, ?_⟩
  exact ⟨.ref s.heap.objs.size, _, I.laid (t' := s.toks) (fun b u e => Heap.get?_push_of_some _ e) (Nat.le_refl _) (titO_ok ⟨_, Heap.get?_push_size _ rfl, rfl, rfl⟩), rfl, q _ (I.hok.fresh (Nat.le_refl _))⟩
section
variable {C f a dx : Addr} {fd : FuncData} {sp : Sp} {E : XK} {n : Nat} {A : Around} {Ex : Value → Shared → Prop} {m : Str} {fs : List (Str × V)} {pins : List (Addr × Obj)} {σ : L2.St} {H : Hp} {s : Shared}
/-- a special method of our own, called by a built-in -/
theorem run_own {Q0 : VK} (sb : Sub X n A) (F : FnOk X.prog X.w X.K X.mg X.base CX0 n f fd ["self"] sp) (bd : Binds X.K fd ["self"] []) (I : Inv X pins σ H s) (hsp : sp [.ref a] H Q0 E) :
    wpAny (model X.prog X.w) A (call (.ref f) [.ref a]) (EP X pins σ Q0) Ex s := by
  have e0 : Env0 X.prog X.w X.K X.mg X.base A X.stack s H := by
    have e := I.env0
    exact ⟨by rw [sb.fr]; exact e.frames, e.mod, e.bs, e.bsz, e.funs, e.frf, e.hok, e.bare⟩
  have hB := bd s [.ref a] I.kIn rfl
  refine wpAny_call (codeAny_mono (F.run A X.stack s H ⟨[.ref a], []⟩ [.ref a] [.ref a] Q0 E sb.room e0 hB (.cons rfl .nil) hsp) fun r s' hq => ?_)
  cases r with
  | error e => exact False.elim hq
  | ok fl =>
    cases fl with
    | ret u => exact I.after hq
    | next => exact hq.elim
    | brk => exact hq.elim
    | cont => exact hq.elim
theorem spec_own {Q0 : VK} {Q : Option Value → Shared → Prop} (sb : Sub X n A) (M : Meth X.K C m f) (F : FnOk X.prog X.w X.K X.mg X.base CX0 n f fd ["self"] sp) (bd : Binds X.K fd ["self"] []) (I : Inv X pins σ H s)
    (ha : H a = some (.ins C dx fs)) (hsp : sp [.ref a] H Q0 E) (hq : ∀ u s', EP X pins σ Q0 u s' → Q (some u) s') : wpAny (model X.prog X.w) A (callSpecial? (.ref a) m) Q Ex s := by
  obtain ⟨mA, J, _⟩ := ins_get I.hok ha
  obtain ⟨od, J, _⟩ := J.look
  exact PySem.W.special_fn I.kIn J M.at_ (beq_iff_eq.mp M.fn) (wpAny_mono (run_own sb F bd I hsp) (fun u s' h => hq u s' h) fun _ _ z => z)
/-- len(o) as the built-ins call it -/
theorem len_run {k : Int} {Q : Value → Shared → Prop} (sb : Sub X (n + 1) A) (M : Meth X.K C "__len__" f) (F : FnOk X.prog X.w X.K X.mg X.base CX0 n f fd ["self"] sp) (bd : Binds X.K fd ["self"] []) (I : Inv X pins σ H s)
    (ha : H a = some (.ins C dx fs)) (hk : 0 ≤ k ∧ k < 2 ^ 63) (hsp : sp [.ref a] H (fun v H' => v = .int k ∧ H' = H) E) (hq : ∀ tk s', Inv X pins σ H s' → Q (.int k tk) s') :
    wpAny (model X.prog X.w) A (call (.builtin "len") [.ref a]) Q Ex s := by
  refine Calls.call_function_entry kind_len plain_len entry_len (args_len1 _) ?_
  unfold Builtin.«len»
  refine wpAny_bind (m := oneArg "len" _) (wpAny_pure ?_)
  refine wpAny_bind (m := callSpecial? (.ref a) (Str.ofString "__len__")) (spec_own sb.in1 M F bd I ha hsp fun u s' h => ?_)
  obtain ⟨v, H', I', r, ev, eH⟩ := h
  subst ev
  subst eH
  obtain ⟨tk, rfl⟩ := r
  refine wpAny_bind (wpAny_holding (wpAny_pure ?_))
  refine wpAny_bind (wpAny_letGo ?_)
  show wpAny _ _ (if k < 0 then _ else _) _ _ _
  rw [if_neg (by omega)]
  show wpAny _ _ (if k ≥ 2 ^ 63 then _ else _) _ _ _
  rw [if_neg (by omega)]
  exact wpAny_bind (wpAny_mkInt (wpAny_pure ⟨_, rfl, hq _ _ (I'.tok _)⟩))
/-- len(o) -/
def rLenO (C : Addr) (sp : Sp) (E : XK) : List V → Hp → VK → Prop := fun xs H Q => ∃ a dx fs k, xs = [.ref a] ∧ H a = some (.ins C dx fs) ∧ (0 ≤ k ∧ k < 2 ^ 63) ∧ sp [.ref a] H (fun v H' => v = .int k ∧ H' = H) E ∧ Q (.int k) H
theorem cr_lenO (hr : Room (n + 1) X.A) (M : Meth X.K C "__len__" f) (F : FnOk X.prog X.w X.K X.mg X.base CX0 n f fd ["self"] sp) (bd : Binds X.K fd ["self"] []) : CallR X (.builtin "len") (rLenO C sp E) := by
  intro pins s σ H xs us Q I r h
  obtain ⟨a, dx, fs, k, rfl, ha, hk, hsp, q⟩ := h
  obtain rfl := Vals.ref1 r
  exact len_run ⟨hr, rfl⟩ M F bd I ha hk hsp fun tk s' I' => ⟨.int k, H, I', ⟨tk, rfl⟩, q⟩
/-- bool(o) -/
def rBoolO (C : Addr) (sp : Sp) (E : XK) : List V → Hp → VK → Prop := fun xs H Q => ∃ a dx fs b, xs = [.ref a] ∧ H a = some (.ins C dx fs) ∧ sp [.ref a] H (fun v H' => v = .bl b ∧ Q (.bl b) H') E
theorem cr_boolO (hr : Room (n + 2) X.A) (M : Meth X.K C "__bool__" f) (F : FnOk X.prog X.w X.K X.mg X.base CX0 n f fd ["self"] sp) (bd : Binds X.K fd ["self"] []) : CallR X (.type "bool") (rBoolO C sp E) := by
  intro pins s σ H xs us Q I r h
  obtain ⟨a, dx, fs, b, rfl, ha, hsp⟩ := h
  obtain rfl := Vals.ref1 r
  have sb : Sub X n X.A.in1.in1 := Sub.in1 (Sub.in1 (⟨hr, rfl⟩ : Sub X (n + 2) X.A))
  refine callType_codes (Q₁ := fun obj s₁ => obj = .bool b ∧ EP X pins σ Q (.bool b) s₁) PySem.F.called_bool (PySem.F.typeCall_bool_1 _) PySem.F.entry_object_init ?_ fun obj s₁ h₁ => ?_
  · refine codeAny_call_builtin (by decide +kernel) PySem.F.entry_bool_new (wpAny_of_eq (PySem.F.newCall_bool_1 _) ?_)
    unfold Builtin.«bool.__new__»
    refine wpAny_bind (wpAny_of_eq (a := true) rfl ?_)
    refine PySem.W.KFB.if_not rfl ?_
    refine wpAny_bind (wpAny_of_eq (a := true) PySem.F.conv_sub_bool ?_)
    refine PySem.W.KFB.if_not rfl ?_
    refine wpAny_bind (m := someArgs "bool" 0 1 _) (wpAny_of_eq (a := [Value.ref a]) (by first | rfl | kernel_rfl) ?_)
    show wpAny _ _ (truthy (.ref a) >>= _) _ _ _
    refine wpAny_bind ?_
    unfold truthy
    show wpAny _ _ (callSpecial? (.ref a) (Str.ofString "__bool__") >>= _) _ _ _
    refine wpAny_bind (spec_own sb M F bd I ha hsp fun u s' h => ?_)
    obtain ⟨v, H', I', r, ev, q⟩ := h
    subst ev
    cases r
    exact wpAny_pure (wpAny_pure ⟨rfl, .bl b, H', I', rfl, q⟩)
  · obtain ⟨rfl, hE⟩ := h₁
    exact ⟨PySem.typeIs_bool _ _, PySem.F.args_object_init_2 _ _, (object_init_meets PySem.F.called_bool.init.lookup PySem.F.called_bool.made PySem.F.newNe_bool) X.prog X.w X.A.in1 _ s₁ ⟨PySem.typeIs_bool _ _, rfl, hE⟩⟩

/-- two tracked objects written at once -/
theorem write2 {x y : Addr} {ox oy : HO} {h' : Heap} {t' : Nat} (I : Inv X pins σ H s) (mx : Mut (H x)) (my : Mut (H y))
    (k : ∀ b u, b ≠ x → b ≠ y → s.heap.get? b = some u → h'.get? b = some u) (hx : ObjOk X.prog X.w (upd (upd H x ox) y oy) h' x ox) (hy : ObjOk X.prog X.w (upd (upd H x ox) y oy) h' y oy) (hne : x ≠ y) (ex : ∃ u, h'.get? x = some u) (ey : ∃ u, h'.get? y = some u) :
    Inv X pins σ (upd (upd H x ox) y oy) { s with heap := h', toks := t' } := by
  have n1 : ∀ {b}, H b = none → b ≠ x := fun {b} n z => by rw [← z, n] at mx; exact mx
  have n2 : ∀ {b}, H b = none → b ≠ y := fun {b} n z => by rw [← z, n] at my; exact my
  have m1 : ∀ {b u}, H b = some u → ¬ Mut (some u) → b ≠ x := fun {b u} n nm z => by rw [← z, n] at mx; exact nm mx
  have m2 : ∀ {b u}, H b = some u → ¬ Mut (some u) → b ≠ y := fun {b u} n nm z => by rw [← z, n] at my; exact nm my
  have up : ∀ {b}, b ≠ x → b ≠ y → upd (upd H x ox) y oy b = H b := fun {b} h1 h2 => by rw [upd_ne h2, upd_ne h1]
  refine I.un ⟨fun b o e n _ _ => k b o (n1 n) (n2 n) e, fun b o e n _ _ => ⟨o.slots, k b o (n1 n) (n2 n) e⟩, fun b o e n _ => by rw [up (n1 n) (n2 n)]; exact n, fun b o e _ => ?_, fun b xs e => ?_, fun b o u e => ?_, fun b ps e => ?_⟩ fun b u e => ?_
  · by_cases h1 : b = x
    · rw [h1]; exact ex
    · by_cases h2 : b = y
      · rw [h2]; exact ey
      · exact ⟨o, k b o h1 h2 e⟩
  · rw [up (m1 e fun z => z) (m2 e fun z => z)]; exact e
  · rw [up (m1 e fun z => z) (m2 e fun z => z)]; exact e
  · exact ⟨#[], by rw [up (m1 e fun z => z) (m2 e fun z => z), e]; simp⟩
  · by_cases h2 : b = y
    · subst h2
      rw [upd_same] at e
      cases e
      exact hy
    · by_cases h1 : b = x
      · subst h1
        rw [upd_ne h2, upd_same] at e
        cases e
        exact hx
      · rw [up h1 h2] at e
        refine (I.hok b u e).stay (fun c v hc q => k c v ?_ ?_ q) (fun c e' => ?_) fun c xs e' => ?_
        · rcases hc with rfl | hc
          · exact h1
          · exact m1 hc fun z => z
        · rcases hc with rfl | hc
          · exact h2
          · exact m2 hc fun z => z
        · rw [up (m1 e' fun z => z) (m2 e' fun z => z)]; exact e'
        · rw [up (m1 e' fun z => z) (m2 e' fun z => z)]; exact e'
variable {fL fI : Addr} {fdL fdI : FuncData} {spL spI : Sp}
/-- list(o) -/
def rListO (K : PySem.W.Frag) (C : Addr) (spL spI : Sp) (E : XK) : List V → Hp → VK → Prop := fun xs H Q => ∃ a dx fs t ys, xs = [.ref a] ∧ H a = some (.ins C dx fs) ∧ H t = some (.tup ys) ∧ ys.length ≤ 1000 ∧
  (∀ H' : Hp, Same H H' → H' a = some (.ins C dx fs) → spL [.ref a] H' (fun v H'' => v = .int ys.length ∧ H'' = H') E) ∧
  (∀ H' : Hp, Same H H' → H' a = some (.ins C dx fs) → spI [.ref a] H' (fun v H'' => ∃ it, v = .ref it ∧ H' it = none ∧ H'' = upd H' it (TitO it t)) E) ∧
  ∀ p H', Same H H' → H p = none → H' p = some (.lst ys) → Q (.ref p) H'
theorem cr_listO (hc : X.calm = true) (hr : Room (n + 3) X.A) (ML : Meth X.K C "__len__" fL) (FL : FnOk X.prog X.w X.K X.mg X.base CX0 n fL fdL ["self"] spL) (bL : Binds X.K fdL ["self"] [])
    (MI : Meth X.K C "__iter__" fI) (FI : FnOk X.prog X.w X.K X.mg X.base CX0 n fI fdI ["self"] spI) (bI : Binds X.K fdI ["self"] []) : CallR X (.type "list") (rListO X.K C spL spI E) := by
  intro pins s σ H xs us Q I r h
  obtain ⟨a, dx, fs, t, ys, rfl, ha, hT, hz, hL, hI, q⟩ := h
  obtain rfl := Vals.ref1 r
  have sb1 : Sub X (n + 1) X.A.in1.in1 := Sub.in1 (Sub.in1 (⟨hr, rfl⟩ : Sub X (n + 3) X.A))
  have sb : Sub X n X.A.in1.in1 := sb1.mono (Nat.le_succ _)
  refine callType_codes (Q₁ := fun obj s₁ => obj = .ref s.heap.objs.size ∧ s₁ = { s with heap := s.heap.push { cls := .type "list", data := .seq #[] } }) PySem.F.called_list (PySem.F.typeCall_list_1 _) PySem.F.entry_list_init
    (code_list_new _ ⟨rfl, rfl⟩) fun obj s₁ h₁ => ?_
  obtain ⟨rfl, rfl⟩ := h₁
  generalize hS0 : s.heap.objs.size = S
  have hS : (s.heap.push { cls := .type "list", data := .seq #[] }).get? S = some { cls := .type "list", data := .seq #[] } := by rw [← hS0]; exact Heap.get?_push_size _ rfl
  refine ⟨⟨_, hS, rfl⟩, PySem.F.args_list_init_2 _ _, ?_⟩
  have fr : H S = none := I.hok.fresh (Nat.le_of_eq hS0)
  have I1 : Inv X pins σ (upd H S (.lst [])) { s with heap := s.heap.push { cls := .type "list", data := .seq #[] } } := by
    have := I.lnew (its := []) (t' := s.toks) .nil (Nat.zero_le _)
    rw [hS0] at this
    exact this
  show wpAny _ _ (do let old ← Builtin.List.listItems (.ref S); Builtin.List.listUpdate (.ref S) (fun _ => #[]); letGo old.toList.reverse; Builtin.List.listExtendWith (.ref S) (.ref a) .none) _ _ _
  refine wpAny_bind ?_
  unfold Builtin.List.listItems
  refine wpAny_bind (wpAny_seqItems hS rfl (wpAny_pure ?_))
  show wpAny _ _ (updateSeq S (fun _ => #[]) >>= fun _ => letGo (#[] : Array Value).toList.reverse >>= fun _ => Builtin.List.listExtendWith (.ref S) (.ref a) .none) _ _ _
  refine wpAny_bind (wpAny_updateSeq hS rfl ?_)
  have I2 := I1.lset (f := fun _ => #[]) (its := []) (its' := []) (ys := []) (t' := s.toks) upd_same hS rfl .nil (Nat.zero_le _)
  rw [upd_upd] at I2
  refine wpAny_bind (wpAny_letGo ?_)
  have hSa : S ≠ a := (ne_of_none ha fr).symm
  have s1 : Same H (upd H S (.lst [])) := same_new fr
  have ha2 := s1 _ _ ha
  obtain ⟨mA, J, _⟩ := ins_get I2.hok ha2
  obtain ⟨od, J, _⟩ := J.look
  obtain ⟨m0, hF⟩ := I2.fr
  unfold Builtin.List.listExtendWith
  refine wpAny_bind (J.type.here ?_)
  have h1 : Builtin.List.listSameRef (.ref S) (.ref a) = false := by simp [Builtin.List.listSameRef, hSa]
  have h2 : (Value.ref C == Value.type "list") = false := rfl
  have h3 : (Value.ref C == Value.type "tuple") = false := rfl
  simp only [h1, h2, h3, Bool.or_false, Bool.false_eq_true, if_false]
  refine wpAny_bind (PySem.W.owit_iter hF I2.ok.mod.kin J MI.at_ MI.fn ?_)
  refine wpAny_mono (run_own sb FI bI I2 (hI _ s1 ha2)) (fun u s3 h => ?_) fun _ _ z => z
  obtain ⟨v, H3, I3, ru, it, ev, nit, eH⟩ := h
  subst ev
  subst eH
  obtain rfl : u = Value.ref it := ru
  have eT : upd (upd H S (.lst [])) it (TitO it t) it = some (TitO it t) := upd_same
  have hit : s3.heap.IsTupleIter it t 0 := (I3.hok it _ eT).1
  refine wpAny_specialOf (name := Str.ofString "__next__") hit.typeIs PySem.F.slot_tuple_iterator_next.lookup ?_
  have s3' : Same H (upd (upd H S (.lst [])) it (TitO it t)) := s1.trans (same_new nit)
  have ha3 := s3' _ _ ha
  obtain ⟨mA3, J3, _⟩ := ins_get I3.hok ha3
  obtain ⟨od3, J3, _⟩ := J3.look
  -- the loop
  have nit0 : H it = none := s1.free nit
  have hSit : S ≠ it := fun z => by rw [z, upd_same] at nit; cases nit
  have hT3 : SqT X.K (upd (upd H S (.lst [])) it (TitO it t)) t ys := SqT.of (s3' _ _ hT)
  have loop : ∀ s5 : Shared, Inv X pins σ (upd (upd H S (.lst [])) it (TitO it t)) s5 → codeAny (model X.prog X.w) X.A.in1 (.builtin "list.extend.loop" ⟨[.ref S, .ref it, .none], []⟩) (wants (fun r s₂ => r = .none ∧ EP X pins σ Q (.ref S) s₂) X.xe) s5 := by
    intro s5 I5
    obtain ⟨its, rv, p, hz'⟩ := I5.tuple hT3
    have pT : s5.heap.IsTuple t its.toArray := p
    have hit5 : s5.heap.IsTupleIter it t 0 := (I5.hok it _ eT).1
    have eS : upd (upd H S (.lst [])) it (TitO it t) S = some (.lst []) := by rw [upd_ne hSit, upd_same]
    obtain ⟨z4, its4, k4, r4, hl4, e4⟩ := I5.lstM eS
    cases r4
    have hti : t ≠ it := fun z => by
      obtain ⟨o1, g1, c1, _⟩ := pT
      obtain ⟨o2, g2, c2, _⟩ := hit5
      rw [z, g2] at g1
      cases g1
      rw [c2] at c1
      exact absurd c1 (by decide)
    have hSt : S ≠ t := fun z => by
      obtain ⟨o1, g1, c1, _⟩ := pT
      rw [← z, e4] at g1
      cases g1
      exact absurd (show Value.type "list" = Value.type "tuple" from c1) (by decide)
    have hh : X.A.in1.in1.handled = none := I5.ok.hd hc
    have hlen : its.toArray.size = ys.length := by rw [List.size_toArray, rv.length]
    refine tk_loop hh hSit hSt hti (by rw [hlen, sizeLine_eq]; omega) its.toArray.size 0 s5 #[] k4 rfl (Nat.zero_le _) hit5 pT e4 (by simp) fun h' c' kp hS' hany => ?_
    have hobj : ∀ Hx : Hp, ObjOk X.prog X.w Hx h' S (.lst ys) := fun Hx => ⟨by rw [sizeLine_eq]; omega, its, c', rv, hS'⟩
    have I6 := write2 (x := S) (y := it) (ox := .lst ys) (oy := AnyO it) (h' := h') (t' := s5.toks) I5 (by rw [eS]; exact True.intro) (by rw [eT]; exact True.intro) kp (hobj _) ⟨hany, hany, fun h1 h2 ⟨o, q⟩ k => ⟨o, k o q⟩⟩ hSit ⟨_, hS'⟩ hany
    refine ⟨rfl, .ref S, _, I6, rfl, q S _ (fun b o e => ?_) fr (by rw [upd_ne hSit, upd_same])⟩
    have b1 := ne_of_none e fr
    have b2 := ne_of_none e nit0
    rw [upd_ne b2, upd_ne b1, upd_ne b2, upd_ne b1]
    exact e
  refine wpAny_bind (wpAny_holding ?_)
  unfold Builtin.List.listLengthHint
  refine wpAny_bind (wpAny_bind (J3.type.here ((PySem.W.looks_findIn I3.kIn ML.at_).here ?_)))
  refine PySem.W.KFB.if_not rfl ?_
  refine PySem.W.KFB.if_so rfl ?_
  refine wpAny_bind (wpAny_rule ?_)
  show wpAny _ _ ((call (.builtin "len") [.ref a]).attempt >>= _) _ _ _
  refine wpAny_bind (wpAny_attempt (len_run sb1 ML FL bL I3 ha3 ⟨by omega, by omega⟩ (hL _ s3' ha3) fun tk s4 I4 => ?_))
  show wpAny _ _ (asInt? (.int ys.length tk) >>= _) _ _ _
  refine wpAny_bind (wpAny_of_eq (a := some (ys.length : Int)) rfl ?_)
  show wpAny _ _ (if Builtin.List.listTooLong ((ys.length : Int)).toNat = true then _ else _) _ _ _
  rw [if_neg (by unfold Builtin.List.listTooLong; rw [sizeLine_eq]; simp; omega)]
  refine wpAny_pure ?_
  refine wpAny_ite_split (fun _ => ?_) (fun _ => wpAny_pure ⟨plainId_quiet PySem.F.plain_extend_loop _, loop s4 I4⟩)
  refine wpAny_bind (wpAny_rule ?_)
  refine wpAny_bind ?_
  show wpAny _ _ (updateSeq S (·.push .none) >>= fun _ => updateSeq S (·.pop)) _ _ _
  have eS : upd (upd H S (.lst [])) it (TitO it t) S = some (.lst []) := by rw [upd_ne hSit, upd_same]
  obtain ⟨z4, its4, k4, r4, hl4, e4⟩ := I4.lstM eS
  cases r4
  refine wpAny_bind (wpAny_updateSeq e4 rfl ?_)
  have I5 := I4.lset (f := (·.push Value.none)) (its' := [Value.none]) (ys := [.non]) (t' := s4.toks) eS e4 (by simp) (.cons rfl .nil) (by rw [List.length_singleton, sizeLine_eq]; decide)
  obtain ⟨z5, its5, k5, r5, hl5, e5⟩ := I5.lstM upd_same
  obtain ⟨u5, rfl, ru5⟩ := r5.one
  refine wpAny_updateSeq e5 rfl ?_ (by show 1 ≤ sizeLine; rw [sizeLine_eq]; decide) (by show 0 ≤ sizeLine + 1; exact Nat.zero_le _)
  have I6 := I5.lset (f := (·.pop)) (its := [u5]) (its' := []) (ys := []) (t' := s4.toks) upd_same e5 (by rfl) .nil (Nat.zero_le _)
  rw [upd_upd] at I6
  have hH : upd (upd (upd H S (.lst [])) it (TitO it t)) S (.lst []) = upd (upd H S (.lst [])) it (TitO it t) := by
    funext b
    by_cases hb : b = S
    · rw [hb, upd_same, eS]
    · rw [upd_ne hb]
  rw [hH] at I6
  exact wpAny_pure ⟨plainId_quiet PySem.F.plain_extend_loop _, loop _ I6⟩
end
end
end Tk
/-! the plain law: plans, steps of pairs, the walk by least strings -/
namespace Tk
open PySem L2
abbrev Row := List (Nat × Nat)
structure Pl where
  rows : List Row
  ends : List Nat
def okSign (c : Nat) : Bool := decide (c = 46) || ((decide (65 ≤ c) && decide (c ≤ 90)) || (decide (97 ≤ c) && decide (c ≤ 122)))
inductive Reach (P : Pl) : Nat → Prop
  | here {i : Nat} : i ∈ P.ends → Reach P i
  | step {i s j : Nat} {r : Row} : P.rows[i]? = some r → (s, j) ∈ r → Reach P j → Reach P i
structure Pl.Ok (P : Pl) : Prop where
  pos : 0 < P.rows.length
  few : P.rows.length ≤ 60
  sign : ∀ r ∈ P.rows, ∀ p ∈ r, okSign p.1 = true ∧ p.2 < P.rows.length
  rise : ∀ r ∈ P.rows, (r.map (·.1)).Pairwise (· < ·)
  erise : P.ends.Pairwise (· < ·)
  elt : ∀ e ∈ P.ends, e < P.rows.length
  live : ∀ i, i < P.rows.length → Reach P i
theorem okSign_lt {c : Nat} (h : okSign c = true) : c < 123 := by
  unfold okSign at h
  simp only [Bool.or_eq_true, Bool.and_eq_true, decide_eq_true_eq] at h
  omega
abbrev Node := Int × Int
def Pl.rowOf (P : Pl) (i : Int) : Row := if i < 0 then [] else P.rows.getD i.toNat []
def look (r : Row) (s : Nat) : Int := match r.lookup s with
  | some a => (a : Int)
  | none => -1
def leN (a b : Nat) : Bool := decide (a ≤ b)
def signs (r q : Row) : List Nat := (r.map (·.1) ++ (q.map (·.1)).filter fun s => (r.lookup s).isNone).mergeSort leN
def nxR (r q : Row) : List (Nat × Node) := (signs r q).map fun s => (s, (look r s, look q s))
def nx (P Q : Pl) (n : Node) : List (Nat × Node) := nxR (P.rowOf n.1) (Q.rowOf n.2)
theorem leN_trans : ∀ a b c : Nat, leN a b = true → leN b c = true → leN a c = true := fun a b c h1 h2 => by
  unfold leN at *; simp only [decide_eq_true_eq] at *; omega
theorem leN_total : ∀ a b : Nat, (leN a b || leN b a) = true := fun a b => by
  unfold leN; simp only [Bool.or_eq_true, decide_eq_true_eq]; omega
theorem lookup_isNone {r : Row} {s : Nat} : (r.lookup s).isNone = true ↔ s ∉ r.map (·.1) := by
  induction r with
  | nil => simp
  | cons p r ih =>
    obtain ⟨a, b⟩ := p
    rw [List.lookup_cons]
    by_cases h : s == a
    · rw [h]
      have e : s = a := by simpa using h
      simp [e]
    · have e : ¬ s = a := by simpa using h
      rw [show (s == a) = false by simpa using h]
      simp only [List.map_cons, List.mem_cons, not_or]
      exact ⟨fun q => ⟨e, ih.mp q⟩, fun q => ih.mpr q.2⟩
theorem lookup_some {s a : Nat} : ∀ {r : Row}, r.lookup s = some a → (s, a) ∈ r
  | [], h => by simp at h
  | (c, d) :: r, h => by
    rw [List.lookup_cons] at h
    by_cases e : s == c
    · rw [e] at h
      have e : s = c := by simpa using e
      cases h
      rw [e]
      exact List.mem_cons_self ..
    · rw [show (s == c) = false by simpa using e] at h
      exact List.mem_cons_of_mem _ (lookup_some h)
theorem lookup_of {r : Row} (hr : (r.map (·.1)).Pairwise (· < ·)) {p : Nat × Nat} (h : p ∈ r) : r.lookup p.1 = some p.2 := by
  induction r with
  | nil => cases h
  | cons q r ih =>
    obtain ⟨a, b⟩ := q
    rw [List.map_cons, List.pairwise_cons] at hr
    rw [List.lookup_cons]
    rcases List.mem_cons.mp h with e | h
    · subst e; simp
    · have := hr.1 p.1 (List.mem_map.mpr ⟨p, h, rfl⟩)
      rw [show (p.1 == a) = false by simp only [beq_eq_false_iff_ne]; show p.1 ≠ a; have : a < p.1 := this; omega]
      exact ih hr.2 h
theorem mem_signs {r q : Row} {s : Nat} : s ∈ signs r q ↔ s ∈ r.map (·.1) ∨ s ∈ q.map (·.1) := by
  unfold signs
  rw [List.mem_mergeSort, List.mem_append, List.mem_filter, lookup_isNone]
  constructor
  · rintro (h | ⟨h, _⟩)
    · exact .inl h
    · exact .inr h
  · intro h
    by_cases hs : s ∈ r.map (·.1)
    · exact .inl hs
    · exact .inr ⟨h.resolve_left hs, hs⟩
theorem rise_nodup {l : List Nat} (h : l.Pairwise (· < ·)) : l.Nodup := h.imp fun h => Nat.ne_of_lt h
/-- strictly rising, from rising and no item twice -/
theorem strict_of {l : List Nat} (h : l.Pairwise fun a b => leN a b = true) (nd : l.Nodup) : l.Pairwise (· < ·) := by
  induction l with
  | nil => exact .nil
  | cons a l ih =>
    rw [List.pairwise_cons] at h
    rw [List.nodup_cons] at nd
    rw [List.pairwise_cons]
    refine ⟨fun b hb => ?_, ih h.2 nd.2⟩
    have h1 := h.1 b hb
    unfold leN at h1
    simp only [decide_eq_true_eq] at h1
    have h2 : a ≠ b := fun e => nd.1 (by rw [e]; exact hb)
    omega
theorem signs_rise {r q : Row} (hr : (r.map (·.1)).Pairwise (· < ·)) (hq : (q.map (·.1)).Pairwise (· < ·)) : (signs r q).Pairwise (· < ·) := by
  unfold signs
  refine strict_of (List.pairwise_mergeSort leN_trans leN_total _) ?_
  rw [(List.mergeSort_perm _ _).nodup_iff, List.nodup_append]
  refine ⟨rise_nodup hr, (rise_nodup hq).filter _, fun a ha b hb => ?_⟩
  rw [List.mem_filter, lookup_isNone] at hb
  intro e
  rw [← e] at hb
  exact hb.2 ha
/-- two strictly rising lists with the same members are one -/
theorem rise_ext : ∀ {l m : List Nat}, l.Pairwise (· < ·) → m.Pairwise (· < ·) → (∀ x, x ∈ l ↔ x ∈ m) → l = m
  | [], [], _, _, _ => rfl
  | [], b :: m, _, _, h => absurd ((h b).mpr (List.mem_cons_self ..)) (by simp)
  | a :: l, [], _, _, h => absurd ((h a).mp (List.mem_cons_self ..)) (by simp)
  | a :: l, b :: m, hl, hm, h => by
    rw [List.pairwise_cons] at hl hm
    have e : a = b := by
      rcases List.mem_cons.mp ((h a).mp (List.mem_cons_self ..)) with e | h1
      · exact e
      · rcases List.mem_cons.mp ((h b).mpr (List.mem_cons_self ..)) with e | h2
        · exact e.symm
        · have := hm.1 a h1; have := hl.1 b h2; omega
    subst e
    refine congrArg _ (rise_ext hl.2 hm.2 fun x => ?_)
    constructor
    · intro hx
      rcases List.mem_cons.mp ((h x).mp (List.mem_cons_of_mem _ hx)) with e | h1
      · have := hl.1 x hx; omega
      · exact h1
    · intro hx
      rcases List.mem_cons.mp ((h x).mpr (List.mem_cons_of_mem _ hx)) with e | h1
      · have := hm.1 x hx; omega
      · exact h1
theorem nxR_map (r q : Row) : (nxR r q).map (·.1) = signs r q := by
  unfold nxR; rw [List.map_map]; exact List.map_id _
theorem mem_nxR {r q : Row} {s : Nat} {n : Node} : (s, n) ∈ nxR r q ↔ s ∈ signs r q ∧ n = (look r s, look q s) := by
  unfold nxR
  rw [List.mem_map]
  constructor
  · rintro ⟨t, ht, e⟩
    cases e
    exact ⟨ht, rfl⟩
  · rintro ⟨h, rfl⟩
    exact ⟨s, h, rfl⟩
/-! ### the walk -/
abbrev BN := Node × List Nat
def addTo (x : List Nat) : List BN → List (Nat × Node) → List BN
  | acc, [] => acc
  | acc, p :: r => addTo x (if p.2 ∈ acc.map (·.1) then acc else acc ++ [(p.2, x ++ [p.1])]) r
def bq (P Q : Pl) : Nat → List BN
  | 0 => [((0, 0), [])]
  | t + 1 => match (bq P Q t)[t]? with
    | some b => addTo b.2 (bq P Q t) (nx P Q b.1)
    | none => bq P Q t
@[irreducible] def fin (P Q : Pl) : List BN := bq P Q 400
theorem addTo_pre (x : List Nat) : ∀ (l : List (Nat × Node)) (acc : List BN), acc <+: addTo x acc l
  | [], acc => List.prefix_refl _
  | p :: l, acc => by
    unfold addTo
    refine List.IsPrefix.trans ?_ (addTo_pre x l _)
    split
    · exact List.prefix_refl _
    · exact List.prefix_append _ _
theorem addTo_nodup (x : List Nat) : ∀ (l : List (Nat × Node)) (acc : List BN), (acc.map (·.1)).Nodup → ((addTo x acc l).map (·.1)).Nodup
  | [], acc, h => h
  | p :: l, acc, h => by
    unfold addTo
    refine addTo_nodup x l _ ?_
    split
    · exact h
    · rename_i hn
      rw [List.map_append, List.map_cons, List.map_nil, List.nodup_append]
      refine ⟨h, by simp, fun a ha b hb => ?_⟩
      rw [List.mem_singleton] at hb
      subst hb
      exact fun e => hn (by have e : a = p.2 := e; rw [← e]; exact ha)
theorem addTo_mem (x : List Nat) {b : BN} : ∀ (l : List (Nat × Node)) (acc : List BN), b ∈ addTo x acc l → b ∈ acc ∨ ∃ p ∈ l, b = (p.2, x ++ [p.1])
  | [], acc, h => .inl h
  | p :: l, acc, h => by
    unfold addTo at h
    rcases addTo_mem x l _ h with h | ⟨p', h1, h2⟩
    · split at h
      · exact .inl h
      · rcases List.mem_append.mp h with h | h
        · exact .inl h
        · exact .inr ⟨p, List.mem_cons_self .., by simpa using h⟩
    · exact .inr ⟨p', List.mem_cons_of_mem _ h1, h2⟩
section
variable {P Q : Pl}
theorem bq_succ_some {t : Nat} {b : BN} (h : (bq P Q t)[t]? = some b) : bq P Q (t + 1) = addTo b.2 (bq P Q t) (nx P Q b.1) := by
  show (match (bq P Q t)[t]? with | some b => addTo b.2 (bq P Q t) (nx P Q b.1) | none => bq P Q t) = _
  rw [h]
theorem bq_succ_none {t : Nat} (h : (bq P Q t)[t]? = none) : bq P Q (t + 1) = bq P Q t := by
  show (match (bq P Q t)[t]? with | some b => addTo b.2 (bq P Q t) (nx P Q b.1) | none => bq P Q t) = _
  rw [h]
theorem bq_pre1 (t : Nat) : bq P Q t <+: bq P Q (t + 1) := by
  cases h : (bq P Q t)[t]? with
  | none => rw [bq_succ_none h]; exact List.prefix_refl _
  | some b => rw [bq_succ_some h]; exact addTo_pre _ _ _
theorem bq_pre {t u : Nat} (h : t ≤ u) : bq P Q t <+: bq P Q u := by
  induction h with
  | refl => exact List.prefix_refl _
  | step _ ih => exact ih.trans (bq_pre1 _)
theorem bq_nodup (t : Nat) : ((bq P Q t).map (·.1)).Nodup := by
  induction t with
  | zero => show ([((0, 0) : Node)]).Nodup; simp
  | succ t ih =>
    cases h : (bq P Q t)[t]? with
    | none => rw [bq_succ_none h]; exact ih
    | some b => rw [bq_succ_some h]; exact addTo_nodup _ _ _ ih
/-- in range -/
def NodeOk (P Q : Pl) (n : Node) : Prop := (-1 ≤ n.1 ∧ n.1 < P.rows.length) ∧ (-1 ≤ n.2 ∧ n.2 < Q.rows.length)
theorem rowOf_mem {i : Int} (hi : i < P.rows.length) : P.rowOf i = [] ∨ P.rowOf i ∈ P.rows := by
  unfold Pl.rowOf
  split
  · exact .inl rfl
  · have : i.toNat < P.rows.length := by omega
    rw [List.getD_eq_getElem?_getD, List.getElem?_eq_getElem this]
    exact .inr (List.getElem_mem this)
theorem rowOf_rise (h : P.Ok) {i : Int} (hi : i < P.rows.length) : ((P.rowOf i).map (·.1)).Pairwise (· < ·) := by
  rcases rowOf_mem hi with e | e
  · rw [e]; exact .nil
  · exact h.rise _ e
theorem rowOf_sign (h : P.Ok) {i : Int} (hi : i < P.rows.length) : ∀ p ∈ P.rowOf i, okSign p.1 = true ∧ p.2 < P.rows.length := by
  rcases rowOf_mem hi with e | e
  · rw [e]; intro p hp; cases hp
  · exact h.sign _ e
theorem look_range (h : P.Ok) {i : Int} (hi : i < P.rows.length) (s : Nat) : -1 ≤ look (P.rowOf i) s ∧ look (P.rowOf i) s < P.rows.length := by
  have := h.pos
  unfold look
  cases e : (P.rowOf i).lookup s with
  | none => exact ⟨by show (-1 : Int) ≤ -1; omega, by show (-1 : Int) < _; omega⟩
  | some a =>
    have := (rowOf_sign h hi _ (lookup_some e)).2
    refine ⟨by show (-1 : Int) ≤ (a : Int); omega, ?_⟩
    show (a : Int) < _
    have h2 : a < P.rows.length := this
    omega
theorem nx_ok (hP : P.Ok) (hQ : Q.Ok) {n : Node} (hn : NodeOk P Q n) {p : Nat × Node} (hp : p ∈ nx P Q n) : NodeOk P Q p.2 := by
  obtain ⟨s, m⟩ := p
  obtain ⟨_, rfl⟩ := mem_nxR.mp hp
  exact ⟨look_range hP hn.1.2 s, look_range hQ hn.2.2 s⟩
theorem nx_sign (hP : P.Ok) (hQ : Q.Ok) {n : Node} (hn : NodeOk P Q n) {p : Nat × Node} (hp : p ∈ nx P Q n) : okSign p.1 = true := by
  obtain ⟨s, m⟩ := p
  obtain ⟨h, rfl⟩ := mem_nxR.mp hp
  rcases mem_signs.mp h with h | h
  · obtain ⟨x, hx, e⟩ := List.mem_map.mp h
    rw [show s = x.1 from e.symm]
    exact (rowOf_sign hP hn.1.2 x hx).1
  · obtain ⟨x, hx, e⟩ := List.mem_map.mp h
    rw [show s = x.1 from e.symm]
    exact (rowOf_sign hQ hn.2.2 x hx).1
theorem bq_ok (hP : P.Ok) (hQ : Q.Ok) (t : Nat) : ∀ b ∈ bq P Q t, NodeOk P Q b.1 := by
  induction t with
  | zero =>
    intro b hb
    have e : b = ((0, 0), []) := by simpa [bq] using hb
    have := hP.pos; have := hQ.pos
    rw [e]
    exact ⟨⟨by show (-1 : Int) ≤ 0; omega, by show (0 : Int) < _; omega⟩, by show (-1 : Int) ≤ 0; omega, by show (0 : Int) < _; omega⟩
  | succ t ih =>
    cases h : (bq P Q t)[t]? with
    | none => rw [bq_succ_none h]; exact ih
    | some c =>
      rw [bq_succ_some h]
      intro b hb
      rcases addTo_mem _ _ _ hb with hb | ⟨p, hp, rfl⟩
      · exact ih b hb
      · exact nx_ok hP hQ (ih c (List.mem_of_getElem? h)) hp
theorem few_below : ∀ (N : Nat) (l : List Nat), l.Nodup → (∀ x ∈ l, x < N) → l.length ≤ N
  | 0, [], _, _ => Nat.le_refl _
  | 0, a :: l, _, h => absurd (h a (List.mem_cons_self ..)) (Nat.not_lt_zero _)
  | N + 1, l, nd, h => by
    have h1 : (l.filter fun x => decide (x ≠ N)).length ≤ N := few_below N _ (nd.filter _) fun x hx => by
      rw [List.mem_filter] at hx
      have h1 := h x hx.1
      have h2 : x ≠ N := by simpa using hx.2
      omega
    have h2 : ∀ (l : List Nat), l.Nodup → l.length ≤ (l.filter fun x => decide (x ≠ N)).length + 1 := by
      intro l nd
      induction l with
      | nil => simp
      | cons a l ih =>
        rw [List.nodup_cons] at nd
        rw [List.filter_cons]
        by_cases e : a = N
        · subst e
          rw [if_neg (by simp)]
          have : (l.filter fun x => decide (x ≠ a)) = l := List.filter_eq_self.mpr fun x hx => by
            simp only [decide_eq_true_eq]
            exact fun e => nd.1 (by rw [← e]; exact hx)
          rw [this, List.length_cons]
          exact Nat.le_refl _
        · rw [if_pos (by simpa using e), List.length_cons, List.length_cons]
          have := ih nd.2
          omega
    have := h2 l nd
    omega
theorem bq_few (hP : P.Ok) (hQ : Q.Ok) (t : Nat) : (bq P Q t).length ≤ (P.rows.length + 1) * (Q.rows.length + 1) := by
  have h := few_below ((P.rows.length + 1) * (Q.rows.length + 1)) ((bq P Q t).map fun b => (b.1.1 + 1).toNat * (Q.rows.length + 1) + (b.1.2 + 1).toNat) ?_ ?_
  · simpa using h
  · have nd := bq_nodup (P := P) (Q := Q) t
    have ok := bq_ok hP hQ t
    revert nd ok
    generalize bq P Q t = l
    intro nd ok
    induction l with
    | nil => exact .nil
    | cons b l ih =>
      rw [List.map_cons, List.nodup_cons] at nd ⊢
      refine ⟨fun hm => nd.1 ?_, ih nd.2 fun c hc => ok c (List.mem_cons_of_mem _ hc)⟩
      obtain ⟨c, hc, e⟩ := List.mem_map.mp hm
      have o1 := ok b (List.mem_cons_self ..)
      have o2 := ok c (List.mem_cons_of_mem _ hc)
      obtain ⟨⟨a1, a2⟩, a3, a4⟩ := o1
      obtain ⟨⟨c1, c2⟩, c3, c4⟩ := o2
      have l1 : (b.1.2 + 1).toNat < Q.rows.length + 1 := by omega
      have l2 : (c.1.2 + 1).toNat < Q.rows.length + 1 := by omega
      have e1 : (c.1.1 + 1).toNat = (b.1.1 + 1).toNat := by
        have q := congrArg (· / (Q.rows.length + 1)) e
        rw [Nat.mul_comm, Nat.mul_comm (b.1.1 + 1).toNat, Nat.mul_add_div (by omega), Nat.mul_add_div (by omega), Nat.div_eq_of_lt l1, Nat.div_eq_of_lt l2] at q
        omega
      have e2 : (c.1.2 + 1).toNat = (b.1.2 + 1).toNat := by rw [e1] at e; omega
      refine List.mem_map.mpr ⟨c, hc, ?_⟩
      refine Prod.ext ?_ ?_ <;> omega
  · intro x hx
    obtain ⟨b, hb, rfl⟩ := List.mem_map.mp hx
    obtain ⟨⟨a1, a2⟩, a3, a4⟩ := bq_ok hP hQ t b hb
    have h1 : (b.1.1 + 1).toNat ≤ P.rows.length := by omega
    have h2 : (b.1.2 + 1).toNat < Q.rows.length + 1 := by omega
    calc (b.1.1 + 1).toNat * (Q.rows.length + 1) + (b.1.2 + 1).toNat < (b.1.1 + 1).toNat * (Q.rows.length + 1) + (Q.rows.length + 1) := by omega
      _ = ((b.1.1 + 1).toNat + 1) * (Q.rows.length + 1) := by rw [Nat.succ_mul]
      _ ≤ (P.rows.length + 1) * (Q.rows.length + 1) := Nat.mul_le_mul_right _ (by omega)
/-- behind the end nothing comes -/
theorem bq_stop {t : Nat} (h : (bq P Q t).length ≤ t) : ∀ {u : Nat}, t ≤ u → bq P Q u = bq P Q t := by
  intro u hu
  induction hu with
  | refl => rfl
  | @step m hm ih =>
    have hm : t ≤ m := hm
    rw [bq_succ_none (by rw [ih]; exact List.getElem?_eq_none (by omega)), ih]
theorem fin_at (hP : P.Ok) (hQ : Q.Ok) (hs : (P.rows.length + 1) * (Q.rows.length + 1) ≤ 400) {t : Nat} (h : (bq P Q t).length ≤ t) : bq P Q t = fin P Q := by
  unfold fin
  rcases Nat.le_total t 400 with h1 | h1
  · exact (bq_stop h h1).symm
  · exact bq_stop (Nat.le_trans (bq_few hP hQ 400) hs) h1
theorem bq_text (t : Nat) : ∀ b ∈ bq P Q t, b.2.length ≤ t := by
  induction t with
  | zero =>
    intro b hb
    have e : b = ((0, 0), []) := by simpa [bq] using hb
    rw [e]; exact Nat.le_refl _
  | succ t ih =>
    cases h : (bq P Q t)[t]? with
    | none => rw [bq_succ_none h]; exact fun b hb => Nat.le_succ_of_le (ih b hb)
    | some c =>
      rw [bq_succ_some h]
      intro b hb
      rcases addTo_mem _ _ _ hb with hb | ⟨p, hp, rfl⟩
      · exact Nat.le_succ_of_le (ih b hb)
      · have := ih c (List.mem_of_getElem? h)
        rw [List.length_append, List.length_singleton]
        omega
theorem fin_eq : fin P Q = bq P Q 400 := by unfold fin; rfl
theorem fin_ok (hP : P.Ok) (hQ : Q.Ok) : ∀ b ∈ fin P Q, NodeOk P Q b.1 := by rw [fin_eq]; exact bq_ok hP hQ 400
theorem fin_few (hP : P.Ok) (hQ : Q.Ok) (hs : (P.rows.length + 1) * (Q.rows.length + 1) ≤ 400) : (fin P Q).length ≤ 400 := by rw [fin_eq]; exact Nat.le_trans (bq_few hP hQ 400) hs
theorem fin_text : ∀ b ∈ fin P Q, b.2.length ≤ 400 := by rw [fin_eq]; exact bq_text 400
theorem fin_nodup : ((fin P Q).map (·.1)).Nodup := by rw [fin_eq]; exact bq_nodup 400
theorem fin_pos : 0 < (fin P Q).length := by
  have h := (bq_pre (P := P) (Q := Q) (Nat.zero_le 400)).length_le
  have e : (bq P Q 0).length = 1 := rfl
  rw [fin_eq]
  omega
end
end Tk
set_option maxHeartbeats 1000000
/-! small defs -/
namespace Tk
open PySem L2
section
variable {P : Program} {w : World} {K : PySem.W.Frag} {mg : Str → Option Value} {base : Heap}
def isIn (d : PyData) (lo hi : Int) : Bool := match d with
  | .int n => decide (lo ≤ n) && decide (n ≤ hi)
  | _ => false
def spIsint : Sp := fun vs H Q _ => ∃ v d lo hi, vs = [v, .int lo, .int hi] ∧ Im H v d ∧ Q (.bl (isIn d lo hi)) H
theorem ok_isint (T : Fx K mg) : FnOk P w K mg base CX0 1 T.a_isint T.d_isint ["thing", "low", "high"] spIsint := by
  refine T.F_isint.ok sc_isint (fun vs H Q E h => ?_) (fun cdv A outer s H vs Q E hr h => ?_)
  · obtain ⟨v, d, lo, hi, rfl, _⟩ := h; rfl
  obtain ⟨v, d, lo, hi, rfl, hi', k⟩ := h
  refine ⟨_, (pss_one (ps_ret (pe_and (pe_callB (cr_is kit_I) (by rfl) T.z_isinstance (by decide +kernel) (pa_cons (pv 0) (pa_cons (pe_bltn (v := .ty "int") (u := .type "int") (by rfl) T.z_int (by decide +kernel) rfl) pa_nil))) (pe_and (pe_not (pe_callB (cr_is kit_B) (by rfl) T.z_isinstance (by decide +kernel) (pa_cons (pv 0) (pa_cons (pe_bltn (v := .ty "bool") (u := .type "bool") (by rfl) T.z_bool (by decide +kernel) rfl) pa_nil)))) (pe_one (pe_chain op_le op_le (pv 1) (pv 0) (pv 2))))))), ?_⟩
  refine ⟨_, rfl, v, d, rfl, hi', _, rfl, ?_⟩
  cases hi' with
  | int n =>
    refine iteT ⟨_, rfl, _, .int n, rfl, .int n, _, rfl, _, rfl, ?_⟩
    refine iteT ⟨_, rfl, _, rfl, _, _, rfl, rfl, _, rfl, ite2 (fun c => ⟨_, rfl, _, _, rfl, rfl, ?_⟩) (fun c => ?_)⟩
    · have e : isIn (.int n) lo hi = decide (n ≤ hi) := by show (decide (lo ≤ n) && _) = _; rw [c]; rfl
      rw [e] at k; exact k
    · have e : isIn (.int n) lo hi = false := by show (decide (lo ≤ n) && _) = _; rw [Bool.eq_false_iff.mpr c]; rfl
      rw [e] at k; exact k
  | bl b => exact iteT ⟨_, rfl, _, .bool b, rfl, .bl b, _, rfl, _, rfl, iteF k⟩
  | non => exact iteF k
  | str x => exact iteF k
  | tup e t => exact iteF k
  | lst e t => exact iteF k
/-! ### a plan as it stands -/
def sgS (c : Nat) : Str := ⟨#[c]⟩
def rowD (r : Row) : PyData := .tuple (r.map fun p => .tuple [sgn p.1, .int p.2])
def Pl.st (P : Pl) : PyData := .tuple (P.rows.map rowD)
def Pl.en (P : Pl) : PyData := .tuple (P.ends.map fun (e : Nat) => .int e)
def Pl.d (P : Pl) : PyData := .tuple [P.st, P.en]
def rowKV (r : Row) : List (Key × V) := r.map fun p => (Sum.inr (sgS p.1), V.int p.2)
def flagsV (P : Pl) : List V := (List.range P.rows.length).map fun i => V.bl (decide (i ∈ P.ends))
def TabsAt (H : Hp) (ts : List V) (rs : List Row) : Prop := ts.length = rs.length ∧ ∀ (i : Nat) (r : Row), rs[i]? = some r → ∃ d : Addr, ts[i]? = some (V.ref d) ∧ H d = some (.dK (rowKV r))
theorem TabsAt.ext {H H' : Hp} {ts : List V} {rs : List Row} (h : TabsAt H ts rs) (s : LamX.ExtN H H') : TabsAt H' ts rs := ⟨h.1, fun i r e => let ⟨d, h1, h2⟩ := h.2 i r e; ⟨d, h1, s _ _ h2 (fun _ z => nomatch z)⟩⟩
def PlanO (C : Addr) (H : Hp) (p : Addr) (L : Pl) : Prop := ∃ (dx : Addr) (fs : List (Str × V)) (sv : V) (t e : Addr) (ts : List V), H p = some (.ins C dx fs) ∧ fs.lookup ("states" : Str) = some sv ∧ fs.lookup ("table" : Str) = some (V.ref t) ∧ fs.lookup ("is_end" : Str) = some (V.ref e) ∧
  Im H sv L.st ∧ H t = some (.tup ts) ∧ TabsAt H ts L.rows ∧ H e = some (.tup (flagsV L))
theorem PlanO.ext {C : Addr} {H H' : Hp} {p : Addr} {L : Pl} (h : PlanO C H p L) (s : LamX.ExtN H H') : PlanO C H' p L := by
  obtain ⟨dx, fs, sv, t, e, ts, h1, h2, h3, h4, h5, h6, h7, h8⟩ := h
  exact ⟨dx, fs, sv, t, e, ts, s _ _ h1 (fun _ z => nomatch z), h2, h3, h4, h5.ext s, s _ _ h6 (fun _ z => nomatch z), h7.ext s, s _ _ h8 (fun _ z => nomatch z)⟩
theorem PlanO.mono {C : Addr} {H H' : Hp} {p : Addr} {L : Pl} (h : PlanO C H p L) (s : Same H H') : PlanO C H' p L := h.ext (LamX.ExtN.of s)
def isEnd (L : Pl) (i : Int) : Bool := decide (0 ≤ i) && decide (i.toNat ∈ L.ends)
def spIsfinal (C : Addr) : Sp := fun vs H Q _ => ∃ p L i, vs = [.ref p, .int i] ∧ PlanO C H p L ∧ i < L.rows.length ∧ Q (.bl (isEnd L i)) H
theorem flags_at {L : Pl} {i : Int} (h0 : 0 ≤ i) (h : i < L.rows.length) : atI (flagsV L) i = some (.bl (decide (i.toNat ∈ L.ends))) := by
  obtain ⟨j, rfl⟩ : ∃ j : Nat, i = j := ⟨i.toNat, by omega⟩
  refine atI_nat ?_
  unfold flagsV
  rw [List.getElem?_map, List.getElem?_range (by omega)]
  rfl
theorem ok_isfinal (T : Fx K mg) : FnOk P w K mg base CX0 1 T.a_isfinal T.d_isfinal ["plan", "state"] (spIsfinal T.cP) := by
  refine T.F_isfinal.ok sc_isfinal (fun vs H Q E h => ?_) (fun cdv A outer s H vs Q E hr h => ?_)
  · obtain ⟨p, L, i, rfl, _⟩ := h; rfl
  obtain ⟨p, L, i, rfl, hp, hi, k⟩ := h
  refine ⟨_, (pss_one (ps_ret (pe_and (pe_cmpR op_ge (pv 1) pe_int (nomark _)) (pe_one (pe_ix ix_tup (pe_fld (pv 0) rfl) (pv 1) (fun _ _ => rfl)))))), ?_⟩
  obtain ⟨dx, fs, sv, t, e, ts, h1, h2, h3, h4, h5, h6, h7, h8⟩ := hp
  refine ⟨_, rfl, _, _, rfl, rfl, _, rfl, ite2 (fun c => ?_) (fun c => ?_)⟩
  · have c : 0 ≤ i := by simpa using c
    refine ⟨_, rfl, p, T.cP, dx, fs, _, rfl, h1, T.clP, T.nP_is_end, h4, _, rfl, e, _, i, _, rfl, rfl, SqT.of h8, flags_at c hi, ?_⟩
    have e : isEnd L i = decide (i.toNat ∈ L.ends) := by unfold isEnd; rw [decide_eq_true c]; rfl
    rw [e] at k; exact k
  · have c : ¬ 0 ≤ i := by simpa using c
    have e : isEnd L i = false := by unfold isEnd; rw [decide_eq_false c]; rfl
    rw [e] at k; exact k
end
end Tk
/-! cuts, comprehensions that make data -/
namespace Tk
open PySem L2
theorem szle {n : Nat} (h : n ≤ 1000000) : n ≤ sizeLine := by rw [sizeLine_eq]; omega
theorem szlt {n : Nat} (h : n < 1000000) : n < sizeLine := by rw [sizeLine_eq]; omega
theorem sz2 : 2 ≤ sizeLine := szle (by decide)
theorem pe_imp {X : Cx} {e : Expr} {t t' : TE} (h : PE X e t) (i : ∀ σ H Q, t' σ H Q → t σ H Q) : PE X e t' := ⟨fun pins s σ H Q I q => h.run pins s σ H Q I (i σ H Q q)⟩
theorem ps_imp {X : Cx} {e : Stmt} {t t' : TS} (h : PS X e t) (i : ∀ D σ H, t' D σ H → t D σ H) : PS X e t' := ⟨fun pins s σ H D I q => h.run pins s σ H D I (i D σ H q)⟩
theorem walk_enumT {K : PySem.W.Frag} {a : Addr} {xs : List V} : Walk (ItT K a) xs.length (fun H => SqT K H a xs) (YPair (fun i => some (.int (i : Nat))) (fun i => xs[i]?)) := by
  refine ⟨fun i _ hi q => ⟨xs, xs[i], q, by simp [hi]⟩, fun _ q => ⟨xs, q, Nat.le_refl _⟩, fun i H v H' _ q y => ?_⟩
  obtain ⟨T, x, h1, h2, h3, h4⟩ := y
  exact ⟨T, .int (i : Nat), x, h1, h2, h3, rfl, h4 xs q⟩
theorem walk_zipT {K : PySem.W.Frag} {a b : Addr} {xs ys : List V} {n : Nat} (hn : n = min xs.length ys.length) : Walk (RZ.ItzT K a b) n (fun H => SqT K H a xs ∧ SqT K H b ys) (YPair (fun i => xs[i]?) (fun i => ys[i]?)) := by
  subst hn
  refine ⟨fun i _ hi q => ?_, fun _ q => ⟨xs, ys, q.1, q.2, by omega⟩, fun i H v H' _ q y => ?_⟩
  · have h1 : i < xs.length := by omega
    have h2 : i < ys.length := by omega
    exact ⟨xs, ys, xs[i], ys[i], q.1, q.2, by simp [h1], by simp [h2]⟩
  · obtain ⟨T, x, z, h1, h2, h3, h4, h5⟩ := y
    exact ⟨T, x, z, h1, h2, h3, h4 xs q.1, h5 ys q.2⟩
section
variable {B H H' H4 : Hp} {D : Addr} {f : Nat → Option PyData} {i : Nat}
/-- what a comprehension has made: D the list, over the base B -/
def PvIm (B : Hp) (D : Addr) (f : Nat → Option PyData) (i : Nat) (H : Hp) : Prop := Same B (hide [D] H) ∧ ∃ acc, H D = some (.lst acc) ∧ acc.length ≤ i ∧ Ims (hide [D] H) acc ((List.range i).filterMap f)
theorem PvIm.zero (h : B D = none) : PvIm B D f 0 (upd B D (.lst [])) := by
  refine ⟨fun b o e => ?_, [], upd_same, Nat.le_refl _, .nil⟩
  have n := ne_of_none e h
  rw [hide_out (by simpa using n), upd_ne n]; exact e
theorem PvIm.base (p : PvIm B D f i H) : Same B H := p.1.trans (hide_same _ _)
theorem PvIm.push (p : PvIm B D f i H) (s : Same (hide [D] H) (hide [D] H4)) (hD : H4 D = H D) {d : PyData} (hf : f i = some d) {y : V} (hy : Im (hide [D] H4) y d) (hi : i < 1000000) :
    ∃ acc, H4 D = some (.lst acc) ∧ acc.length < sizeLine ∧ PvIm B D f (i + 1) (upd H4 D (.lst (acc ++ [y]))) := by
  obtain ⟨h1, acc, h2, h3, h4⟩ := p
  refine ⟨acc, hD.trans h2, by rw [sizeLine_eq]; omega, ?_, acc ++ [y], upd_same, by rw [List.length_append, List.length_singleton]; omega, ?_⟩
  · rw [hide_mut (by simp)]; exact h1.trans s
  · rw [hide_mut (by simp), List.range_succ, List.filterMap_append, List.filterMap_cons, hf]
    exact (h4.mono s).snoc hy
theorem PvIm.skip (p : PvIm B D f i H) (s : Same (hide [D] H) (hide [D] H4)) (hD : H4 D = H D) (hf : f i = none) : PvIm B D f (i + 1) H4 := by
  obtain ⟨h1, acc, h2, h3, h4⟩ := p
  refine ⟨h1.trans s, acc, hD.trans h2, Nat.le_succ_of_le h3, ?_⟩
  rw [List.range_succ, List.filterMap_append, List.filterMap_cons, hf]
  simpa using h4.mono s
/-- a new object beside the hidden ones -/
theorem hide_upd {L : List Addr} {p : Addr} {o : HO} (h : H p = none) : Same (hide L H) (hide L (upd H p o)) := fun b x e => by
  obtain ⟨h1, h2⟩ := hide_some e
  rw [hide_out h1, upd_ne (ne_of_none h2 h)]; exact h2
theorem im_mut {p : Addr} {o : HO} (h : H p = none) {v : V} {d : PyData} (hv : Im H v d) : Im (upd H p o) v d := hv.mono (same_new h)
theorem lock_same {d : Addr} {u : HO} {od : Obj} (hd : H d = some u) (s : Same (upd H d (.frz od u)) H') : Same H (upd H' d u) := fun b o e => by
  by_cases hb : b = d
  · subst hb; rw [hd] at e; cases e; exact upd_same
  · rw [upd_ne hb]; exact s b o ((upd_ne hb).trans e)
end
/-- the items of a list by their places -/
theorem filterMap_range {α β : Type} {l : List α} {f : α → Option β} : (List.range l.length).filterMap (fun i => (l[i]?).bind f) = l.filterMap f := by
  have h : ∀ (l : List α) (k : Nat) (m : List α), m.length = k → (List.range' k l.length).filterMap (fun i => ((m ++ l)[i]?).bind f) = l.filterMap f := by
    intro l
    induction l with
    | nil => intros; rfl
    | cons a l ih =>
      intro k m hm
      rw [List.length_cons, List.range'_succ, List.filterMap_cons]
      have e : (m ++ a :: l)[k]? = some a := by rw [List.getElem?_append_right (by omega), hm, Nat.sub_self]; rfl
      rw [e, List.filterMap_cons]
      have q := ih (k + 1) (m ++ [a]) (by rw [List.length_append, hm]; rfl)
      rw [List.append_assoc] at q
      simp only [List.cons_append, List.nil_append] at q
      simp only [Option.bind_some]
      cases f a with
      | none => exact q
      | some b => exact congrArg _ q
  rw [List.range_eq_range']
  exact h l 0 [] rfl
theorem map_range {α β : Type} {l : List α} {f : α → β} : (List.range l.length).filterMap (fun i => (l[i]?).map f) = l.map f := by
  have := filterMap_range (l := l) (f := fun a => some (f a))
  rw [List.filterMap_eq_map'] at this
  rw [← this]
  congr 1
  funext i
  cases l[i]? <;> rfl
mutual
/-- no list within -/
def noL : PyData → Bool
  | .list _ => false
  | .tuple xs => noLs xs
  | _ => true
def noLs : List PyData → Bool
  | [] => true
  | x :: xs => noL x && noLs xs
end
section
variable {L : List Addr} {H : Hp}
mutual
theorem Im.hid (hL : ∀ p ∈ L, ∀ xs, H p ≠ some (.tup xs)) : ∀ {v : V} {d : PyData}, Im H v d → noL d = true → Im (hide L H) v d
  | _, _, .non, _ => .non
  | _, _, .bl b, _ => .bl b
  | _, _, .int i, _ => .int i
  | _, _, .str x, _ => .str x
  | _, _, .tup e h, n => .tup (by rw [hide_out (fun z => hL _ z _ e)]; exact e) (Ims.hid hL h (by simpa [noL] using n))
theorem Ims.hid (hL : ∀ p ∈ L, ∀ xs, H p ≠ some (.tup xs)) : ∀ {vs : List V} {ds : List PyData}, Ims H vs ds → noLs ds = true → Ims (hide L H) vs ds
  | _, _, .nil, _ => .nil
  | _, _, .cons h t, n => by
    rw [noLs, Bool.and_eq_true] at n
    exact .cons (Im.hid hL h n.1) (Ims.hid hL t n.2)
end
end
theorem noLs_all : ∀ {ds : List PyData}, (∀ d ∈ ds, noL d = true) → noLs ds = true
  | [], _ => rfl
  | d :: ds, h => by rw [noLs, h d (List.mem_cons_self ..), noLs_all fun x hx => h x (List.mem_cons_of_mem _ hx)]; rfl
theorem hide_grow {L : List Addr} {p : Addr} {o : HO} {H : Hp} (h : H p = none) : Same (hide L H) (hide (p :: L) (upd H p o)) := fun b x e => by
  obtain ⟨h1, h2⟩ := hide_some e
  have n := ne_of_none h2 h
  rw [hide_out (by rw [List.mem_cons, not_or]; exact ⟨n, h1⟩), upd_ne n]; exact h2
theorem hide_drop {L : List Addr} {p : Addr} {H : Hp} : Same (hide (p :: L) H) (hide L H) := hide_sub fun q h => List.mem_cons_of_mem _ h
/-- t + u, u not empty -/
def rCatN : R2 := fun x y H Q => ∃ a b xs ys, x = .ref a ∧ y = .ref b ∧ H a = some (.tup xs) ∧ H b = some (.tup ys) ∧ xs.length + ys.length ≤ 1000000 ∧ ys ≠ [] ∧ ∀ t H', Same H H' → H' t = some (.tup (xs ++ ys)) → Q (.ref t) H'
theorem op_catN {X : Cx} : OpR X (binaryOp .Add) rCatN := by
  intro pins s σ H x y v u Q I rx ry h
  obtain ⟨a, b, xs, ys, rfl, rfl, h1, h2, hl, hy, q⟩ := h
  refine op_catA pins s σ H _ _ v u Q I rx ry ⟨a, b, xs, ys, rfl, rfl, SqT.of h1, SqT.of h2, szle hl, fun e => ?_, fun _ e => absurd e hy, fun _ _ p hp => q p _ (same_new hp) upd_same⟩
  subst e
  exact q b H (fun _ _ e => e) (by simpa using h2)
end Tk
set_option maxHeartbeats 1000000
/-! pair_steps -/
namespace Tk
open PySem L2
theorem dataLe_sgn (a b : Nat) : PySem.W.dataLe false id (sgn a) (sgn b) = leN a b := by
  show (!PySem.W.dataLt (sgn b) (sgn a)) = _
  unfold sgn
  rw [PySem.W.dataLt_str]
  unfold leN
  show (!decide ([b] < [a])) = decide (a ≤ b)
  have e : ([b] < [a]) ↔ b < a := by
    rw [List.cons_lt_cons_iff]
    exact ⟨fun h => h.elim id fun h => absurd h.2 (List.not_lt_nil _), .inl⟩
  by_cases h : a ≤ b
  · rw [decide_eq_true h, decide_eq_false (fun q => by have := e.mp q; omega)]; rfl
  · rw [decide_eq_false h, decide_eq_true (e.mpr (by omega))]; rfl
theorem sort_sgn (l : List Nat) : (l.map sgn).mergeSort (PySem.W.dataLe false id) = (l.mergeSort leN).map sgn :=
  (List.map_mergeSort fun a _ b _ => (dataLe_sgn a b).symm).symm
def stepD (p : Nat × Node) : PyData := .tuple [sgn p.1, .tuple [.int p.2.1, .int p.2.2]]
section
variable {P : Program} {w : World} {K : PySem.W.Frag} {mg : Str → Option Value} {base : Heap}
theorem PlanO.row {C : Addr} {H : Hp} {p : Addr} {L : Pl} (h : PlanO C H p L) {i : Int} (h0 : 0 ≤ i) (hi : i < L.rows.length) : ∃ (dx : Addr) (fs : List (Str × V)) (t d : Addr) (ts : List V), H p = some (.ins C dx fs) ∧ fs.lookup ("table" : Str) = some (V.ref t) ∧ H t = some (.tup ts) ∧ atI ts i = some (.ref d) ∧ H d = some (.dK (rowKV (L.rowOf i))) := by
  obtain ⟨dx, fs, sv, t, e, ts, h1, h2, h3, h4, h5, h6, h7, h8⟩ := h
  have hl : i.toNat < L.rows.length := by omega
  obtain ⟨d, e1, e2⟩ := h7.2 i.toNat _ (List.getElem?_eq_getElem hl)
  refine ⟨dx, fs, t, d, ts, h1, h3, h6, ?_, ?_⟩
  · have : i = (i.toNat : Int) := by omega
    rw [this]; exact atI_nat e1
  · unfold Pl.rowOf
    rw [if_neg (by omega), List.getD_eq_getElem?_getD, List.getElem?_eq_getElem hl]
    exact e2
/-- table[pair[k]], or {} -/
def tRow (C : Addr) (ip k : Nat) : TE := fun σ H Q => ∃ (p : Addr) (L : Pl) (a : Addr) (xs : List V) (i : Int), σ[ip]? = some (some (.ref p)) ∧ σ[2]? = some (some (.ref a)) ∧ PlanO C H p L ∧ H a = some (.tup xs) ∧ xs[k]? = some (.int i) ∧ i < L.rows.length ∧
  ∀ (H1 : Hp) (d : Addr), Same H H1 → H1 d = some (.dK (rowKV (L.rowOf i))) → Q (.ref d) H1
def spPsteps (C : Addr) : Sp := fun vs H Q _ => ∃ (p q : Addr) (L M : Pl) (n : Node) (a : Addr), vs = [.ref p, .ref q, .ref a] ∧ PlanO C H p L ∧ PlanO C H q M ∧ L.Ok ∧ M.Ok ∧ H a = some (.tup [.int n.1, .int n.2]) ∧ NodeOk L M n ∧
  ∀ (H' : Hp) (l : Addr) (ws : List V), Same H H' → H l = none → H' l = some (.lst ws) → Ims (hide [l] H') ws ((nx L M n).map stepD) → Q (.ref l) H'
theorem row_get {r : Row} (s : Nat) : (valV (rowKV r) (Sum.inr (sgS s) : Key)) = (r.lookup s).map fun (a : Nat) => V.int a := by
  induction r with
  | nil => rfl
  | cons p r ih =>
    obtain ⟨a, b⟩ := p
    rw [List.lookup_cons]
    unfold valV rowKV at ih ⊢
    rw [List.map_cons, List.find?_cons]
    by_cases e : s = a
    · subst e
      rw [decide_eq_true rfl, show (s == s) = true by simp]
      rfl
    · have h2 : ¬ ((Sum.inr (sgS a) : Key) = Sum.inr (sgS s)) := fun q => e (by
        have q := congrArg (fun z : Str => z.cps.toList) (Sum.inr.inj q)
        have q : [a] = [s] := q
        exact (List.cons.inj q).1.symm)
      rw [decide_eq_false h2, show (s == a) = false by simpa using e]
      exact ih
theorem row_getD {r : Row} (s : Nat) : (valV (rowKV r) (Sum.inr (sgS s) : Key)).getD (.int (-1)) = .int (look r s) := by
  rw [row_get]
  unfold look
  cases r.lookup s <;> rfl
theorem keys_im {H : Hp} : ∀ (r : Row), Ims H ((rowKV r).map fun kv => kV kv.1) ((r.map (·.1)).map sgn)
  | [] => .nil
  | p :: r => .cons (.str _) (keys_im r)
theorem Ims.sgns (H : Hp) : ∀ (l : List Nat), Ims H (l.map fun s => V.str (sgS s)) (l.map sgn)
  | [] => .nil
  | a :: l => .cons (.str _) (Ims.sgns H l)
theorem Ims.sgns_inv {H : Hp} : ∀ {l : List Nat} {vs : List V}, Ims H vs (l.map sgn) → vs = l.map fun s => V.str (sgS s)
  | [], _, h => h.nil_inv
  | a :: l, _, h => by
    obtain ⟨x, xs, rfl, h1, h2⟩ := h.cons_inv
    rw [Ims.sgns_inv h2, h1.str_inv]; rfl
theorem filterMap_sgn {r q : Row} : (q.filterMap fun x => if (r.lookup x.1).isNone then some (sgn x.1) else none) = ((q.map (·.1)).filter fun s => (r.lookup s).isNone).map sgn := by
  induction q with
  | nil => rfl
  | cons x q ih =>
    rw [List.filterMap_cons, List.map_cons, List.filter_cons]
    cases e : (r.lookup x.1).isNone with
    | true => rw [if_pos rfl, if_pos rfl, List.map_cons]; exact congrArg _ ih
    | false => rw [if_neg (by simp), if_neg (by simp)]; exact ih
theorem row_few {L : Pl} (h : L.Ok) {i : Int} (hi : i < L.rows.length) : (L.rowOf i).length ≤ 123 := by
  have := few_below 123 ((L.rowOf i).map (·.1)) (rise_nodup (rowOf_rise h hi)) fun x hx => by
    obtain ⟨p, hp, rfl⟩ := List.mem_map.mp hx
    exact okSign_lt (rowOf_sign h hi p hp).1
  simpa using this
theorem ok_psteps (T : Fx K mg) : FnOk P w K mg base CX0 1 T.a_psteps T.d_psteps ["first", "second", "pair"] (spPsteps T.cP) := by
  refine T.F_psteps.ok sc_psteps (fun vs H Q E h => ?_) (fun cdv A outer s H vs Q E hr h => ?_)
  · obtain ⟨p, q, L, M, n, a, rfl, _⟩ := h; rfl
  obtain ⟨p, q, L, M, n, a, rfl, hp, hq, okL, okM, ha, hn, k⟩ := h
  have hu := hu_of hr
  refine ⟨_, (pss_cons (ps_set (i := 3) sc_psteps.nd rfl (.inr rfl) (pe_imp (t' := tRow T.cP 0 0) (pe_ifExp (pt_cmpR op_lt (pe_ix ix_tup (pv 2) pe_int (fun _ _ => rfl)) pe_int (nomark _)) pe_dnewK (pe_ix ix_tup (pe_fld (pv 0) rfl) (pe_ix ix_tup (pv 2) pe_int (fun _ _ => rfl)) (fun _ _ => rfl))) ?I1))
    (pss_cons (ps_set (i := 4) sc_psteps.nd rfl (.inr rfl) (pe_imp (t' := tRow T.cP 1 1) (pe_ifExp (pt_cmpR op_lt (pe_ix ix_tup (pv 2) pe_int (fun _ _ => rfl)) pe_int (nomark _)) pe_dnewK (pe_ix ix_tup (pe_fld (pv 1) rfl) (pe_ix ix_tup (pv 2) pe_int (fun _ _ => rfl)) (fun _ _ => rfl))) ?I2))
    (pss_cons (ps_set (i := 5) sc_psteps.nd rfl (.inl rfl) (pe_callB (cr_sortedD hr.units) (by rfl) T.z_sorted (by decide +kernel) (pa_cons (pe_op op_cat (pe_callTy (call_listD rfl) (by rfl) T.z_list (by decide +kernel) (pa_cons (pv 3) pa_nil)) (pe_lock (pe_lc (own := [("sign", 6)]) (by rfl) sc_psteps.nd (pi_keys (pv 4)) (blkOk_by (own := [("sign", 6)]) (N := ["first", "second", "pair", "ones", "twos", "signs", "sign"]) (sc := defScope (top 15)) (by decide +kernel)) (fun _ _ _ _ _ => (pg_name (i := 6) sc_psteps.nd rfl (.inl rfl))) (fun _ _ _ _ _ => (pts_one (pt_cmp (pc_dnotin hu (pv 6) (pv 3))))) (fun _ _ _ _ _ => (pv 6))))) pa_nil)))
    (pss_one (ps_ret (pe_lc (own := [("sign", 6)]) (by rfl) sc_psteps.nd (pi_list (pv 5)) (blkOk_by (own := [("sign", 6)]) (N := ["first", "second", "pair", "ones", "twos", "signs", "sign"]) (sc := defScope (top 15)) (by decide +kernel)) (fun _ _ _ _ _ => (pg_name (i := 6) sc_psteps.nd rfl (.inl rfl))) (fun _ _ _ _ _ => pts_nil) (fun _ _ _ _ _ => (pe_tup (pa_cons (pv 6) (pa_cons (pe_tup (pa_cons (pe_dget2 hu (pv 3) (pv 6) (pe_un un_neg pe_int) ⟨by rfl, by rfl, by rfl, by rfl⟩) (pa_cons (pe_dget2 hu (pv 4) (pv 6) (pe_un un_neg pe_int) ⟨by rfl, by rfl, by rfl, by rfl⟩) pa_nil))) pa_nil)))))))))), ?_⟩
  case I1 =>
    intro σ H Q h
    obtain ⟨p, L, a, xs, i, h1, h2, hp, ha, hx, hi, k⟩ := h
    refine ⟨_, h2, a, xs, 0, _, rfl, rfl, SqT.of ha, atI_nat (j := 0) hx, _, _, rfl, rfl, _, rfl, ite2 (fun c d hd => ?_) (fun c => ?_)⟩
    · have c : i < 0 := by simpa using c
      have e : L.rowOf i = [] := if_pos c
      refine k _ d (same_new hd) ?_
      rw [upd_same, e]; rfl
    · have c : 0 ≤ i := by simpa using c
      obtain ⟨dx, fs, t, d, ts, e1, e2, e3, e4, e5⟩ := hp.row c hi
      exact ⟨_, h1, p, T.cP, dx, fs, _, rfl, e1, T.clP, T.nP_table, e2, _, h2, a, xs, 0, _, rfl, rfl, SqT.of ha, atI_nat (j := 0) hx, t, ts, i, _, rfl, rfl, SqT.of e3, e4, k H d (fun b o e => e) e5⟩
  case I2 =>
    intro σ H Q h
    obtain ⟨p, L, a, xs, i, h1, h2, hp, ha, hx, hi, k⟩ := h
    refine ⟨_, h2, a, xs, 1, _, rfl, rfl, SqT.of ha, atI_nat (j := 1) hx, _, _, rfl, rfl, _, rfl, ite2 (fun c d hd => ?_) (fun c => ?_)⟩
    · have c : i < 0 := by simpa using c
      have e : L.rowOf i = [] := if_pos c
      refine k _ d (same_new hd) ?_
      rw [upd_same, e]; rfl
    · have c : 0 ≤ i := by simpa using c
      obtain ⟨dx, fs, t, d, ts, e1, e2, e3, e4, e5⟩ := hp.row c hi
      exact ⟨_, h1, p, T.cP, dx, fs, _, rfl, e1, T.clP, T.nP_table, e2, _, h2, a, xs, 1, _, rfl, rfl, SqT.of ha, atI_nat (j := 1) hx, t, ts, i, _, rfl, rfl, SqT.of e3, e4, k H d (fun b o e => e) e5⟩
  refine ⟨p, L, a, _, n.1, rfl, rfl, hp, ha, rfl, hn.1.2, fun H1 d1 s1 e1 => ?_⟩
  refine ⟨q, M, a, _, n.2, rfl, rfl, hq.mono s1, s1 _ _ ha, rfl, hn.2.2, fun H2 d2 s2 e2 => ?_⟩
  have e1 := s2 _ _ e1
  have f1 := row_few okL hn.1.2
  have f2 := row_few okM hn.2.2
  generalize hr1 : L.rowOf n.1 = r1 at e1 f1
  generalize hr2 : M.rowOf n.2 = r2 at e2 f2
  have s02 := s1.trans s2
  refine ⟨_, rfl, d1, _, rfl, Rd.of e1, fun p3 n3 => ?_⟩
  have s3 : Same H2 (upd H2 p3 (.lst ((rowKV r1).map fun kv => kV kv.1))) := same_new n3
  generalize hH3 : upd H2 p3 (.lst ((rowKV r1).map fun kv => kV kv.1)) = H3 at s3
  have l3 : H3 p3 = some (.lst ((rowKV r1).map fun kv => kV kv.1)) := by rw [← hH3]; exact upd_same
  have e1 := s3 _ _ e1
  have e2 := s3 _ _ e2
  refine ⟨d2, _, e2, True.intro, fun od => ⟨_, rfl, d2, od, rfl, .inl ⟨_, upd_same, fun D nD => ?_⟩⟩⟩
  generalize hB : upd H3 d2 (.frz od (.dK (rowKV r2))) = B at nD
  have b2 : B d2 = some (.frz od (.dK (rowKV r2))) := by rw [← hB]; exact upd_same
  have b1 : Rd B d1 (.dK (rowKV r1)) := by
    by_cases e : d1 = d2
    · subst e; rw [e1] at e2; exact .inr ⟨od, b2.trans (congrArg (fun z => some (HO.frz od z)) (Option.some.inj e2).symm)⟩
    · exact .inl (by rw [← hB, upd_ne e]; exact e1)
  have rd1 : ∀ {H' : Hp}, Same B H' → Rd H' d1 (.dK (rowKV r1)) := fun {H'} s => b1.elim (fun z => .inl (s _ _ z)) fun ⟨o, z⟩ => .inr ⟨o, s _ _ z⟩
  refine lc_it walk_keys (PvIm B D fun i => (r2[i]?).bind fun x => if (r1.lookup x.1).isNone then some (sgn x.1) else none) (PvIm.zero nD) (fun i H' _ pv => pv.base _ _ b2) (fun i x H' H'' hi pv y => ?_) fun H' pv => ?_
  · obtain ⟨rfl, kk, v, hk, rfl⟩ := y
    have hi2 : i < r2.length := by simpa [rowKV] using hi
    have hz : r2[i]? = some r2[i] := List.getElem?_eq_getElem hi2
    have ek : kk = Sum.inr (sgS r2[i].1) := by
      unfold rowKV at hk
      rw [List.getElem?_map, hz] at hk
      cases hk; rfl
    subst ek
    refine ⟨rfl, _, rfl, _, rfl, d1, _, rfl, .inl ⟨_, Sum.inr (sgS r2[i].1), rd1 pv.base, rfl, rfl⟩, _, rfl, ?_⟩
    rw [row_get]
    cases hl : r1.lookup r2[i].1 with
    | none => exact iteT ⟨_, rfl, pv.push (fun b o e => e) rfl (by show (r2[i]?).bind _ = _; rw [hz]; show (if (r1.lookup r2[i].1).isNone = true then _ else _) = _; rw [hl]; rfl) (.str _) (by omega)⟩
    | some a => exact iteF (pv.skip (fun b o e => e) rfl (by show (r2[i]?).bind _ = _; rw [hz]; show (if (r1.lookup r2[i].1).isNone = true then _ else _) = _; rw [hl]; rfl))
  · refine ⟨pv.base _ _ b2, ?_⟩
    obtain ⟨sB, acc, hacc, hlen, him⟩ := pv
    have hlr : (rowKV r2).length = r2.length := by simp [rowKV]
    rw [hlr, filterMap_range, filterMap_sgn] at him
    rw [hlr] at hlen
    have s4 : Same H3 (upd H' d2 (.dK (rowKV r2))) := lock_same (od := od) e2 (by rw [hB]; exact sB.trans (hide_same _ _))
    have nDd : D ≠ d2 := fun e => by rw [e, b2] at nD; cases nD
    have ea := Ims.sgns_inv him
    have l4 : upd H' d2 (.dK (rowKV r2)) D = some (.lst acc) := by rw [upd_ne nDd]; exact hacc
    generalize upd H' d2 (.dK (rowKV r2)) = H4 at s4 l4
    have l43 := s4 _ _ l3
    refine ⟨_, _, _, _, rfl, rfl, l43, l4, by rw [List.length_map, show (rowKV r1).length = r1.length by simp [rowKV], sizeLine_eq]; omega, fun p5 n5 => ?_⟩
    have s5 : Same H4 (upd H4 p5 (.lst (((rowKV r1).map fun kv => kV kv.1) ++ acc))) := same_new n5
    refine ⟨p5, _, (r1.map (·.1) ++ (r2.map (·.1)).filter fun s => (r1.lookup s).isNone).map sgn, rfl, SqL.of upd_same, ?_, alike_signs _, sortable_signs _, fun d hd => ?_, fun p6 ws n6 hws => ?_⟩
    · rw [List.map_append, ea]
      exact (keys_im r1).app (Ims.sgns _ _)
    · obtain ⟨c, _, rfl⟩ := List.mem_map.mp hd
      have e0 : (sgn c).depth = 0 := by unfold sgn; simp [PyData.depth]
      omega
    rw [sort_sgn] at hws
    have hws : Ims _ ws ((signs r1 r2).map sgn) := hws
    have ew := Ims.sgns_inv hws
    subst ew
    generalize hH6 : upd (upd H4 p5 (.lst (((rowKV r1).map fun kv => kV kv.1) ++ acc))) p6 (.lst ((signs r1 r2).map fun s => V.str (sgS s))) = H6
    have s6 : Same H3 H6 := by rw [← hH6]; exact (s4.trans s5).trans (same_new n6)
    have l6 : H6 p6 = some (.lst ((signs r1 r2).map fun s => V.str (sgS s))) := by rw [← hH6]; exact upd_same
    refine ⟨_, rfl, p6, rfl, ⟨_, SqL.of l6⟩, fun D7 n7 => ?_⟩
    have e1 := s6 _ _ e1
    have e2 := s6 _ _ e2
    have sH6 : Same H H6 := s02.trans (s3.trans s6)
    have hlen2 : (signs r1 r2).length ≤ 300 := by
      unfold signs
      rw [List.length_mergeSort, List.length_append, List.length_map]
      have := List.length_filter_le (fun s => (r1.lookup s).isNone) (r2.map (·.1))
      rw [List.length_map] at this
      omega
    refine lc_it walk_list (PvIm H6 D7 fun i => ((signs r1 r2)[i]?).map fun s => stepD (s, (look r1 s, look r2 s))) (PvIm.zero n7) (fun i H' _ pv => SqL.of (pv.base _ _ l6)) (fun i x H' H'' hi pv y => ?_) fun H' pv => ?_
    · obtain ⟨rfl, hx⟩ := y
      rw [List.length_map] at hi
      have hz : (signs r1 r2)[i]? = some (signs r1 r2)[i] := List.getElem?_eq_getElem hi
      rw [List.getElem?_map, hz] at hx
      cases hx
      generalize (signs r1 r2)[i] = sg at hz
      refine ⟨rfl, ?_⟩
      have g1 := pv.base _ _ e1
      have g2 := pv.base _ _ e2
      refine ⟨_, rfl, _, rfl, d1, rfl, .inl ⟨_, Rd.of g1⟩, _, rfl, _, rfl, _, .inl ⟨_, Sum.inr (sgS sg), Rd.of g1, rfl, rfl⟩, ?_⟩
      refine ⟨_, rfl, d2, rfl, .inl ⟨_, Rd.of g2⟩, _, rfl, _, rfl, _, .inl ⟨_, Sum.inr (sgS sg), Rd.of g2, rfl, rfl⟩, ?_⟩
      refine ⟨sz2, fun t1 nt1 => ⟨sz2, fun t2 nt2 => ?_⟩⟩
      have q1 : (valV (rowKV r1) (Sum.inr (sgS sg) : Key)).getD (.int (-1)) = .int (look r1 sg) := row_getD sg
      have q2 : (valV (rowKV r2) (Sum.inr (sgS sg) : Key)).getD (.int (-1)) = .int (look r2 sg) := row_getD sg
      have a1 : upd H'' t1 (.tup [(valV (rowKV r1) (Sum.inr (sgS sg) : Key)).getD (.int (-1)), (valV (rowKV r2) (Sum.inr (sgS sg) : Key)).getD (.int (-1))]) t1 = some (.tup [.int (look r1 sg), .int (look r2 sg)]) := by rw [q1, q2]; exact upd_same
      generalize hG : upd H'' t1 (.tup [(valV (rowKV r1) (Sum.inr (sgS sg) : Key)).getD (.int (-1)), (valV (rowKV r2) (Sum.inr (sgS sg) : Key)).getD (.int (-1))]) = G at a1
      have nt2 : G t2 = none := by rw [← hG]; exact nt2
      have sG : Same H'' G := by rw [← hG]; exact same_new nt1
      have hD : H'' D7 ≠ none := by
        obtain ⟨_, acc, h2, _⟩ := pv
        rw [h2]; exact fun z => nomatch z
      have n1 : D7 ≠ t1 := fun e => hD (by rw [e]; exact nt1)
      have n2 : D7 ≠ t2 := fun e => by
        obtain ⟨_, acc, h2, _⟩ := pv
        rw [e] at h2
        rw [sG _ _ h2] at nt2
        cases nt2
      refine pv.push (H4 := upd G t2 (.tup [.str (sgS sg), .ref t1])) ?_ ?_ (d := stepD (sg, (look r1 sg, look r2 sg))) (by show ((signs r1 r2)[i]?).map _ = _; rw [hz]; rfl) ?_ (by omega)
      · rw [← hG] at nt2 ⊢
        exact (hide_upd nt1).trans (hide_upd nt2)
      · rw [upd_ne n2, ← hG, upd_ne n1]
      · refine Im.pair (x := .str (sgS sg)) (y := .ref t1) ?_ (.str _) (Im.pair (x := .int (look r1 sg)) (y := .int (look r2 sg)) ?_ (.int _) (.int _))
        · rw [hide_out (by simpa using n2.symm)]; exact upd_same
        · rw [hide_out (by simpa using n1.symm), upd_ne (ne_of_none a1 nt2)]; exact a1
    · obtain ⟨sB, acc, hacc, hlen, him⟩ := pv
      rw [List.length_map, map_range] at him
      refine k H' D7 acc (sH6.trans (sB.trans (hide_same _ _))) (sH6.free n7) hacc ?_
      unfold nx nxR
      rw [hr1, hr2, List.map_map]
      exact him
end
end Tk
/-! the walk by levels is the walk by the queue -/
namespace Tk
open PySem L2
/-- a node found: by which place of the level, by which sign -/
abbrev MN := Node × (Nat × Nat)
def addM (r : Nat) (seen : List Node) : List MN → List (Nat × Node) → List MN
  | acc, [] => acc
  | acc, p :: l => addM r seen (if p.2 ∈ seen ∨ p.2 ∈ acc.map (·.1) then acc else acc ++ [(p.2, (r, p.1))]) l
/-- found behind the first r of a level; the nodes of the level are ns -/
def lvM (P Q : Pl) (seen : List Node) (ns : List Node) : Nat → List MN
  | 0 => []
  | r + 1 => match ns[r]? with
    | some n => addM r seen (lvM P Q seen ns r) (nx P Q n)
    | none => lvM P Q seen ns r
def ltM (a b : Nat × Nat) : Prop := a.1 < b.1 ∨ (a.1 = b.1 ∧ a.2 < b.2)
def withP (ps : List (List Nat)) (m : MN) : BN := (m.1, (ps.getD m.2.1 []) ++ [m.2.2])
theorem addTo_addM (ps : List (List Nat)) (r : Nat) (x : List Nat) (hx : ps.getD r [] = x) (A : List BN) : ∀ (l : List (Nat × Node)) (acc : List MN),
    addTo x (A ++ acc.map (withP ps)) l = A ++ (addM r (A.map (·.1)) acc l).map (withP ps)
  | [], acc => rfl
  | p :: l, acc => by
    unfold addTo addM
    have e : (p.2 ∈ (A ++ acc.map (withP ps)).map (·.1)) ↔ (p.2 ∈ A.map (·.1) ∨ p.2 ∈ acc.map (·.1)) := by
      rw [List.map_append, List.mem_append, List.map_map]
      exact Iff.rfl
    by_cases h : p.2 ∈ A.map (·.1) ∨ p.2 ∈ acc.map (·.1)
    · rw [if_pos (e.mpr h), if_pos h]
      exact addTo_addM ps r x hx A l acc
    · rw [if_neg (fun q => h (e.mp q)), if_neg h]
      have := addTo_addM ps r x hx A l (acc ++ [(p.2, (r, p.1))])
      rw [← this, List.map_append, List.append_assoc]
      show addTo x (A ++ (acc.map (withP ps) ++ [(p.2, x ++ [p.1])])) l = addTo x (A ++ (acc.map (withP ps) ++ [(p.2, ps.getD r [] ++ [p.1])])) l
      rw [hx]
theorem bq_level {P Q : Pl} {lo : Nat} : ∀ r, lo + r ≤ (bq P Q lo).length →
    bq P Q (lo + r) = bq P Q lo ++ (lvM P Q ((bq P Q lo).map (·.1)) (((bq P Q lo).drop lo).map (·.1)) r).map (withP (((bq P Q lo).drop lo).map (·.2)))
  | 0, _ => by simp [lvM]
  | r + 1, h => by
    have ih := bq_level (P := P) (Q := Q) (lo := lo) r (by omega)
    have hl : lo + r < (bq P Q lo).length := by omega
    obtain ⟨b, hb⟩ : ∃ b, (bq P Q lo)[lo + r]? = some b := ⟨_, List.getElem?_eq_getElem hl⟩
    have h1 : (bq P Q (lo + r))[lo + r]? = some b := by
      rw [ih, List.getElem?_append_left hl]; exact hb
    have e1 : bq P Q (lo + (r + 1)) = addTo b.2 (bq P Q (lo + r)) (nx P Q b.1) := bq_succ_some h1
    have e2 : (((bq P Q lo).drop lo).map (·.1))[r]? = some b.1 := by
      rw [List.getElem?_map, List.getElem?_drop, hb]; rfl
    have e3 : (((bq P Q lo).drop lo).map (·.2)).getD r [] = b.2 := by
      rw [List.getD_eq_getElem?_getD, List.getElem?_map, List.getElem?_drop, hb]; rfl
    rw [e1, ih, addTo_addM _ r _ e3]
    show _ = _ ++ List.map _ (match (((bq P Q lo).drop lo).map (·.1))[r]? with | some n => addM r _ _ (nx P Q n) | none => _)
    rw [e2]
/-- each later mark is greater -/
theorem addM_lt (r : Nat) (seen : List Node) : ∀ (l : List (Nat × Node)) (acc : List MN), (l.map (·.1)).Pairwise (· < ·) → (acc.map (·.2)).Pairwise ltM → (∀ m ∈ acc, m.2.1 < r ∨ (m.2.1 = r ∧ ∀ p ∈ l, m.2.2 < p.1)) →
    ((addM r seen acc l).map (·.2)).Pairwise ltM ∧ ∀ m ∈ addM r seen acc l, m.2.1 ≤ r
  | [], acc, _, h, hr => ⟨h, fun m hm => by rcases hr m hm with h | h <;> omega⟩
  | p :: l, acc, hl, h, hr => by
    rw [List.map_cons, List.pairwise_cons] at hl
    unfold addM
    split
    · exact addM_lt r seen l acc hl.2 h fun m hm => (hr m hm).imp id fun q => ⟨q.1, fun p' hp => q.2 p' (List.mem_cons_of_mem _ hp)⟩
    · refine addM_lt r seen l _ hl.2 ?_ fun m hm => ?_
      · rw [List.map_append, List.pairwise_append]
        refine ⟨h, by simp, fun a ha b hb => ?_⟩
        obtain ⟨m, hm, rfl⟩ := List.mem_map.mp ha
        have e : b = (r, p.1) := by simpa using hb
        rw [e]
        rcases hr m hm with q | q
        · exact .inl q
        · exact .inr ⟨q.1, q.2 p (List.mem_cons_self ..)⟩
      · rcases List.mem_append.mp hm with hm | hm
        · exact (hr m hm).imp id fun q => ⟨q.1, fun p' hp => q.2 p' (List.mem_cons_of_mem _ hp)⟩
        · have e : m = (p.2, (r, p.1)) := by simpa using hm
          rw [e]
          exact .inr ⟨rfl, fun p' hp => hl.1 p'.1 (List.mem_map.mpr ⟨p', hp, rfl⟩)⟩
theorem addM_nodup (r : Nat) (seen : List Node) : ∀ (l : List (Nat × Node)) (acc : List MN), (acc.map (·.1)).Nodup → ((addM r seen acc l).map (·.1)).Nodup
  | [], _, h => h
  | p :: l, acc, h => by
    unfold addM
    refine addM_nodup r seen l _ ?_
    split
    · exact h
    · rename_i hn
      rw [List.map_append, List.nodup_append]
      refine ⟨h, by simp, fun a ha b hb => ?_⟩
      have e : b = p.2 := by simpa using hb
      rw [e]
      exact fun e => hn (.inr (by rw [← e]; exact ha))
theorem addM_seen (r : Nat) (seen : List Node) : ∀ (l : List (Nat × Node)) (acc : List MN), (∀ m ∈ acc, m.1 ∉ seen) → ∀ m ∈ addM r seen acc l, m.1 ∉ seen
  | [], _, h => h
  | p :: l, acc, h => by
    unfold addM
    refine addM_seen r seen l _ ?_
    split
    · exact h
    · rename_i hn
      intro m hm
      rcases List.mem_append.mp hm with hm | hm
      · exact h m hm
      · have e : m = (p.2, (r, p.1)) := by simpa using hm
        rw [e]
        exact fun q => hn (.inl q)
theorem addM_take (r : Nat) (seen : List Node) : ∀ (l : List (Nat × Node)) (acc : List MN) (j : Nat) (p : Nat × Node), l[j]? = some p →
    addM r seen acc (l.take (j + 1)) = (if p.2 ∈ seen ∨ p.2 ∈ (addM r seen acc (l.take j)).map (·.1) then addM r seen acc (l.take j) else addM r seen acc (l.take j) ++ [(p.2, (r, p.1))])
  | [], _, _, _, h => by simp at h
  | q :: l, acc, 0, p, h => by
    have e : q = p := by simpa using h
    subst e
    rfl
  | q :: l, acc, j + 1, p, h => by
    have := addM_take r seen l (if q.2 ∈ seen ∨ q.2 ∈ acc.map (·.1) then acc else acc ++ [(q.2, (r, q.1))]) j p (by simpa using h)
    exact this
theorem addM_app (r : Nat) (seen : List Node) : ∀ (l m : List (Nat × Node)) (acc : List MN), addM r seen acc (l ++ m) = addM r seen (addM r seen acc l) m
  | [], _, _ => rfl
  | _ :: l, m, _ => addM_app r seen l m _
theorem addM_len (r : Nat) (seen : List Node) : ∀ (l : List (Nat × Node)) (acc : List MN), acc.length ≤ (addM r seen acc l).length
  | [], _ => Nat.le_refl _
  | p :: l, acc => by
    unfold addM
    refine Nat.le_trans ?_ (addM_len r seen l _)
    split
    · exact Nat.le_refl _
    · rw [List.length_append]; omega
theorem addM_mem (r : Nat) (seen : List Node) {m : MN} : ∀ (l : List (Nat × Node)) (acc : List MN), m ∈ addM r seen acc l → m ∈ acc ∨ ∃ p ∈ l, m = (p.2, (r, p.1))
  | [], _, h => .inl h
  | p :: l, acc, h => by
    unfold addM at h
    rcases addM_mem r seen l _ h with h | ⟨p', h1, h2⟩
    · split at h
      · exact .inl h
      · rcases List.mem_append.mp h with h | h
        · exact .inl h
        · exact .inr ⟨p, List.mem_cons_self .., by simpa using h⟩
    · exact .inr ⟨p', List.mem_cons_of_mem _ h1, h2⟩
section
variable {P Q : Pl}
theorem nx_rise (hP : P.Ok) (hQ : Q.Ok) {n : Node} (hn : NodeOk P Q n) : ((nx P Q n).map (·.1)).Pairwise (· < ·) := by
  unfold nx
  rw [nxR_map]
  exact signs_rise (rowOf_rise hP hn.1.2) (rowOf_rise hQ hn.2.2)
theorem lvM_lt (hP : P.Ok) (hQ : Q.Ok) {seen ns : List Node} (hn : ∀ n ∈ ns, NodeOk P Q n) : ∀ r, ((lvM P Q seen ns r).map (·.2)).Pairwise ltM ∧ ∀ m ∈ lvM P Q seen ns r, m.2.1 < r
  | 0 => ⟨.nil, fun _ h => by cases h⟩
  | r + 1 => by
    obtain ⟨h1, h2⟩ := lvM_lt hP hQ hn r (seen := seen)
    unfold lvM
    cases e : ns[r]? with
    | none => exact ⟨h1, fun m hm => Nat.lt_succ_of_lt (h2 m hm)⟩
    | some n =>
      have := addM_lt r seen (nx P Q n) (lvM P Q seen ns r) (nx_rise hP hQ (hn n (List.mem_of_getElem? e))) h1 fun m hm => .inl (h2 m hm)
      exact ⟨this.1, fun m hm => Nat.lt_succ_of_le (this.2 m hm)⟩
theorem lvM_nodup {seen ns : List Node} : ∀ r, ((lvM P Q seen ns r).map (·.1)).Nodup
  | 0 => .nil
  | r + 1 => by
    have ih : ((lvM P Q seen ns r).map (·.1)).Nodup := lvM_nodup r
    unfold lvM
    cases e : ns[r]? with
    | none => exact ih
    | some n => exact addM_nodup r seen _ _ ih
theorem lvM_seen {seen ns : List Node} : ∀ r, ∀ m ∈ lvM P Q seen ns r, m.1 ∉ seen
  | 0 => fun _ h => by cases h
  | r + 1 => by
    have ih : ∀ m ∈ lvM P Q seen ns r, m.1 ∉ seen := lvM_seen r
    unfold lvM
    cases e : ns[r]? with
    | none => exact ih
    | some n => exact addM_seen r seen _ _ ih
theorem lvM_succ {seen ns : List Node} {r : Nat} {n : Node} (h : ns[r]? = some n) : lvM P Q seen ns (r + 1) = addM r seen (lvM P Q seen ns r) (nx P Q n) := by
  show (match ns[r]? with | some n => addM r seen (lvM P Q seen ns r) (nx P Q n) | none => lvM P Q seen ns r) = _
  rw [h]
theorem addM_few (hP : P.Ok) (hQ : Q.Ok) (hs : (P.rows.length + 1) * (Q.rows.length + 1) ≤ 400) {lo r : Nat} {n : Node} (hr : lo + r < (bq P Q lo).length) (h : (((bq P Q lo).drop lo).map (·.1))[r]? = some n) (j : Nat) :
    (addM r ((bq P Q lo).map (·.1)) (lvM P Q ((bq P Q lo).map (·.1)) (((bq P Q lo).drop lo).map (·.1)) r) ((nx P Q n).take j)).length ≤ 400 := by
  have h1 := bq_level (P := P) (Q := Q) (lo := lo) (r + 1) (by omega)
  rw [lvM_succ h] at h1
  have h2 := congrArg List.length h1
  rw [List.length_append, List.length_map] at h2
  have h3 := bq_few hP hQ (lo + (r + 1))
  have h4 : ∀ (s : List Node) (a : List MN), addM r s a (nx P Q n) = addM r s (addM r s a ((nx P Q n).take j)) ((nx P Q n).drop j) := fun s a => by rw [← addM_app, List.take_append_drop]
  have h5 := addM_len r ((bq P Q lo).map (·.1)) ((nx P Q n).drop j) (addM r ((bq P Q lo).map (·.1)) (lvM P Q ((bq P Q lo).map (·.1)) (((bq P Q lo).drop lo).map (·.1)) r) ((nx P Q n).take j))
  rw [h4] at h2
  omega
theorem addM_old (hP : P.Ok) (hQ : Q.Ok) {seen ns : List Node} (hn : ∀ n ∈ ns, NodeOk P Q n) {r j : Nat} {n : Node} (h : ns[r]? = some n) {p : Nat × Node} (hp : (nx P Q n)[j]? = some p) {m : MN} (hm : m ∈ addM r seen (lvM P Q seen ns r) ((nx P Q n).take j)) : ltM m.2 (r, p.1) := by
  rcases addM_mem r seen _ _ hm with h1 | ⟨p', h1, rfl⟩
  · exact .inl ((lvM_lt hP hQ hn r).2 m h1)
  · refine .inr ⟨rfl, ?_⟩
    have hr := nx_rise hP hQ (hn n (List.mem_of_getElem? h))
    have e : nx P Q n = (nx P Q n).take j ++ (nx P Q n).drop j := (List.take_append_drop j _).symm
    rw [e, List.map_append, List.pairwise_append] at hr
    refine hr.2.2 p'.1 (List.mem_map.mpr ⟨p', h1, rfl⟩) p.1 (List.mem_map.mpr ⟨p, ?_, rfl⟩)
    have : ((nx P Q n).drop j)[0]? = some p := by rw [List.getElem?_drop]; exact hp
    exact List.mem_of_getElem? this
theorem lvM_sign (hP : P.Ok) (hQ : Q.Ok) {seen ns : List Node} (hn : ∀ n ∈ ns, NodeOk P Q n) : ∀ r, ∀ m ∈ lvM P Q seen ns r, okSign m.2.2 = true
  | 0 => fun _ h => by cases h
  | r + 1 => by
    have ih := lvM_sign hP hQ hn r (seen := seen)
    unfold lvM
    cases e : ns[r]? with
    | none => exact ih
    | some n =>
      intro m hm
      rcases addM_mem r seen _ _ hm with h | ⟨p, hp, rfl⟩
      · exact ih m h
      · exact nx_sign hP hQ (hn n (List.mem_of_getElem? e)) hp
end
end Tk
/-! marks and nodes as data, dicts of nodes -/
namespace Tk
open PySem L2
def nodeD (n : Node) : PyData := .tuple [.int n.1, .int n.2]
def markD (m : Nat × Nat) : PyData := .tuple [.int m.1, sgn m.2]
def textD (x : List Nat) : PyData := .tuple (x.map sgn)
def itemD (m : MN) : PyData := .tuple [markD m.2, nodeD m.1]
def levelD (ns : List Node) : List PyData := ns.zipIdx.map fun x => .tuple [.int (x.2 : Nat), nodeD x.1]
theorem nodeD_inv {H : Hp} {v : V} {n : Node} (h : Im H v (nodeD n)) : ∃ b, v = .ref b ∧ H b = some (.tup [.int n.1, .int n.2]) := by
  obtain ⟨b, x, y, rfl, hb, h1, h2⟩ := Im.pair_inv h
  rw [h1.int_inv, h2.int_inv] at hb
  exact ⟨b, rfl, hb⟩
theorem levelD_snoc (ns : List Node) (n : Node) : levelD (ns ++ [n]) = levelD ns ++ [.tuple [.int (ns.length : Nat), nodeD n]] := by
  unfold levelD
  rw [List.zipIdx_append, List.map_append]
  simp
theorem levelD_at {ns : List Node} {i : Nat} {n : Node} (h : ns[i]? = some n) : (levelD ns)[i]? = some (.tuple [.int (i : Nat), nodeD n]) := by
  unfold levelD
  rw [List.getElem?_map, List.getElem?_zipIdx, h]
  simp
theorem levelD_len (ns : List Node) : (levelD ns).length = ns.length := by unfold levelD; simp
theorem dataLt_sgn (a b : Nat) : PySem.W.dataLt (sgn a) (sgn b) = decide (a < b) := by
  unfold sgn
  rw [PySem.W.dataLt_str]
  show decide ([a] < [b]) = decide (a < b)
  have e : ([a] < [b]) ↔ a < b := by
    rw [List.cons_lt_cons_iff]
    exact ⟨fun h => h.elim id fun h => absurd h.2 (List.not_lt_nil _), .inl⟩
  by_cases h : a < b
  · rw [decide_eq_true h, decide_eq_true (e.mpr h)]
  · rw [decide_eq_false h, decide_eq_false (fun q => h (e.mp q))]
theorem strOk_sg {c : Nat} (h : c < 123) : PyData.strOk (sgS c) = true := by
  have q : ∀ c, c < 123 → PyData.strOk (sgS c) = true := by decide +kernel
  exact q c h
theorem markD_shaped {m : Nat × Nat} (h : m.2 < 123) : SeqAt.shaped (markD m) = true := by
  have e := strOk_sg h
  unfold SeqAt.shaped
  rw [Bool.and_eq_true]
  refine ⟨?_, ?_⟩
  · show (true && (PyData.canLay0 (.str (sgS m.2)) && true)) = true
    simp [PyData.canLay0, e]
  · unfold markD sgn
    simp [PyData.depth, PyData.depthAll]
theorem nodeD_shaped (m : Node) : SeqAt.shaped (nodeD m) = true := by
  unfold SeqAt.shaped nodeD
  simp [PyData.canLay0, PyData.canLayAll0, PyData.depth, PyData.depthAll]
theorem markD_ne (m : Nat × Nat) : markD m ≠ .none := by unfold markD; exact fun z => nomatch z
theorem markD_depth (m : Nat × Nat) : (markD m).depth ≤ 60 := by unfold markD sgn; simp [PyData.depth, PyData.depthAll]
theorem alike_mark (a b : Nat × Nat) : PySem.W.alike (markD a) (markD b) = true := rfl
theorem eqv_sgn (a b : Nat) : PyData.eqv (sgn a) (sgn b) = decide (a = b) := by
  unfold sgn
  show ((⟨#[a]⟩ : Str) == ⟨#[b]⟩) = _
  by_cases h : a = b
  · subst h; simp
  · rw [decide_eq_false h]
    rw [beq_eq_false_iff_ne]
    intro q
    have q := congrArg (fun z : Str => z.cps.toList) q
    have q : [a] = [b] := q
    exact h (List.cons.inj q).1
theorem eqv_mark (a b : Nat × Nat) : PyData.eqv (markD a) (markD b) = decide (a = b) := by
  have e : PyData.eqv (markD a) (markD b) = (PyData.eqv (.int a.1) (.int b.1) && (PyData.eqv (sgn a.2) (sgn b.2) && true)) := by
    unfold markD
    simp [PyData.eqv, PyData.eqvAll]
  rw [e, eqv_sgn]
  have e2 : PyData.eqv (.int (a.1 : Int)) (.int (b.1 : Int)) = decide (a.1 = b.1) := by
    show ((a.1 : Int) == (b.1 : Int)) = _
    by_cases h : a.1 = b.1
    · rw [h]; simp
    · rw [decide_eq_false h, beq_eq_false_iff_ne]; omega
  rw [e2]
  by_cases h1 : a.1 = b.1 <;> by_cases h2 : a.2 = b.2 <;> simp [h1, h2, Prod.ext_iff]
theorem dataLt_mark {a b : Nat × Nat} (h : ltM a b) : PySem.W.dataLt (markD b) (markD a) = false := by
  unfold markD
  rw [PySem.W.dataLt_pair rfl rfl, PySem.W.dataLt_int, dataLt_sgn, eqv_sgn]
  have e2 : PyData.eqv (.int (b.1 : Int)) (.int (a.1 : Int)) = decide (b.1 = a.1) := by
    show ((b.1 : Int) == (a.1 : Int)) = _
    by_cases h : b.1 = a.1
    · rw [h]; simp
    · rw [decide_eq_false h, beq_eq_false_iff_ne]; omega
  rw [e2]
  rcases h with h | ⟨h1, h2⟩
  · rw [decide_eq_false (by omega : ¬ b.1 = a.1), if_neg (by simp), decide_eq_false (by omega)]
  · rw [decide_eq_true h1.symm, if_pos rfl, decide_eq_false (by omega : ¬ b.2 = a.2), if_neg (by simp), decide_eq_false (by omega)]
theorem ltM_ne {a b : Nat × Nat} (h : ltM a b) : a ≠ b := fun e => by
  subst e
  rcases h with h | ⟨_, h⟩ <;> omega
theorem dataLe_item {m n : MN} (h : ltM m.2 n.2) : PySem.W.dataLe false id (itemD m) (itemD n) = true := by
  show (!PySem.W.dataLt (itemD n) (itemD m)) = true
  unfold itemD
  rw [PySem.W.dataLt_pair rfl rfl, eqv_mark, decide_eq_false (fun e => ltM_ne h e.symm), if_neg (by simp), dataLt_mark h]
  rfl
theorem sort_items {l : List MN} (h : (l.map (·.2)).Pairwise ltM) : (l.map itemD).mergeSort (PySem.W.dataLe false id) = l.map itemD := by
  refine List.mergeSort_of_pairwise ?_
  rw [List.pairwise_map] at h ⊢
  exact h.imp fun h => dataLe_item h
theorem depth_item (m : MN) : (itemD m).depth ≤ 40 := by
  unfold itemD markD nodeD sgn
  simp [PyData.depth, PyData.depthAll]
def keyN (n : Node) : List Key := [Sum.inl n.1, Sum.inl n.2]
theorem keyN_inj {n m : Node} (h : keyN n = keyN m) : n = m := by
  unfold keyN at h
  obtain ⟨h1, h2⟩ := List.cons.inj h
  obtain ⟨h2, _⟩ := List.cons.inj h2
  exact Prod.ext (Sum.inl.inj h1) (Sum.inl.inj h2)
section
variable {κ : Type} [DecidableEq κ] {kvs : List (κ × V)} {k : κ} {v : V}
theorem valV_none (h : k ∉ kvs.map (·.1)) : valV kvs k = none := by
  unfold valV
  rw [List.find?_eq_none.mpr fun x hx => by
    simp only [decide_eq_true_eq]
    exact fun e => h (List.mem_map.mpr ⟨x, hx, e⟩)]
  rfl
theorem valV_at (nd : (kvs.map (·.1)).Nodup) {i : Nat} (h : kvs[i]? = some (k, v)) : valV kvs k = some v := by
  induction kvs generalizing i with
  | nil => simp at h
  | cons p kvs ih =>
    rw [List.map_cons, List.nodup_cons] at nd
    unfold valV at ih ⊢
    rw [List.find?_cons]
    cases i with
    | zero =>
      have e : p = (k, v) := by simpa using h
      subst e
      rw [decide_eq_true rfl]; rfl
    | succ i =>
      have h : kvs[i]? = some (k, v) := by simpa using h
      have hne : p.1 ≠ k := fun e => nd.1 (List.mem_map.mpr ⟨_, List.mem_of_getElem? h, e.symm⟩)
      rw [decide_eq_false hne]
      exact ih nd.2 h
theorem putK_new (h : k ∉ kvs.map (·.1)) : putK kvs k v = kvs ++ [(k, v)] := by
  unfold putK
  rw [if_neg]
  intro q
  obtain ⟨x, hx, e⟩ := List.any_eq_true.mp q
  exact h (List.mem_map.mpr ⟨x, hx, by simpa using e⟩)
theorem valV_some_of (h : k ∈ kvs.map (·.1)) : ∃ v, valV kvs k = some v ∧ ∃ i : Nat, kvs[i]? = some (k, v) := by
  unfold valV
  cases e : kvs.find? fun kv => decide (kv.1 = k) with
  | none =>
    obtain ⟨x, hx, e2⟩ := List.mem_map.mp h
    have := List.find?_eq_none.mp e x hx
    exact absurd e2 (by simpa using this)
  | some x =>
    have h1 := List.find?_some e
    have h1 : x.1 = k := by simpa using h1
    obtain ⟨i, hi⟩ := List.mem_iff_getElem?.mp (List.mem_of_find?_eq_some e)
    exact ⟨x.2, rfl, i, by rw [hi, ← h1]⟩
end
/-- a dict with nodes as keys: the items of l, their values as data -/
def KvT {α : Type} (G : Hp) (kvs : List (List Key × V)) (key : α → Node) (dat : α → PyData) (l : List α) : Prop := kvs.map (·.1) = l.map (fun a => keyN (key a)) ∧ Ims G (kvs.map (·.2)) (l.map dat)
section
variable {α : Type} {G G' : Hp} {kvs : List (List Key × V)} {key : α → Node} {dat : α → PyData} {l : List α}
theorem KvT.mono (h : KvT G kvs key dat l) (s : Same G G') : KvT G' kvs key dat l := ⟨h.1, h.2.mono s⟩
theorem KvT.len (h : KvT G kvs key dat l) : kvs.length = l.length := by
  have := congrArg List.length h.1
  simpa using this
theorem KvT.mem (h : KvT G kvs key dat l) {n : Node} : keyN n ∈ kvs.map (·.1) ↔ n ∈ l.map key := by
  rw [h.1]
  constructor
  · intro q
    obtain ⟨a, ha, e⟩ := List.mem_map.mp q
    exact List.mem_map.mpr ⟨a, ha, keyN_inj e⟩
  · intro q
    obtain ⟨a, ha, e⟩ := List.mem_map.mp q
    exact List.mem_map.mpr ⟨a, ha, by rw [e]⟩
theorem KvT.isSome (h : KvT G kvs key dat l) (n : Node) : (valV kvs (keyN n)).isSome = decide (n ∈ l.map key) := by
  by_cases q : n ∈ l.map key
  · obtain ⟨v, hv, _⟩ := valV_some_of (h.mem.mpr q)
    rw [hv, decide_eq_true q]; rfl
  · rw [valV_none (fun z => q (h.mem.mp z)), decide_eq_false q]; rfl
theorem KvT.at_ (h : KvT G kvs key dat l) (nd : (l.map key).Nodup) {i : Nat} {a : α} (ha : l[i]? = some a) : ∃ v, kvs[i]? = some (keyN (key a), v) ∧ valV kvs (keyN (key a)) = some v ∧ Im G v (dat a) := by
  obtain ⟨v, hv, him⟩ := h.2.at_ (i := i) (d := dat a) (by rw [List.getElem?_map, ha]; rfl)
  have hk : (kvs.map (·.1))[i]? = some (keyN (key a)) := by rw [h.1, List.getElem?_map, ha]; rfl
  rw [List.getElem?_map] at hv hk
  cases e : kvs[i]? with
  | none => rw [e] at hv; cases hv
  | some p =>
    rw [e] at hv hk
    have e1 : p = (keyN (key a), v) := Prod.ext (Option.some.inj hk) (Option.some.inj hv)
    subst e1
    refine ⟨v, rfl, valV_at ?_ e, him⟩
    rw [h.1]
    have : (l.map fun a => keyN (key a)) = (l.map key).map keyN := by rw [List.map_map]; rfl
    rw [this]
    rw [List.Nodup, List.pairwise_map]
    exact nd.imp fun h e => h (keyN_inj e)
theorem KvT.put (h : KvT G kvs key dat l) {a : α} {v : V} (hn : key a ∉ l.map key) (hv : Im G v (dat a)) : KvT G (putK kvs (keyN (key a)) v) key dat (l ++ [a]) := by
  rw [putK_new (fun z => hn (h.mem.mp z))]
  refine ⟨?_, ?_⟩
  · rw [List.map_append, List.map_append, h.1]; rfl
  · rw [List.map_append, List.map_append]
    exact h.2.snoc hv
theorem KvT.nil : KvT G [] key dat [] := ⟨rfl, .nil⟩
end
end Tk
set_option maxHeartbeats 1000000
/-! onward -/
namespace Tk
open PySem L2 NdefX
abbrev sOn : Stmt := (defBody (top 17)).getD 0 (.Pass ⟨0, 0, 0, 0⟩)
theorem sc_on : NScope ["pair", "first", "second"] ["pair"] ["first", "second"] (C8.fnScope sOn) := nscope_by (by decide +kernel)
section
variable {P : Program} {w : World} {K : PySem.W.Frag} {mg : Str → Option Value} {base : Heap}
def spOn (C : Addr) (ws : List (Option V)) : Sp := fun vs H Q _ => ∃ (p q : Addr) (L M : Pl) (n : Node) (a : Addr), ws = [some (.ref p), some (.ref q)] ∧ vs = [.ref a] ∧ PlanO C H p L ∧ PlanO C H q M ∧ L.Ok ∧ M.Ok ∧ H a = some (.tup [.int n.1, .int n.2]) ∧ NodeOk L M n ∧
  ∀ (H' : Hp) (l : Addr) (ws : List V), Same H H' → H l = none → H' l = some (.lst ws) → Ims (hide [l] H') ws ((nx L M n).map stepD) → Q (.ref l) H'
theorem nok_on (T : Fx K mg) {f : Addr} {qq : Str} {cl : List (Str × Addr)} {c' : Addr} : NOk P w K mg base CX0 2 f (NF.of sOn "onward" qq cl c') ["pair"] ["first", "second"] (spOn T.cP) := by
  refine nok_of (N := ["pair", "first", "second"]) sc_on (fun doc pm ctv us hl => match us, hl with | [_], _ => rfl) (fun ws vs H Q E h => ?_) (fun A outer s H vs ws Q E hr hf hc hl h => ?_)
  · obtain ⟨p, q, L, M, n, a, _, rfl, _⟩ := h; rfl
  obtain ⟨p, q, L, M, n, a, rfl, rfl, h1, h2, h3, h4, h5, h6, k⟩ := h
  refine ⟨_, pss_one (ps_ret (pe_call (ok_psteps T) hr (by rfl) T.g_psteps T.F_psteps.kp T.b_psteps .nil pass0 (pa_cons (pv 1) (pa_cons (pv 2) (pa_cons (pv 0) pa_nil))))), ?_⟩
  exact ⟨_, rfl, _, rfl, _, rfl, p, q, L, M, n, a, rfl, h1, h2, h3, h4, h5, h6, k⟩
end
end Tk
set_option maxHeartbeats 2000000
/-! listed -/
namespace Tk
open PySem L2 NdefX LamX
section
variable {P : Program} {w : World} {K : PySem.W.Frag} {mg : Str → Option Value} {base : Heap}
def spListed (C : Addr) (cl : List (Str × Addr)) (ws : List (Option V)) : Sp := fun vs H Q _ => ∃ (p q : Addr) (L M : Pl) (a f c' : Addr) (qq w0 : Str), ws = [some (.ref p), some (.ref q)] ∧ vs = [.ref a, .ref f, .int 10000, .str w0] ∧ H a = some (.tup [.int 0, .int 0]) ∧
  H f = some (FnO f (NF.of sOn "onward" qq cl c')) ∧ H c' = some (CodeO c' qq) ∧ PlanO C H p L ∧ PlanO C H q M ∧ L.Ok ∧ M.Ok ∧ (L.rows.length + 1) * (M.rows.length + 1) ≤ 400 ∧
  ∀ (H' : Hp) (t aN aR : Addr) (nv : List V) (kvs : List (List Key × V)), Same H H' → H' t = some (.tup [.ref aN, .ref aR]) → H' aN = some (.lst nv) → H' aR = some (.dT kvs) → Ims H' nv ((fin L M).map fun b => nodeD b.1) → KvT H' kvs (·.1) (fun b => textD b.2) (fin L M) → Q (.ref t) H'
/-- at the head of the while: lo nodes are worked off -/
def LW (L M : Pl) (H0 : Hp) (a0 f : Addr) (w0 : Str) (lo : Nat) (σ : L2.St) (H : Hp) : Prop := ∃ (aN aR aL aP : Addr) (o8 o9 o10 o11 o12 o13 o14 o15 : Option V) (nv lv pv : List V) (kvs : List (List Key × V)),
  σ = [some (.ref a0), some (.ref f), some (.int 10000), some (.str w0), some (.ref aN), some (.ref aR), some (.ref aL), some (.ref aP), o8, o9, o10, o11, o12, o13, o14, o15] ∧ H0 aN = none ∧ H0 aR = none ∧ aN ≠ aR ∧ Same H0 (hide [aN, aR] H) ∧
  H aN = some (.lst nv) ∧ H aR = some (.dT kvs) ∧ lo ≤ (bq L M lo).length ∧ lo ≤ 400 ∧ Ims (hide [aN, aR] H) nv ((bq L M lo).map fun b => nodeD b.1) ∧ KvT (hide [aN, aR] H) kvs (·.1) (fun b => textD b.2) (bq L M lo) ∧
  hide [aN, aR] H aL = some (.lst lv) ∧ Ims (hide [aN, aR] H) lv (levelD (((bq L M lo).drop lo).map (·.1))) ∧ hide [aN, aR] H aP = some (.lst pv) ∧ Ims (hide [aN, aR] H) pv (((bq L M lo).drop lo).map fun b => textD b.2)
/-- while the level is worked off: aD holds what was found -/
def FI (G0 : Hp) (aN aR aD : Addr) (nv : List V) (kvs : List (List Key × V)) (acc : List MN) (H : Hp) : Prop := ∃ kD : List (List Key × V), H aN = some (.lst nv) ∧ H aR = some (.dT kvs) ∧ H aD = some (.dT kD) ∧ Same G0 (hide [aD, aN, aR] H) ∧ KvT (hide [aD, aN, aR] H) kD (·.1) (fun m => markD m.2) acc
theorem FI.same {G0 H H' : Hp} {aN aR aD : Addr} {nv : List V} {kvs : List (List Key × V)} {acc : List MN} (h : FI G0 aN aR aD nv kvs acc H) (s : Same H H') : FI G0 aN aR aD nv kvs acc H' := by
  obtain ⟨kD, h1, h2, h3, h4, h5⟩ := h
  exact ⟨kD, s _ _ h1, s _ _ h2, s _ _ h3, h4.trans (hide_mono s), h5.mono (hide_mono s)⟩
theorem FI.put {G0 H : Hp} {aN aR aD t : Addr} {nv : List V} {kvs kD : List (List Key × V)} {acc : List MN} {m : MN} (h1 : H aN = some (.lst nv)) (h2 : H aR = some (.dT kvs)) (h3 : H aD = some (.dT kD)) (h4 : Same G0 (hide [aD, aN, aR] H)) (h5 : KvT (hide [aD, aN, aR] H) kD (·.1) (fun m => markD m.2) acc)
    (nD : aN ≠ aD) (nR : aR ≠ aD) (hn : m.1 ∉ acc.map (·.1)) (ht : hide [aD, aN, aR] H t = some (.tup [.int m.2.1, .str (sgS m.2.2)])) : FI G0 aN aR aD nv kvs (acc ++ [m]) (upd H aD (.dT (putK kD (keyN m.1) (.ref t)))) := by
  refine ⟨_, (upd_ne nD).trans h1, (upd_ne nR).trans h2, upd_same, by rw [hide_mut (by simp)]; exact h4, ?_⟩
  rw [hide_mut (by simp)]
  exact h5.put hn (Im.pair ht (.int _) (.str _))
/-- fresh.append(paths[mark[0]] + (mark[1],)); last = mark: always done -/
def tI2 : TS := fun D σ H => ∃ (lastv : V) (bm aF aP : Addr) (fv pv xs : List V) (kk sg : Nat) (pt : Addr), σ[14]? = some (some lastv) ∧ σ[15]? = some (some (.ref bm)) ∧ σ[13]? = some (some (.ref aF)) ∧ σ[7]? = some (some (.ref aP)) ∧ H bm = some (.tup [.int kk, .str (sgS sg)]) ∧
  (lastv = .non ∨ ∃ m, Im H lastv (markD m) ∧ m ≠ (kk, sg) ∧ m.2 < 123) ∧ sg < 123 ∧ H aF = some (.lst fv) ∧ fv.length ≤ 100000 ∧ H aP = some (.lst pv) ∧ pv[kk]? = some (.ref pt) ∧ H pt = some (.tup xs) ∧ xs.length ≤ 100000 ∧
  ∀ (t : Addr) (H' : Hp), Same H H' → H' t = some (.tup (xs ++ [.str (sgS sg)])) → D.nx (σ.set 14 (some (.ref bm))) (upd H' aF (.lst (fv ++ [.ref t])))
theorem withP_fst (ps : List (List Nat)) (l : List MN) : (l.map (withP ps)).map (·.1) = l.map (·.1) := by rw [List.map_map]; rfl
theorem ok_listed (T : Fx K mg) : FnC P w K mg base CX0 3 T.a_listed T.d_listed ["first", "onward", "most", "word"] ["first", "second"] (spListed T.cP) := by
  refine okC T.F_listed sc_listed (fun cl ws vs H Q E h => ?_) (fun cdv A outer s H vs cl ws Q E hr hC hF h => ?_)
  · obtain ⟨p, q, L, M, a, f, c', qq, w0, _, rfl, _⟩ := h; rfl
  obtain ⟨p, q, L, M, a, f, c', qq, w0, rfl, rfl, ha, hf, hc, hp, hq, okL, okM, hs, k⟩ := h
  have hu := hu_of hr
  generalize hws : [some (V.ref p), some (V.ref q)] = ws at hC
  refine ⟨_, PSs.nox ((pss_cons (ps_set (i := 4) sc_listed.nd rfl (.inl rfl) (pe_lst (pa_cons (pv 0) pa_nil)))
    (pss_cons (ps_set (i := 5) sc_listed.nd rfl (.inl rfl) (pe_dispT hu (pv 0) (pe_tup pa_nil)))
    (pss_cons (ps_set (i := 6) sc_listed.nd rfl (.inl rfl) (pe_lst (pa_cons (pe_tup (pa_cons pe_int (pa_cons (pv 0) pa_nil))) pa_nil)))
    (pss_cons (ps_set (i := 7) sc_listed.nd rfl (.inl rfl) (pe_lst (pa_cons (pe_tup pa_nil) pa_nil)))
    (pss_cons (ps_while PassesOwn.never (pt_truth (pv 6) (by intro _; rfl))
      (pss_cons (ps_set (i := 8) sc_listed.nd rfl (.inr rfl) pe_dnewT)
      (pss_cons (ps_for PassesOwn.never rfl (pi_list (pv 6)) (pg_tup rfl (pgs_cons (pg_name (i := 9) sc_listed.nd rfl (.inl rfl)) (pgs_cons (pg_name (i := 10) sc_listed.nd rfl (.inl rfl)) pgs_nil)))
        (pss_one (ps_for PassesOwn.never rfl (pi_list (pe_callP (i := 1) (ws := ws) (cl := cl) (mk := fun c' => NF.of sOn "onward" qq cl c') (sp := spOn T.cP) (E := E0) (fun f c' => nok_on T) hC hF rfl hr (by decide) pass0 rfl (.inl rfl) (pa_cons (pv 10) pa_nil))) (pg_tup rfl (pgs_cons (pg_name (i := 11) sc_listed.nd rfl (.inl rfl)) (pgs_cons (pg_name (i := 12) sc_listed.nd rfl (.inl rfl)) pgs_nil)))
          (pss_one (ps_if (PW.pt (pw_and (pt_cmp (pc_dnotin hu (pv 12) (pv 5))) (pw_and1 (PW.pt (pw_or (pt_cmp (pc_dnotin hu (pv 12) (pv 8))) (pw_or1 (pt_cmpR (op_ltD hr.units) (pe_tup (pa_cons (pv 9) (pa_cons (pv 11) pa_nil))) (pe_dget hu (pv 8) (pv 12) (fun _ _ => rfl)) (nomark _))))))))
            (pss_one (ps_dput hu (pv 8) (pv 12) (pe_tup (pa_cons (pv 9) (pa_cons (pv 11) pa_nil))) rfl))
            pss_nil)))))
      (pss_cons (ps_set (i := 6) sc_listed.nd rfl (.inl rfl) (pe_lst pa_nil))
      (pss_cons (ps_set (i := 13) sc_listed.nd rfl (.inl rfl) (pe_lst pa_nil))
      (pss_cons (ps_set (i := 14) sc_listed.nd rfl (.inl rfl) pe_non)
      (pss_cons (ps_for PassesOwn.never rfl (pi_list (pe_callB (cr_sortedD hr.units) (by rfl) T.z_sorted (by decide +kernel) (pa_cons (pe_lock (pe_lc (own := [("after", 12)]) (by rfl) sc_listed.nd (pi_keys (pv 8)) (blkOk_by (own := [("after", 12)]) (N := ["first", "onward", "most", "word", "nodes", "rows", "level", "paths", "found", "rank", "node", "label", "after", "fresh", "last", "mark"]) (sc := defScope (top 9)) (by decide +kernel)) (fun _ _ _ _ _ => (pg_name (i := 12) sc_listed.nd rfl (.inl rfl))) (fun _ _ _ _ _ => pts_nil) (fun _ _ _ _ _ => (pe_tup (pa_cons (pe_dget hu (pv 8) (pv 12) (fun _ _ => rfl)) (pa_cons (pv 12) pa_nil)))))) pa_nil))) (pg_tup rfl (pgs_cons (pg_name (i := 15) sc_listed.nd rfl (.inl rfl)) (pgs_cons (pg_name (i := 12) sc_listed.nd rfl (.inl rfl)) pgs_nil)))
        (pss_cons (ps_imp (t' := tI2) (ps_if (PW.pt (pw_or (pt_cmpR op_isN (pv 14) pe_non (nomark _)) (pw_or1 (pt_cmpR (op_neD hr.units) (pv 15) (pv 14) (nomark _)))))
          (pss_cons (ps_expr (pe_bm PySem.F.plainAttrs_list PySem.F.slot_list_append PySem.F.type_list_append mt_append (pv 13) (pa_cons (pe_op op_catN (pe_ix ix_list (pv 7) (pe_ix ix_tup (pv 15) pe_int (fun _ _ => rfl)) (fun _ _ => rfl)) (pe_tup (pa_cons (pe_ix ix_tup (pv 15) pe_int (fun _ _ => rfl)) pa_nil))) pa_nil)))
          (pss_one (ps_set (i := 14) sc_listed.nd rfl (.inl rfl) (pv 15))))
          pss_nil) ?I2)
        (pss_cons (ps_dput hu (pv 5) (pv 12) (pe_ix ix_list (pv 13) (pe_un un_neg pe_int) (fun _ _ => rfl)) rfl)
        (pss_cons (ps_expr (pe_bm PySem.F.plainAttrs_list PySem.F.slot_list_append PySem.F.type_list_append mt_append (pv 6) (pa_cons (pe_tup (pa_cons (pe_op op_sub (pe_callB call_len_seq (by rfl) T.z_len (by decide +kernel) (pa_cons (pv 13) pa_nil)) pe_int) (pa_cons (pv 12) pa_nil))) pa_nil)))
        (pss_one (ps_expr (pe_bm PySem.F.plainAttrs_list PySem.F.slot_list_append PySem.F.type_list_append mt_append (pv 4) (pa_cons (pv 12) pa_nil))))))))
      (pss_cons (ps_set (i := 7) sc_listed.nd rfl (.inl rfl) (pv 13))
      (pss_one (ps_if (pt_cmpR op_gt (pe_callB call_len_seq (by rfl) T.z_len (by decide +kernel) (pa_cons (pv 4) pa_nil)) (pv 2) (nomark _))
        (pss_one ps_never)
        pss_nil))))))))))
    (pss_one (ps_ret (pe_tup (pa_cons (pv 4) (pa_cons (pv 5) pa_nil))))))))))), ?_⟩
  case I2 =>
    intro D σ H h
    obtain ⟨lastv, bm, aF, aP, fv, pv, xs, kk, sg, pt, e14, e15, e13, e7, hbm, hl, hsg, hF, hfl, hP, hpv, hpt, hxl, kn⟩ := h
    have mb : Im H (.ref bm) (markD (kk, sg)) := Im.pair hbm (.int _) (.str _)
    rcases hl with rfl | ⟨m, hm, hne, hms⟩
    case' inl => refine ⟨_, e14, rfl, _, rfl, iteT ?_⟩
    case' inr =>
      obtain ⟨bl, v1, v2, rfl, _, _, _⟩ := hm.pair_inv
      refine ⟨_, e14, rfl, _, rfl, iteF ⟨_, e15, _, e14, markD (kk, sg), markD m, mb.dp, hm.dp, markD_shaped hsg, markD_shaped hms, _, rfl, ?_⟩⟩
      rw [eqv_mark, decide_eq_false (fun e => hne e.symm)]
      refine iteT ?_
    all_goals
      refine ⟨_, e13, .inl ⟨rfl, _, SqL.of hF⟩, _, e7, _, e15, bm, _, 0, _, rfl, rfl, SqT.of hbm, atI_nat (j := 0) rfl, aP, _, _, _, rfl, rfl, SqL.of hP, atI_nat hpv, _, e15, bm, _, 1, _, rfl, rfl, SqT.of hbm, atI_nat (j := 1) rfl, szle (by show 1 ≤ _; omega), fun t1 nt1 => ?_⟩
      have s1 := same_new (o := .tup [.str (sgS sg)]) nt1
      refine ⟨pt, t1, xs, _, rfl, rfl, s1 _ _ hpt, upd_same, by show xs.length + 1 ≤ _; omega, (fun z => by cases z), fun t H' s2 ht => ?_⟩
      refine ⟨aF, fv, _, rfl, rfl, s2 _ _ (s1 _ _ hF), szlt (by omega), _, e15, kn t H' (s1.trans s2) ht⟩
  refine ⟨_, rfl, szle (by show 1 ≤ _; omega), fun aN nN => ?_⟩
  -- rows = {first: ()}
  have s1 : Same H (upd H aN (.lst [.ref a])) := same_new nN
  generalize hH1 : upd H aN (.lst [.ref a]) = H1 at s1
  have lN1 : H1 aN = some (.lst [.ref a]) := by rw [← hH1]; exact upd_same
  intro aR nR
  have s2 : Same H1 (upd H1 aR (.dT [])) := same_new nR
  refine ⟨_, rfl, Nat.zero_le _, fun u nu => ⟨?_, a, keyN (0, 0), rfl, ?_, ?_⟩⟩
  · rw [upd_ne (ne_of_none upd_same nu)]; exact upd_same
  · exact same_new nu _ _ (s2 _ _ (s1 _ _ ha))
  generalize hH2 : upd (upd (upd H1 aR (.dT [])) u (.tup [])) aR (.dT [(keyN (0, 0), .ref u)]) = H2
  have nuR : u ≠ aR := fun e => by rw [e, upd_same] at nu; cases nu
  have lu2 : H2 u = some (.tup []) := by rw [← hH2, upd_ne nuR, upd_same]
  have lR2 : H2 aR = some (.dT [(keyN (0, 0), .ref u)]) := by rw [← hH2]; exact upd_same
  have nNR : aN ≠ aR := ne_of_none lN1 nR
  have nuN : u ≠ aN := fun e => by rw [e, upd_ne nNR, lN1] at nu; cases nu
  have lN2 : H2 aN = some (.lst [.ref a]) := by rw [← hH2, upd_ne nNR, upd_ne nuN.symm, upd_ne nNR]; exact lN1
  have nR0 : H aR = none := s1.free nR
  have s3 : Same H (hide [aN, aR] H2) := by
    refine hide_base (fun b o e => ?_) (by simp [nN, nR0])
    have b1 : b ≠ aR := ne_of_none e nR0
    have b2 : b ≠ u := fun z => by rw [z] at b1 e; have := s2 _ _ (s1 _ _ e); rw [this] at nu; cases nu
    rw [← hH2, upd_ne b1, upd_ne b2, upd_ne b1]; exact s1 _ _ e
  -- level = [(0, first)]
  refine ⟨_, rfl, sz2, fun t1 nt1 => ⟨szle (by show 1 ≤ _; omega), fun aL nL => ⟨Nat.zero_le _, fun t2 nt2 => ⟨szle (by show 1 ≤ _; omega), fun aP nP => ?_⟩⟩⟩⟩
  generalize hH3 : upd (upd (upd (upd H2 t1 (.tup [.int 0, .ref a])) aL (.lst [.ref t1])) t2 (.tup [])) aP (.lst [.ref t2]) = H3
  have g1 : Same H2 (upd H2 t1 (.tup [.int 0, .ref a])) := same_new nt1
  have g2 := same_new (o := .lst [.ref t1]) nL
  have g3 := same_new (o := .tup []) nt2
  have g4 := same_new (o := .lst [.ref t2]) nP
  have g : Same H2 H3 := by rw [← hH3]; exact ((g1.trans g2).trans g3).trans g4
  have ht1 : H3 t1 = some (.tup [.int 0, .ref a]) := by rw [← hH3]; exact g4 _ _ (g3 _ _ (g2 _ _ upd_same))
  have haL : H3 aL = some (.lst [.ref t1]) := by rw [← hH3]; exact g4 _ _ (g3 _ _ upd_same)
  have ht2 : H3 t2 = some (.tup []) := by rw [← hH3]; exact g4 _ _ upd_same
  have haP : H3 aP = some (.lst [.ref t2]) := by rw [← hH3]; exact upd_same
  have lN3 := g _ _ lN2
  have lR3 := g _ _ lR2
  have s4 : Same H (hide [aN, aR] H3) := s3.trans (hide_mono g)
  have up : ∀ {x : Addr} {o : HO}, H2 x = none → H3 x = some o → hide [aN, aR] H3 x = some o := fun {x o} n e => by
    rw [hide_out]
    · exact e
    · simp only [List.mem_cons, List.not_mem_nil, or_false, not_or]
      exact ⟨fun z => (by rw [z, lN2] at n; cases n), fun z => (by rw [z, lR2] at n; cases n)⟩
  have ha4 := s4 _ _ ha
  have im0 : Im (hide [aN, aR] H3) (.ref a) (nodeD (0, 0)) := Im.pair ha4 (.int 0) (.int 0)
  have n1 : H2 aL = none := g1.free nL
  have n2 : H2 t2 = none := (g1.trans g2).free nt2
  have n3 : H2 aP = none := ((g1.trans g2).trans g3).free nP
  have lu3 : hide [aN, aR] H3 u = some (.tup []) := by
    rw [hide_out (by simp only [List.mem_cons, List.not_mem_nil, or_false, not_or]; exact ⟨nuN, nuR⟩)]; exact g _ _ lu2
  refine ⟨fun m σ H' => ∃ lo, m = 400 - lo ∧ LW L M H a f w0 lo σ H', ⟨400, 0, rfl, aN, aR, aL, aP, _, _, _, _, _, _, _, _, [.ref a], [.ref t1], [.ref t2], [(keyN (0, 0), .ref u)], rfl, nN, nR0, nNR, s4, lN3, lR3, Nat.zero_le _, Nat.zero_le _, .one im0,
    ⟨rfl, .one (.tup lu3 .nil)⟩, up n1 haL, .one (Im.pair (up nt1 ht1) (.int 0) im0), up n3 haP, .one (.tup (up n2 ht2) .nil)⟩, ?_⟩
  clear hH1 hH2 hH3 g1 g2 g3 g4
  rintro m σ H' ⟨lo, rfl, aN, aR, aL, aP, o8, o9, o10, o11, o12, o13, o14, o15, nv, lv, pv, kvs, rfl, nN, nR, nNR, sB, hN, hR, hlo, hlo2, iN, kR, hL, iL, hP, iP⟩
  have hL' := hide_same _ _ _ _ hL
  have few : (bq L M lo).length ≤ 400 := Nat.le_trans (bq_few okL okM lo) hs
  have llen : lv.length = (bq L M lo).length - lo := by rw [iL.len, levelD_len]; simp
  refine ⟨_, rfl, !lv.isEmpty, .inl ⟨lv, SqL.of hL', rfl⟩, ?_⟩
  by_cases hem : lv = []
  · subst hem
    have e1 : (bq L M lo).length ≤ lo := by simp at llen; omega
    have e2 := fin_at okL okM hs e1
    rw [e2] at iN kR
    refine iteF ⟨_, rfl, _, rfl, sz2, fun t nt => ?_⟩
    have s5 := same_new (o := .tup [.ref aN, .ref aR]) nt
    exact k _ t aN aR nv kvs ((sB.trans (hide_same _ _)).trans s5) upd_same (s5 _ _ hN) (s5 _ _ hR) (iN.mono ((hide_same _ _).trans s5)) (kR.mono ((hide_same _ _).trans s5))
  have hne : lv.isEmpty = false := by cases lv with
    | nil => exact absurd rfl hem
    | cons => rfl
  rw [hne]
  refine iteT ⟨fun σ' H'' => ∃ m', m' < 400 - lo ∧ ∃ lo', m' = 400 - lo' ∧ LW L M H a f w0 lo' σ' H'', fun σ' H'' h => h, ?_⟩
  have hlt : lo < (bq L M lo).length := by
    have : 0 < lv.length := List.length_pos_iff.mpr hem
    omega
  -- found = {}
  intro aD nD
  generalize hG0 : hide [aN, aR] H' = G0 at sB iN kR hL iL hP iP
  generalize hns : ((bq L M lo).drop lo).map (·.1) = ns at iL
  generalize hsn : (bq L M lo).map (·.1) = sn
  have nsl : ns.length = (bq L M lo).length - lo := by rw [← hns]; simp
  have hnsk : ∀ n ∈ ns, NodeOk L M n := fun n hn => by
    rw [← hns] at hn
    obtain ⟨b, hb, rfl⟩ := List.mem_map.mp hn
    exact bq_ok okL okM lo b (List.mem_of_mem_drop hb)
  have nND : aN ≠ aD := ne_of_none hN nD
  have nRD : aR ≠ aD := ne_of_none hR nD
  have hL1 : upd H' aD (.dT []) aL = some (.lst lv) := same_new nD _ _ hL'
  have f0 : FI G0 aN aR aD nv kvs (lvM L M sn ns 0) (upd H' aD (.dT [])) := ⟨[], (upd_ne nND).trans hN, (upd_ne nRD).trans hR, upd_same, by rw [← hG0]; exact hide_grow nD, KvT.nil⟩
  refine ⟨_, rfl, aL, rfl, ⟨_, SqL.of hL1⟩, for_it (walk_list (xs := lv)) (fun r σ H2 => ∃ o9 o10 o11 o12, σ = [some (.ref a), some (.ref f), some (.int 10000), some (.str w0), some (.ref aN), some (.ref aR), some (.ref aL), some (.ref aP), some (.ref aD), o9, o10, o11, o12, o13, o14, o15] ∧ FI G0 aN aR aD nv kvs (lvM L M sn ns r) H2)
    ⟨_, _, _, _, rfl, f0⟩ (fun r σ H2 _ h => ?_) (fun r x σ H2 H3 hr h y => ?_) fun σ H2 h => ?_⟩
  · obtain ⟨_, _, _, _, _, kD, _, _, _, h4, _⟩ := h
    exact SqL.of (hide_same _ _ _ _ (h4 _ _ hL))
  · obtain ⟨o9, o10, o11, o12, rfl, fi⟩ := h
    obtain ⟨rfl, hx⟩ := y
    have hrn : r < ns.length := by rw [nsl, ← llen]; exact hr
    have hn : ns[r]? = some ns[r] := List.getElem?_eq_getElem hrn
    generalize ns[r] = n at hn
    have hnok := hnsk n (List.mem_of_getElem? hn)
    obtain ⟨d, hd, him⟩ := iL.get hx
    rw [levelD_at hn] at hd
    cases hd
    obtain ⟨b, v1, v2, rfl, hb, i1, i2⟩ := him.pair_inv
    cases i1.int_inv
    obtain ⟨b2, rfl, hb2⟩ := nodeD_inv i2
    have sG : Same G0 H3 := by obtain ⟨_, _, _, _, h4, _⟩ := fi; exact h4.trans (hide_same _ _)
    have hHG := sB.trans sG
    refine ⟨b, _, rfl, SqT.of (sG _ _ hb), rfl, _, _, rfl, _, _, rfl, rfl, ?_⟩
    refine ⟨f, c', rfl, rfl, hHG _ _ hf, _, rfl, hHG _ _ hf, hHG _ _ hc, p, q, L, M, n, b2, hws.symm, rfl, hp.mono hHG, hq.mono hHG, okL, okM, sG _ _ hb2, hnok, fun H4 aS sv s4 nS hS iS => ?_⟩
    have iS := iS.mono (hide_same _ _)
    have hSn : aS ≠ aD ∧ aS ≠ aN ∧ aS ≠ aR := by
      obtain ⟨_, h1, h2, h3, _⟩ := fi
      exact ⟨(ne_of_none h3 nS).symm, (ne_of_none h1 nS).symm, (ne_of_none h2 nS).symm⟩
    have slen : sv.length = (nx L M n).length := by rw [iS.len, List.length_map]
    have fi4 := fi.same s4
    refine ⟨aS, rfl, ⟨_, SqL.of hS⟩, for_it (walk_list (xs := sv)) (fun j σ H5 => ∃ o11 o12, σ = [some (.ref a), some (.ref f), some (.int 10000), some (.str w0), some (.ref aN), some (.ref aR), some (.ref aL), some (.ref aP), some (.ref aD), some (.int (r : Nat)), some (.ref b2), o11, o12, o13, o14, o15] ∧
      H5 aS = some (.lst sv) ∧ Ims (hide [aD, aN, aR] H5) sv ((nx L M n).map stepD) ∧ FI G0 aN aR aD nv kvs (addM r sn (lvM L M sn ns r) ((nx L M n).take j)) H5)
      ⟨_, _, rfl, hS, ?_, fi4⟩ (fun j σ H5 _ h => ?_) (fun j x σ H5 H6 hj h y => ?_) fun σ H5 h => ?_⟩
    · obtain ⟨kD, h1, h2, h3, _⟩ := fi4
      refine iS.hid (fun x hx ys e => ?_) (noLs_all fun d hd => ?_)
      · simp only [List.mem_cons, List.not_mem_nil, or_false] at hx
        rcases hx with rfl | rfl | rfl
        · rw [h3] at e; cases e
        · rw [h1] at e; cases e
        · rw [h2] at e; cases e
      · obtain ⟨p', _, rfl⟩ := List.mem_map.mp hd
        rfl
    · obtain ⟨_, _, _, h, _⟩ := h
      exact SqL.of h
    · obtain ⟨o11, o12, rfl, hS5, iS5, fi⟩ := h
      obtain ⟨rfl, hx⟩ := y
      have hjn : j < (nx L M n).length := by rw [← slen]; exact hj
      have hpj : (nx L M n)[j]? = some (nx L M n)[j] := List.getElem?_eq_getElem hjn
      generalize (nx L M n)[j] = pj at hpj
      obtain ⟨d, hd, him⟩ := iS5.get hx
      rw [List.getElem?_map, hpj] at hd
      cases hd
      obtain ⟨b3, v1, v2, rfl, hb3, i1, i2⟩ := him.pair_inv
      cases i1.str_inv
      obtain ⟨b4, rfl, hb4⟩ := nodeD_inv (n := pj.2) i2
      have hb4' := hide_same _ _ _ _ hb4
      refine ⟨b3, _, rfl, SqT.of (hide_same _ _ _ _ hb3), rfl, _, _, rfl, _, _, rfl, rfl, ?_⟩
      obtain ⟨kD, h1, h2, h3, h4, h5⟩ := id fi
      have kR6 := kR.mono h4
      have em := addM_take r sn (nx L M n) (lvM L M sn ns r) j pj hpj
      have kDl : kD.length ≤ 100000 := by
        rw [h5.len, ← hsn, ← hns]
        have := addM_few okL okM hs (lo := lo) (r := r) (n := n) (by omega) (by rw [hns]; exact hn) j
        omega
      refine ⟨_, rfl, _, rfl, aR, _, rfl, DGet.t (k := keyN pj.2) h2 hb4', _, rfl, ?_⟩
      rw [kR6.isSome, hsn]
      by_cases c1 : pj.2 ∈ sn
      · rw [decide_eq_true c1]
        rw [if_pos (.inl c1)] at em
        refine iteF (iteF ⟨_, _, rfl, hS5, iS5, by rw [em]; exact fi⟩)
      rw [decide_eq_false c1]
      refine iteT ⟨_, rfl, _, rfl, aD, _, rfl, DGet.t (k := keyN pj.2) h3 hb4', _, rfl, ?_⟩
      rw [h5.isSome]
      by_cases c2 : pj.2 ∈ (addM r sn (lvM L M sn ns r) ((nx L M n).take j)).map (·.1)
      · rw [decide_eq_true c2]
        rw [if_pos (.inr c2)] at em
        refine iteF ⟨_, rfl, _, rfl, sz2, fun t nt => ?_⟩
        have s6 := same_new (o := .tup [.int (r : Nat), .str (sgS pj.1)]) nt
        obtain ⟨m, hm, em1⟩ := List.mem_map.mp c2
        obtain ⟨im, him⟩ := List.mem_iff_getElem?.mp hm
        obtain ⟨v, hv1, hv2, hv3⟩ := h5.at_ (addM_nodup r sn _ _ (lvM_nodup r)) him
        have hlt := addM_old okL okM hnsk hn hpj hm
        refine ⟨_, rfl, _, rfl, aD, v, rfl, .inr ⟨kD, keyN pj.2, b4, .inl (s6 _ _ h3), rfl, s6 _ _ hb4', ?_⟩, ?_⟩
        · rw [← em1, hv2]
        refine ⟨markD (r, pj.1), markD m.2, Im.dp (Im.pair upd_same (.int _) (.str _)), Im.dp ((hv3.mono (hide_same _ _)).mono s6), rfl, markD_ne _, markD_depth _, _, rfl, ?_⟩
        rw [dataLt_mark hlt]
        refine iteF ⟨_, _, rfl, s6 _ _ hS5, iS5.mono (hide_mono s6), by rw [em]; exact fi.same s6⟩
      · rw [decide_eq_false c2]
        rw [if_neg (fun z => z.elim c1 c2)] at em
        refine iteT (iteT ⟨_, rfl, _, rfl, sz2, fun t nt => ?_⟩)
        have s6 := same_new (o := .tup [.int (r : Nat), .str (sgS pj.1)]) nt
        refine ⟨_, rfl, _, rfl, aD, _, rfl, DPut.t (k := keyN pj.2) (s6 _ _ h3) (s6 _ _ hb4') (szlt (by omega)), ?_⟩
        refine ⟨_, _, rfl, ?_, ?_, ?_⟩
        · rw [upd_ne hSn.1]; exact s6 _ _ hS5
        · rw [hide_mut (by simp)]; exact iS5.mono (hide_mono s6)
        · rw [em]
          refine FI.put (m := (pj.2, (r, pj.1))) (s6 _ _ h1) (s6 _ _ h2) (s6 _ _ h3) (h4.trans (hide_mono s6)) (h5.mono (hide_mono s6)) nND nRD c2 ?_
          rw [hide_out]
          · exact upd_same
          · simp only [List.mem_cons, List.not_mem_nil, or_false, not_or]
            exact ⟨(ne_of_none h3 nt).symm, (ne_of_none h1 nt).symm, (ne_of_none h2 nt).symm⟩
    · obtain ⟨o11, o12, rfl, hS5, iS5, fi⟩ := h
      refine ⟨_, _, _, _, rfl, ?_⟩
      rw [lvM_succ hn]
      rw [slen, List.take_length] at fi
      exact fi
  · obtain ⟨o9, o10, o11, o12, rfl, kD, h1, h2, h3, h4, h5⟩ := h
    have hbl := bq_level (P := L) (Q := M) (lo := lo) lv.length (by omega)
    have hhi : lo + lv.length = (bq L M lo).length := by omega
    rw [hhi, hsn, hns] at hbl
    generalize hps : ((bq L M lo).drop lo).map (·.2) = ps at hbl
    have hlt2 := (lvM_lt okL okM (seen := sn) hnsk lv.length).1
    have hrk := (lvM_lt okL okM (seen := sn) hnsk lv.length).2
    have hsig := lvM_sign okL okM (seen := sn) hnsk lv.length
    have sG2 : Same G0 H2 := h4.trans (hide_same _ _)
    have hnd : ((lvM L M sn ns lv.length).map (·.1)).Nodup := lvM_nodup lv.length
    have hsee : ∀ m ∈ lvM L M sn ns lv.length, m.1 ∉ sn := lvM_seen lv.length
    generalize lvM L M sn ns lv.length = MM at h5 hbl hlt2 hnd hsee hrk hsig
    have hMl : MM.length ≤ 400 := by
      have h6 := congrArg List.length hbl
      rw [List.length_append, List.length_map] at h6
      have := Nat.le_trans (bq_few okL okM (bq L M lo).length) hs
      omega
    -- level = [], fresh = [], last = None
    refine ⟨Nat.zero_le _, fun aL2 nL2 => ⟨Nat.zero_le _, fun aF nF => ?_⟩⟩
    have s7 := (same_new (o := .lst []) nL2).trans (same_new (o := .lst []) nF)
    have hL7 : upd (upd H2 aL2 (.lst [])) aF (.lst []) aL2 = some (.lst []) := by rw [upd_ne (ne_of_none upd_same nF)]; exact upd_same
    have hF7 : upd (upd H2 aL2 (.lst [])) aF (.lst []) aF = some (.lst []) := upd_same
    have nFL : aF ≠ aL2 := (ne_of_none upd_same nF).symm
    have nF2 : H2 aF = none := (same_new (o := .lst []) nL2).free nF
    have q1 : aN ≠ aF := ne_of_none h1 nF2
    have q2 : aN ≠ aL2 := ne_of_none h1 nL2
    have q3 : aR ≠ aF := ne_of_none h2 nF2
    have q4 : aR ≠ aL2 := ne_of_none h2 nL2
    have q5 : aL2 ≠ aF := ne_of_none upd_same nF
    generalize upd (upd H2 aL2 (.lst [])) aF (.lst []) = H7 at s7 hL7 hF7
    have h1 := s7 _ _ h1
    have h2 := s7 _ _ h2
    have h3 := s7 _ _ h3
    have h4 := h4.trans (hide_mono s7)
    have h5 := h5.mono (hide_mono s7)
    have ex : ∀ {z : Addr} {o : HO}, hide [aD, aN, aR] H7 z = some o → z ≠ aD ∧ z ≠ aN ∧ z ≠ aR := fun {z o} e => by
      have := (hide_some e).1
      simpa using this
    -- the comprehension
    refine ⟨aD, _, h3, True.intro, fun od => ⟨_, rfl, aD, od, rfl, .inr ⟨kD, upd_same, fun D nD2 => ?_⟩⟩⟩
    generalize hB : upd H7 aD (.frz od (.dT kD)) = B at nD2
    have bD : B aD = some (.frz od (.dT kD)) := by rw [← hB]; exact upd_same
    have sGB : Same (hide [aD, aN, aR] H7) B := by
      have : hide [aD, aN, aR] B = hide [aD, aN, aR] H7 := by rw [← hB]; exact hide_mut (by simp)
      rw [← this]; exact hide_same _ _
    refine lc_it (walk_keysT (kvs := kD)) (PvIm B D fun i => (MM[i]?).map itemD) (PvIm.zero nD2) (fun i H8 _ pv => pv.base _ _ bD) (fun i x H8 H9 hi pv y => ?_) fun H8 pv => ?_
    · obtain ⟨rfl, kk, v, qa, hk, rfl, hqa⟩ := y
      have hiM : i < MM.length := by rw [← h5.len]; exact hi
      have hm : MM[i]? = some MM[i] := List.getElem?_eq_getElem hiM
      generalize MM[i] = m at hm
      obtain ⟨v', e1, e2, e3⟩ := h5.at_ hnd hm
      rw [hk] at e1
      cases e1
      have lkd := pv.base _ _ bD
      refine ⟨rfl, ?_⟩
      refine ⟨_, rfl, _, rfl, aD, v, rfl, .inr ⟨kD, keyN m.1, qa, .inr ⟨od, lkd⟩, rfl, hqa, e2.symm⟩, _, rfl, sz2, fun t nt => ?_⟩
      have nDt : t ≠ D := fun e => by
        obtain ⟨_, acc, h, _⟩ := pv
        rw [← e, nt] at h; cases h
      refine pv.push (H4 := upd H9 t (.tup [v, .ref qa])) (hide_upd nt) (upd_ne nDt.symm) (d := itemD m) (by show (MM[i]?).map itemD = _; rw [hm]; rfl) ?_ (by omega)
      have sg : Same (hide [aD, aN, aR] H7) (hide [D] H9) := sGB.trans pv.1
      refine Im.pair (x := v) (y := .ref qa) ?_ ((e3.mono sg).mono (hide_upd nt)) ?_
      · rw [hide_out (by simpa using nDt)]; exact upd_same
      · have nDq : qa ≠ D := fun e => by
          obtain ⟨_, acc, h, _⟩ := pv
          rw [← e, hqa] at h; cases h
        refine Im.pair (x := .int m.1.1) (y := .int m.1.2) ?_ (.int _) (.int _)
        rw [hide_out (by simpa using nDq), upd_ne (ne_of_none hqa nt)]; exact hqa
    · refine ⟨pv.base _ _ bD, ?_⟩
      have s8 : Same H7 (upd H8 aD (.dT kD)) := lock_same (od := od) h3 (by rw [hB]; exact pv.base)
      have bD8 := pv.base _ _ bD
      obtain ⟨_, acc, hacc, _, hai⟩ := pv
      rw [h5.len, map_range] at hai
      have nDa : D ≠ aD := fun e => by rw [e, bD] at nD2; cases nD2
      have noI : noLs (MM.map itemD) = true := noLs_all fun d hd => by obtain ⟨m, _, rfl⟩ := List.mem_map.mp hd; rfl
      have hai : Ims (upd H8 aD (.dT kD)) acc (MM.map itemD) := by
        refine (Ims.hid (L := [aD]) (fun p hp xs e => ?_) hai noI).mono fun b o e => ?_
        · have : p = aD := by simpa using hp
          rw [this] at e
          rw [(hide_some e).2] at bD8; cases bD8
        · obtain ⟨n1, e⟩ := hide_some e
          rw [upd_ne (by simpa using n1)]; exact (hide_some e).2
      have hacc : upd H8 aD (.dT kD) D = some (.lst acc) := by rw [upd_ne nDa]; exact hacc
      generalize upd H8 aD (.dT kD) = H9 at s8 hai hacc
      refine ⟨D, acc, MM.map itemD, rfl, SqL.of hacc, hai, ?_, ?_, fun d hd => ?_, fun pz ws npz hws => ?_⟩
      · exact PySem.W.AllAlike.of fun d e => rfl
      · refine .inl fun d hd => ?_
        obtain ⟨m, _, rfl⟩ := List.mem_map.mp hd
        exact ⟨_, _, rfl⟩
      · obtain ⟨m, _, rfl⟩ := List.mem_map.mp hd
        exact depth_item m
      rw [sort_items hlt2] at hws
      have z1 : pz ≠ aF := (ne_of_none (s8 _ _ hF7) npz).symm
      have z2 : pz ≠ aL2 := (ne_of_none (s8 _ _ hL7) npz).symm
      have z3 : pz ≠ aN := (ne_of_none (s8 _ _ h1) npz).symm
      have z4 : pz ≠ aR := (ne_of_none (s8 _ _ h2) npz).symm
      have s10 := s8.trans (same_new (o := .lst ws) npz)
      have hws := hws.mono (same_new (o := .lst ws) npz)
      have hpz : upd H9 pz (.lst ws) pz = some (.lst ws) := upd_same
      generalize upd H9 pz (.lst ws) = H10 at s10 hws hpz
      have k1 := s10 _ _ h1
      have k2 := s10 _ _ h2
      have k3 := s10 _ _ hL7
      have k4 := s10 _ _ hF7
      have hLt : ∀ p ∈ [aF, aL2, aN, aR], ∀ xs, H10 p ≠ some (.tup xs) := fun p hp xs e => by
        simp only [List.mem_cons, List.not_mem_nil, or_false] at hp
        rcases hp with rfl | rfl | rfl | rfl
        · rw [k4] at e; cases e
        · rw [k3] at e; cases e
        · rw [k1] at e; cases e
        · rw [k2] at e; cases e
      have hws := Ims.hid hLt hws noI
      have sG1 : Same G0 (hide [aF, aL2, aN, aR] H10) := fun b o e => by
        have e2 := h4 _ _ e
        have n1 := ex e2
        have n2 := ne_of_none (sG2 _ _ e) nF2
        have n3 := ne_of_none (sG2 _ _ e) nL2
        rw [hide_out (by simp [n1, n2, n3])]
        exact s10 _ _ (hide_some e2).2
      have wl : ws.length = MM.length := by rw [hws.len, List.length_map]
      have hpp : ∀ {z : Addr} {o : HO}, hide [aF, aL2, aN, aR] H10 z = some o → z ≠ aF ∧ z ≠ aL2 ∧ z ≠ aN ∧ z ≠ aR := fun {z o} e => by
        have := (hide_some e).1
        simpa using this
      generalize hG1 : hide [aF, aL2, aN, aR] H10 = G1 at hws sG1
      have iN1 := iN.mono sG1
      have kR1 := kR.mono sG1
      have iP1 := iP.mono sG1
      have hP1 := sG1 _ _ hP
      refine ⟨pz, rfl, ⟨_, SqL.of hpz⟩, for_it (walk_list (xs := ws)) (fun j σ H6 => ∃ (fv lv2 nv2 : List V) (kv2 : List (List Key × V)) (lastv : V) (o12 o15 : Option V), σ = [some (.ref a), some (.ref f), some (.int 10000), some (.str w0), some (.ref aN), some (.ref aR), some (.ref aL2), some (.ref aP), some (.ref aD), o9, o10, o11, o12, some (.ref aF), some lastv, o15] ∧
        H6 aF = some (.lst fv) ∧ H6 aL2 = some (.lst lv2) ∧ H6 aN = some (.lst nv2) ∧ H6 aR = some (.dT kv2) ∧ H6 pz = some (.lst ws) ∧ Same G1 (hide [aF, aL2, aN, aR] H6) ∧ Ims (hide [aF, aL2, aN, aR] H6) fv ((MM.take j).map fun m => textD (withP ps m).2) ∧ Ims (hide [aF, aL2, aN, aR] H6) lv2 (levelD ((MM.take j).map (·.1))) ∧
        Ims (hide [aF, aL2, aN, aR] H6) nv2 ((bq L M lo ++ (MM.take j).map (withP ps)).map fun b => nodeD b.1) ∧ KvT (hide [aF, aL2, aN, aR] H6) kv2 (·.1) (fun b => textD b.2) (bq L M lo ++ (MM.take j).map (withP ps)) ∧ (lastv = .non ∨ ∃ j' m, j' < j ∧ MM[j']? = some m ∧ Im (hide [aF, aL2, aN, aR] H6) lastv (markD m.2)))
        ⟨[], [], nv, kvs, .non, _, _, rfl, k4, k3, k1, k2, hpz, by rw [hG1]; exact fun _ _ e => e, .nil, .nil, by rw [hG1]; simpa using iN1, by rw [hG1]; simpa using kR1, .inl rfl⟩ (fun j σ H6 _ h => ?_) (fun j x σ H6 H6' hj h y => ?_) fun σ H6 h => ?_⟩
      · obtain ⟨_, _, _, _, _, _, _, _, _, _, _, _, h, _⟩ := h
        exact SqL.of h
      · obtain ⟨fv, lv2, nv2, kv2, lastv, o12, o15, rfl, e1, e2, e3, e4, e5, sg, i1, i2, i3, i4, hl⟩ := h
        obtain ⟨rfl, hx⟩ := y
        have hjM : j < MM.length := by rw [← wl]; exact hj
        have hm : MM[j]? = some MM[j] := List.getElem?_eq_getElem hjM
        have hmem := List.mem_of_getElem? hm
        have et : MM.take (j + 1) = MM.take j ++ [MM[j]] := by rw [List.take_add_one, hm]; rfl
        generalize MM[j] = m at hm hmem et
        obtain ⟨d, hd, him⟩ := hws.get hx
        rw [List.getElem?_map, hm] at hd
        cases hd
        obtain ⟨bi, v1, v2, rfl, hbi, j1, j2⟩ := him.pair_inv
        obtain ⟨bm, w1, w2, rfl, hbm, g1, g2⟩ := j1.pair_inv
        cases g1.int_inv
        cases g2.str_inv
        obtain ⟨bn, rfl, hbn⟩ := nodeD_inv j2
        have sg6 := sg.trans (hide_same _ _)
        refine ⟨bi, _, rfl, SqT.of (sg6 _ _ hbi), rfl, _, _, rfl, _, _, rfl, rfl, ?_⟩
        -- the path
        have hk1 := hrk m hmem
        have hk2 : lo + m.2.1 < (bq L M lo).length := by omega
        have hbt : ((bq L M lo).drop lo)[m.2.1]? = some (bq L M lo)[lo + m.2.1] := by rw [List.getElem?_drop]; exact List.getElem?_eq_getElem hk2
        have hbl2 := bq_text lo _ (List.getElem_mem hk2)
        generalize (bq L M lo)[lo + m.2.1] = bb at hbt hbl2
        obtain ⟨vp, hvp, hip⟩ := iP1.at_ (i := m.2.1) (d := textD bb.2) (by rw [List.getElem?_map, hbt]; rfl)
        obtain ⟨pt, xs, rfl, hpt, hxs⟩ := hip.tup_inv
        have exs := Ims.sgns_inv hxs
        have ewp : withP ps m = (m.1, bb.2 ++ [m.2.2]) := by
          unfold withP
          rw [← hps, List.getD_eq_getElem?_getD, List.getElem?_map, hbt]; rfl
        have l1 := i1.len
        have l2 := i2.len
        have l3 := i3.len
        have l4 := i4.len
        rw [levelD_len] at l2
        simp only [List.length_map, List.length_append, List.length_take] at l1 l2 l3 l4
        refine ⟨lastv, bm, aF, aP, fv, pv, xs, m.2.1, m.2.2, pt, rfl, rfl, rfl, rfl, sg6 _ _ hbm, ?_, okSign_lt (hsig m hmem), e1, by omega, sg6 _ _ hP1, hvp, sg6 _ _ hpt, by rw [exs, List.length_map]; omega, fun t Ht sT ht => ?_⟩
        · rcases hl with h | ⟨j', m', hj', hm', h⟩
          · exact .inl h
          · refine .inr ⟨m'.2, h.mono (hide_same _ _), ?_, okSign_lt (hsig m' (List.mem_of_getElem? hm'))⟩
            have hp := List.pairwise_iff_getElem.mp hlt2 j' j (by rw [List.length_map]; omega) (by rw [List.length_map]; omega) hj'
            simp only [List.getElem_map] at hp
            rw [List.getElem?_eq_getElem (by omega)] at hm' hm
            cases hm'
            cases hm
            exact ltM_ne hp
        have f1 := sT _ _ e1
        have f2 := sT _ _ e2
        have f3 := sT _ _ e3
        have f4 := sT _ _ e4
        have f5 := sT _ _ e5
        have fbn := sT _ _ (sg6 _ _ hbn)
        have sgT := hide_mono (L := [aF, aL2, aN, aR]) sT
        have nLt : ∀ {z : Addr} {xs : List V}, Ht z = some (.tup xs) → z ∉ [aF, aL2, aN, aR] := fun {z xs} e hz => by
          simp only [List.mem_cons, List.not_mem_nil, or_false] at hz
          rcases hz with rfl | rfl | rfl | rfl
          · rw [f1] at e; cases e
          · rw [f2] at e; cases e
          · rw [f3] at e; cases e
          · rw [f4] at e; cases e
        have imt : Im (hide [aF, aL2, aN, aR] Ht) (.ref t) (textD (withP ps m).2) := by
          rw [ewp]
          refine Im.tup (xs := xs ++ [.str (sgS m.2.2)]) (by rw [hide_out (nLt ht)]; exact ht) ?_
          show Ims _ _ ((bb.2 ++ [m.2.2]).map sgn)
          rw [List.map_append, exs]
          exact (Ims.sgns _ _).snoc (.str _)
        have imn : Im (hide [aF, aL2, aN, aR] Ht) (.ref bn) (nodeD m.1) := Im.pair (by rw [hide_out (nLt fbn)]; exact fbn) (.int _) (.int _)
        refine ⟨_, rfl, _, rfl, aF, _, -1, _, rfl, rfl, SqL.of upd_same, atI_last _ _, _, rfl, _, rfl, aR, _, rfl, DPut.t (k := keyN m.1) ((upd_ne q3).trans f4) ((upd_ne (ne_of fbn f1 (fun z => nomatch z))).trans fbn) (szlt (by omega)), ?_⟩
        generalize hH8 : upd (upd Ht aF (.lst (fv ++ [.ref t]))) aR (.dT (putK kv2 (keyN m.1) (.ref t))) = H8
        have h8 : hide [aF, aL2, aN, aR] H8 = hide [aF, aL2, aN, aR] Ht := by rw [← hH8, hide_mut (by simp), hide_mut (by simp)]
        have g1 : H8 aF = some (.lst (fv ++ [.ref t])) := by rw [← hH8, upd_ne q3.symm]; exact upd_same
        have g2 : H8 aL2 = some (.lst lv2) := by rw [← hH8, upd_ne q4.symm, upd_ne q5]; exact f2
        have g3 : H8 aN = some (.lst nv2) := by rw [← hH8, upd_ne nNR, upd_ne q1]; exact f3
        have g4 : H8 aR = some (.dT (putK kv2 (keyN m.1) (.ref t))) := by rw [← hH8]; exact upd_same
        have g5 : H8 pz = some (.lst ws) := by rw [← hH8, upd_ne z4, upd_ne z1]; exact f5
        refine ⟨_, rfl, .inl ⟨rfl, _, SqL.of g2⟩, _, rfl, aF, _, rfl, .inl (SqL.of g1), _, _, rfl, rfl, _, rfl, sz2, fun t2 nt2 => ?_⟩
        have s9 := same_new (o := .tup [.int (((fv ++ [V.ref t]).length : Nat) - 1 : Int), .ref bn]) nt2
        refine ⟨aL2, lv2, _, rfl, rfl, s9 _ _ g2, szlt (by omega), ?_⟩
        refine ⟨_, rfl, .inl ⟨rfl, _, SqL.of ((upd_ne q2).trans (s9 _ _ g3))⟩, _, rfl, aN, nv2, _, rfl, rfl, (upd_ne q2).trans (s9 _ _ g3), szlt (by omega), ?_⟩
        have hG : Same (hide [aF, aL2, aN, aR] Ht) (hide [aF, aL2, aN, aR] (upd H8 t2 (.tup [.int (((fv ++ [V.ref t]).length : Nat) - 1 : Int), .ref bn]))) := by
          rw [← h8]; exact hide_upd nt2
        have ht2 : hide [aF, aL2, aN, aR] (upd H8 t2 (.tup [.int (((fv ++ [V.ref t]).length : Nat) - 1 : Int), .ref bn])) t2 = some (.tup [.int (((fv ++ [V.ref t]).length : Nat) - 1 : Int), .ref bn]) := by
          rw [hide_out (by
            simp only [List.mem_cons, List.not_mem_nil, or_false, not_or]
            exact ⟨(ne_of_none g1 nt2).symm, (ne_of_none g2 nt2).symm, (ne_of_none g3 nt2).symm, (ne_of_none g4 nt2).symm⟩)]
          exact upd_same
        generalize upd H8 t2 (.tup [.int (((fv ++ [V.ref t]).length : Nat) - 1 : Int), .ref bn]) = H9 at s9 hG ht2
        have hh : hide [aF, aL2, aN, aR] (upd (upd H9 aL2 (.lst (lv2 ++ [.ref t2]))) aN (.lst (nv2 ++ [.ref bn]))) = hide [aF, aL2, aN, aR] H9 := by rw [hide_mut (by simp), hide_mut (by simp)]
        have sA := sgT.trans hG
        refine ⟨_, _, _, _, _, _, _, rfl, (upd_ne q1.symm).trans ((upd_ne q5.symm).trans (s9 _ _ g1)), (upd_ne q2.symm).trans upd_same, upd_same, (upd_ne nNR.symm).trans ((upd_ne q4).trans (s9 _ _ g4)), (upd_ne z3).trans ((upd_ne z2).trans (s9 _ _ g5)), ?_, ?_, ?_, ?_, ?_, .inr ⟨j, m, Nat.lt_succ_self _, hm, ?_⟩⟩
        · rw [hh]; exact sg.trans sA
        · rw [hh, et, List.map_append]; exact (i1.mono sA).snoc (imt.mono hG)
        · rw [hh, et, List.map_append]
          show Ims _ _ (levelD (_ ++ [m.1]))
          rw [levelD_snoc]
          refine (i2.mono sA).snoc (Im.pair ht2 ?_ (imn.mono hG))
          have : (((fv ++ [V.ref t]).length : Nat) - 1 : Int) = (((MM.take j).map (·.1)).length : Nat) := by
            rw [List.length_append, List.length_singleton, l1, List.length_map, List.length_take]; omega
          rw [this]
          exact .int _
        · rw [hh, et, show (MM.take j ++ [m]).map (withP ps) = (MM.take j).map (withP ps) ++ [withP ps m] from List.map_append, ← List.append_assoc, List.map_append]
          exact (i3.mono sA).snoc (imn.mono hG)
        · rw [hh, et, show (MM.take j ++ [m]).map (withP ps) = (MM.take j).map (withP ps) ++ [withP ps m] from List.map_append, ← List.append_assoc]
          refine (i4.mono sA).put (a := withP ps m) ?_ (imt.mono hG)
          show m.1 ∉ _
          rw [List.map_append, withP_fst, hsn, List.mem_append, not_or]
          refine ⟨hsee m hmem, fun hq => ?_⟩
          have hnd2 : ((MM.take (j + 1)).map (·.1)).Nodup := hnd.sublist ((List.take_sublist _ _).map _)
          rw [et, List.map_append, List.nodup_append] at hnd2
          exact hnd2.2.2 m.1 hq m.1 (by simp) rfl
        · rw [hh]
          have : Im (hide [aF, aL2, aN, aR] Ht) (.ref bm) (markD m.2) := by
            have hb := sT _ _ (sg6 _ _ hbm)
            exact Im.pair (by rw [hide_out (nLt hb)]; exact hb) (.int _) (.str _)
          exact this.mono hG
      · obtain ⟨fv, lv2, nv2, kv2, lastv, o12, o15, rfl, e1, e2, e3, e4, e5, sg, i1, i2, i3, i4, hl⟩ := h
        rw [wl, List.take_length] at i1 i2 i3 i4
        rw [← hbl] at i3 i4
        have l3 := i3.len
        rw [List.length_map] at l3
        have few2 := Nat.le_trans (bq_few okL okM (bq L M lo).length) hs
        refine ⟨_, rfl, ?_⟩
        refine ⟨_, rfl, aN, _, rfl, .inl (SqL.of e3), _, rfl, _, _, rfl, rfl, _, rfl, ite2 (fun c => ?_) (fun c => ?_)⟩
        · have c : (10000 : Int) < (nv2.length : Nat) := by simpa using c
          omega
        · have hdr : (bq L M (bq L M lo).length).drop (bq L M lo).length = MM.map (withP ps) := by rw [hbl, List.drop_left]
          have sL : Same (hide [aF, aL2, aN, aR] H6) (hide [aN, aR] H6) := hide_sub fun p hp => by simp only [List.mem_cons, List.not_mem_nil, or_false] at hp ⊢; exact .inr (.inr hp)
          refine ⟨400 - (bq L M lo).length, by omega, (bq L M lo).length, rfl, aN, aR, aL2, aF, _, _, _, _, _, _, _, _, nv2, lv2, fv, kv2, rfl, nN, nR, nNR, ?_, e3, e4, ?_, few, ?_, ?_, ?_, ?_, ?_, ?_⟩
          · exact (sB.trans sG1).trans (sg.trans sL)
          · rw [hbl, List.length_append]; omega
          · exact i3.mono sL
          · exact i4.mono sL
          · rw [hide_out (by simp only [List.mem_cons, List.not_mem_nil, or_false, not_or]; exact ⟨q2.symm, q4.symm⟩)]; exact e2
          · rw [hdr, withP_fst]; exact i2.mono sL
          · rw [hide_out (by simp only [List.mem_cons, List.not_mem_nil, or_false, not_or]; exact ⟨q1.symm, q3.symm⟩)]; exact e1
          · rw [hdr, List.map_map]; exact i1.mono sL
end
end Tk
set_option maxHeartbeats 1000000
/-! listed_pairs -/
namespace Tk
open PySem L2 NdefX LamX
section
variable {P : Program} {w : World} {K : PySem.W.Frag} {mg : Str → Option Value} {base : Heap}
/-- a def whose code object is known -/
theorem okAt {CX : CXT} {x qual : Str} {params : Arguments} {body : List Stmt} {scope : Scope} {dvs : List V} {kws : List (Str × V)} {f c : Addr} {fd : FuncData} {N ps : List Str} {k : Nat} {sp : Sp} (F : FunD K x qual params body scope dvs kws f fd) (hc : fd.code = .ref c) (S : FnScope N ps scope) (len : ∀ vs H Q E, sp vs H Q E → vs.length = ps.length)
    (hbody : ∀ (A : Around) (outer : List Env) (s : Shared) (H : Hp) (vs : List V) (Q : VK) (E : XK), Room k (A.deeper (PyProof.Rows.envOfC qual scope s.heap.objs.size f (.ref c))) → sp vs H Q E →
      ∃ t, PSs (cxOf CX P w K mg base N qual scope f (.ref c) A outer s H E) body t ∧ t { nx := fun _ H' => Q .non H', rt := Q } (start N vs) H) : FnOk P w K mg base CX (k + 1) f fd ps sp := by
  obtain ⟨oc, od, dV, kV, doc, pm, an, cdv, ct, osl, rfl, lk, hcd, _, _⟩ := F.ex
  have hc : cdv = .ref c := hc
  subst hc
  exact fn_of lk hcd S len fun A outer s H vs Q E hr hsp => hbody A outer s H vs Q E hr hsp
def onQ : Str := "listed_pairs.<locals>.onward"
def nmL : Nat → Nat → Str := fun _ _ => onQ
def tabL (P : Addr) : List NTab := [(P, nmL)]
theorem tabL_one {P : Addr} : ∀ p ∈ tabL P, p.1 = P → p.2 = nmL := fun p hp _ => by
  have : p = (P, nmL) := by simpa [tabL] using hp
  rw [this]
theorem ndB : ndefB (defScope (top 17)) (C8.fnScope sOn) ["first", "second"] = true := by decide +kernel
def spLpairs (C P : Addr) : Sp := fun vs H Q _ => ∃ (p q : Addr) (L M : Pl), vs = [.ref p, .ref q] ∧ TabsN (tabL P) H ∧ PlanO C H p L ∧ PlanO C H q M ∧ L.Ok ∧ M.Ok ∧ (L.rows.length + 1) * (M.rows.length + 1) ≤ 400 ∧
  ∀ (H' : Hp) (t aN aR : Addr) (nv : List V) (kvs : List (List Key × V)), ExtN H H' → TabsN (tabL P) H' → H' t = some (.tup [.ref aN, .ref aR]) → H' aN = some (.lst nv) → H' aR = some (.dT kvs) → Ims H' nv ((fin L M).map fun b => nodeD b.1) → KvT H' kvs (·.1) (fun b => textD b.2) (fin L M) → Q (.ref t) H'
theorem ok_lpairs (T : Fx K mg) (TB : TabB base mg T.c_lp T.P_lp) : FnOk P w K mg base CX0 4 T.a_lpairs T.d_lpairs ["first", "second"] (spLpairs T.cP T.P_lp) := by
  refine okAt T.F_lpairs T.code_lp sc_lpairs (fun vs H Q E h => ?_) (fun A outer s H vs Q E hr h => ?_)
  · obtain ⟨p, q, L, M, rfl, _⟩ := h; rfl
  obtain ⟨p, q, L, M, rfl, hT, hp, hq, okL, okM, hs, k⟩ := h
  refine ⟨_, (pss_cons (ps_ndefS (i := 2) (T := tabL T.P_lp) (nm := nmL) rfl TB rfl (by simp [tabL]) rfl tabL_one (ndef_free ndB) rfl rfl rfl sc_lpairs.nd rfl (.inl rfl) (.inl rfl))
    (pss_one (ps_ret (pe_callC (js := [0, 1]) (ok_listed T) (fun ok => Caps.made (scope := C8.fnScope sOn) ok (ndef_free ndB) (ndef_fr ndB) rfl) (hr.mono (by decide)) (by rfl) T.g_listed T.F_listed.kp T.b_listed pass0 (fun _ => rfl) (pa_cons (pe_tup (pa_cons pe_int (pa_cons pe_int pa_nil))) (pa_cons (pv 2) (pa_cons pe_int (pa_cons pe_str pa_nil)))))))), ?_⟩
  refine ⟨hT, fun f c' H1 e1 t1 nf hf hc => ?_⟩
  refine ⟨sz2, fun a na => ⟨_, rfl, ?_⟩⟩
  have s2 := same_new (o := .tup [.int 0, .int 0]) na
  refine ⟨p, q, L, M, a, f, c', onQ, _, rfl, rfl, upd_same, s2 _ _ hf, s2 _ _ hc, (hp.ext e1).mono s2, (hq.ext e1).mono s2, okL, okM, hs, fun H' t aN aR nv kvs s3 ht h1 h2 h3 h4 => ?_⟩
  exact k H' t aN aR nv kvs ((e1.trans (ExtN.of s2)).trans (ExtN.of s3)) ((t1.ext s2).ext s3) ht h1 h2 h3 h4
end
end Tk
set_option maxHeartbeats 1000000
/-! PlanPair -/
namespace Tk
open PySem L2 NdefX LamX
def unlike (L M : Pl) (b : BN) : Bool := isEnd L b.1.1 != isEnd M b.1.2
def unl (L M : Pl) : Option BN := (fin L M).find? (unlike L M)
def nodesD (L M : Pl) : List PyData := (fin L M).map fun b => nodeD b.1
def holdsV (u : Option BN) : V := .bl u.isNone
def textV : Option BN → V
  | none => .non
  | some b => .str ⟨b.2.toArray⟩
def bearV (L : Pl) : Option BN → V
  | none => .non
  | some b => .int (if isEnd L b.1.1 = true then 0 else 1)
def tableD (L M : Pl) : PyData := match unl L M with
  | none => .tuple (nodesD L M)
  | some _ => .none
def rowsD (L M : Pl) : List PyData := match unl L M with
  | none => nodesD L M
  | some _ => []
def PPO (C : Addr) (H : Hp) (p : Addr) (L M : Pl) : Prop := ∃ (dx : Addr) (fs : List (Str × V)) (tv : V) (t : Addr) (ys : List V), H p = some (.ins C dx fs) ∧ fs.lookup ("holds" : Str) = some (holdsV (unl L M)) ∧ fs.lookup ("table" : Str) = some tv ∧ fs.lookup ("text" : Str) = some (textV (unl L M)) ∧
  fs.lookup ("bearer" : Str) = some (bearV L (unl L M)) ∧ fs.lookup ("rows" : Str) = some (V.ref t) ∧ H t = some (.tup ys) ∧ Ims H ys (rowsD L M) ∧ Im H tv (tableD L M)
theorem PPO.ext {C : Addr} {H H' : Hp} {p : Addr} {L M : Pl} (h : PPO C H p L M) (s : ExtN H H') : PPO C H' p L M := by
  obtain ⟨dx, fs, tv, t, ys, h1, h2, h3, h4, h5, h6, h7, h8, h9⟩ := h
  exact ⟨dx, fs, tv, t, ys, s _ _ h1 (fun _ z => nomatch z), h2, h3, h4, h5, h6, s _ _ h7 (fun _ z => nomatch z), h8.ext s, h9.ext s⟩
theorem PPO.mono {C : Addr} {H H' : Hp} {p : Addr} {L M : Pl} (h : PPO C H p L M) (s : Same H H') : PPO C H' p L M := h.ext (ExtN.of s)
section
variable {P : Program} {w : World} {K : PySem.W.Frag} {mg : Str → Option Value} {base : Heap}
def spPpBool (C : Addr) : Sp := fun vs H Q _ => ∃ (p : Addr) (L M : Pl), vs = [.ref p] ∧ PPO C H p L M ∧ Q (holdsV (unl L M)) H
theorem ok_ppBool (T : Fx K mg) : FnOk P w K mg base CX0 1 T.a_ppBool T.d_ppBool ["self"] (spPpBool T.cQ) := by
  refine T.F_ppBool.ok sc_ppBool (fun vs H Q E h => ?_) (fun cdv A outer s H vs Q E hr h => ?_)
  · obtain ⟨p, L, M, rfl, _⟩ := h; rfl
  obtain ⟨p, L, M, rfl, ⟨dx, fs, tv, t, ys, h1, h2, h3, h4, h5, h6, h7, h8, h9⟩, k⟩ := h
  refine ⟨_, (pss_one (ps_ret (pe_callTy call_bool1 (by rfl) T.z_bool (by decide +kernel) (pa_cons (pe_fld (pv 0) rfl) pa_nil)))), ?_⟩
  exact ⟨_, rfl, p, T.cQ, dx, fs, _, rfl, h1, T.clQ, T.nQ_holds, h2, .inr ⟨_, rfl, k⟩⟩
def spPpLen (C : Addr) : Sp := fun vs H Q _ => ∃ (p : Addr) (L M : Pl), vs = [.ref p] ∧ PPO C H p L M ∧ Q (.int ((rowsD L M).length : Nat)) H
theorem ok_ppLen (T : Fx K mg) : FnOk P w K mg base CX0 1 T.a_ppLen T.d_ppLen ["self"] (spPpLen T.cQ) := by
  refine T.F_ppLen.ok sc_ppLen (fun vs H Q E h => ?_) (fun cdv A outer s H vs Q E hr h => ?_)
  · obtain ⟨p, L, M, rfl, _⟩ := h; rfl
  obtain ⟨p, L, M, rfl, ⟨dx, fs, tv, t, ys, h1, h2, h3, h4, h5, h6, h7, h8, h9⟩, k⟩ := h
  refine ⟨_, (pss_one (ps_ret (pe_callB call_len_seq (by rfl) T.z_len (by decide +kernel) (pa_cons (pe_fld (pv 0) rfl) pa_nil)))), ?_⟩
  exact ⟨_, rfl, p, T.cQ, dx, fs, _, rfl, h1, T.clQ, T.nQ_rows, h6, t, _, rfl, .inr (SqT.of h7), by rw [h8.len]; exact k⟩
def spPpIter (C : Addr) : Sp := fun vs H Q _ => ∃ (p : Addr) (dx : Addr) (fs : List (Str × V)) (t : Addr) (ys : List V), vs = [.ref p] ∧ H p = some (.ins C dx fs) ∧ fs.lookup ("rows" : Str) = some (V.ref t) ∧ H t = some (.tup ys) ∧ ∀ it, H it = none → Q (.ref it) (upd H it (TitO it t))
theorem ok_ppIter (T : Fx K mg) : FnOk P w K mg base CX0 1 T.a_ppIter T.d_ppIter ["self"] (spPpIter T.cQ) := by
  refine T.F_ppIter.ok sc_ppIter (fun vs H Q E h => ?_) (fun cdv A outer s H vs Q E hr h => ?_)
  · obtain ⟨p, dx, fs, t, ys, rfl, _⟩ := h; rfl
  obtain ⟨p, dx, fs, t, ys, rfl, h1, h2, h3, k⟩ := h
  refine ⟨_, (pss_one (ps_ret (pe_callB cr_iterT (by rfl) T.z_iter (by decide +kernel) (pa_cons (pe_fld (pv 0) rfl) pa_nil)))), ?_⟩
  exact ⟨_, rfl, p, T.cQ, dx, fs, _, rfl, h1, T.clQ, T.nQ_rows, h2, t, _, rfl, SqT.of h3, k⟩
theorem look_same {fs : List (Str × V)} (f : Str) (v : V) : (putF f v fs).lookup f = some v := by rw [lookup_putF, if_pos rfl]
theorem look_ne {fs : List (Str × V)} {f g : Str} {v : V} (h : g ≠ f) : (putF f v fs).lookup g = fs.lookup g := by rw [lookup_putF, if_neg h]
/-- the four first fields -/
structure F4 (hv tv xv bv : V) (fs : List (Str × V)) : Prop where
  h : fs.lookup ("holds" : Str) = some hv
  t : fs.lookup ("table" : Str) = some tv
  x : fs.lookup ("text" : Str) = some xv
  b : fs.lookup ("bearer" : Str) = some bv
section
variable {hv tv xv bv v : V} {fs : List (Str × V)}
theorem F4.ph (f : F4 hv tv xv bv fs) : F4 v tv xv bv (putF "holds" v fs) := ⟨look_same _ _, (look_ne (by decide +kernel)).trans f.t, (look_ne (by decide +kernel)).trans f.x, (look_ne (by decide +kernel)).trans f.b⟩
theorem F4.pt (f : F4 hv tv xv bv fs) : F4 hv v xv bv (putF "table" v fs) := ⟨(look_ne (by decide +kernel)).trans f.h, look_same _ _, (look_ne (by decide +kernel)).trans f.x, (look_ne (by decide +kernel)).trans f.b⟩
theorem F4.px (f : F4 hv tv xv bv fs) : F4 hv tv v bv (putF "text" v fs) := ⟨(look_ne (by decide +kernel)).trans f.h, (look_ne (by decide +kernel)).trans f.t, look_same _ _, (look_ne (by decide +kernel)).trans f.b⟩
theorem F4.pb (f : F4 hv tv xv bv fs) : F4 hv tv xv v (putF "bearer" v fs) := ⟨(look_ne (by decide +kernel)).trans f.h, (look_ne (by decide +kernel)).trans f.t, (look_ne (by decide +kernel)).trans f.x, look_same _ _⟩
theorem F4.pr (f : F4 hv tv xv bv fs) : F4 hv tv xv bv (putF "rows" v fs) := ⟨(look_ne (by decide +kernel)).trans f.h, (look_ne (by decide +kernel)).trans f.t, (look_ne (by decide +kernel)).trans f.x, (look_ne (by decide +kernel)).trans f.b⟩
end
theorem join_sgs (l : List Nat) : Txt.join ("" : Str) (l.map sgS) = ⟨l.toArray⟩ := by
  have h : ∀ (l : List Nat) (A : Array Nat), (l.map sgS).foldl (fun acc p => acc ++ ("" : Str).cps ++ p.cps) A = A ++ l.toArray := by
    intro l
    induction l with
    | nil => intro A; simp
    | cons a l ih =>
      intro A
      rw [List.map_cons, List.foldl_cons, ih]
      show A ++ #[] ++ #[a] ++ l.toArray = A ++ (a :: l).toArray
      simp
  unfold Txt.join Builtin.Str.glued
  cases l with
  | nil => rfl
  | cons a l =>
    show (⟨(l.map sgS).foldl (fun acc p => acc ++ ("" : Str).cps ++ p.cps) #[a]⟩ : Str) = _
    rw [h]
    simp
theorem textD_len {b : BN} {L M : Pl} {t : Nat} (h : b ∈ bq L M t) : b.2.length ≤ t := bq_text t b h
def spPpInit (C D P : Addr) : Sp := fun vs H Q _ => ∃ (H0 : Hp) (p dx q1 q2 : Addr) (L M : Pl), vs = [.ref p, .ref q1, .ref q2] ∧ Same H0 H ∧ H0 p = none ∧ H p = some (.ins D dx []) ∧ TabsN (tabL P) H ∧ PlanO C H0 q1 L ∧ PlanO C H0 q2 M ∧ L.Ok ∧ M.Ok ∧ (L.rows.length + 1) * (M.rows.length + 1) ≤ 400 ∧
  ∀ H', ExtN H0 H' → TabsN (tabL P) H' → PPO D H' p L M → Q .non H'
theorem ok_ppInit (T : Fx K mg) (TB : TabB base mg T.c_lp T.P_lp) : FnOk P w K mg base CX0 5 T.a_ppInit T.d_ppInit ["self", "first", "second"] (spPpInit T.cP T.cQ T.P_lp) := by
  refine T.F_ppInit.ok sc_ppInit (fun vs H Q E h => ?_) (fun cdv A outer s H vs Q E hr h => ?_)
  · obtain ⟨H0, p, dx, q1, q2, L, M, rfl, _⟩ := h; rfl
  obtain ⟨H0, p, dx, q1, q2, L, M, rfl, s0, np, hp, hT, hL, hM, okL, okM, hs, k⟩ := h
  have hu := hu_of hr
  refine ⟨_, PSs.nox ((pss_cons (ps_asg (pe_call (ok_lpairs T TB) (hr.mono (by decide)) (by rfl) T.g_lpairs T.F_lpairs.kp T.b_lpairs .nil pass0 (pa_cons (pv 1) (pa_cons (pv 2) pa_nil))) (pg_tup rfl (pgs_cons (pg_name (i := 3) sc_ppInit.nd rfl (.inl rfl)) (pgs_cons (pg_name (i := 4) sc_ppInit.nd rfl (.inl rfl)) pgs_nil))))
    (pss_cons (ps_fld (pv 0) pe_bl rfl)
    (pss_cons (ps_fld (pv 0) pe_non rfl)
    (pss_cons (ps_fld (pv 0) pe_non rfl)
    (pss_cons (ps_fld (pv 0) pe_non rfl)
    (pss_cons (ps_for PassesOwn.never rfl (pi_list (pv 3)) (pg_name (i := 5) sc_ppInit.nd rfl (.inl rfl))
      (pss_one (ps_if (PW.pt (pw_and (pt_val (pe_fld (pv 0) rfl)) (pw_and1 (pt_cmpR op_ne (pe_call (ok_isfinal T) (hr.mono (by decide)) (by rfl) T.g_isfinal T.F_isfinal.kp T.b_isfinal .nil pass0 (pa_cons (pv 1) (pa_cons (pe_ix ix_tup (pv 5) pe_int (fun _ _ => rfl)) pa_nil))) (pe_call (ok_isfinal T) (hr.mono (by decide)) (by rfl) T.g_isfinal T.F_isfinal.kp T.b_isfinal .nil pass0 (pa_cons (pv 2) (pa_cons (pe_ix ix_tup (pv 5) pe_int (fun _ _ => rfl)) pa_nil))) (nomark _)))))
        (pss_cons (ps_fld (pv 0) pe_bl rfl)
        (pss_cons (ps_fld (pv 0) (pe_join pe_str (pe_dget hu (pv 4) (pv 5) (fun _ _ => rfl))) rfl)
        (pss_one (ps_fld (pv 0) (pe_ifExp (pt_val (pe_call (ok_isfinal T) (hr.mono (by decide)) (by rfl) T.g_isfinal T.F_isfinal.kp T.b_isfinal .nil pass0 (pa_cons (pv 1) (pa_cons (pe_ix ix_tup (pv 5) pe_int (fun _ _ => rfl)) pa_nil)))) pe_int pe_int) rfl))))
        pss_nil)))
    (pss_cons (ps_if (pt_val (pe_fld (pv 0) rfl))
      (pss_one (ps_fld (pv 0) (pe_callTy call_tuple_of (by rfl) T.z_tuple (by decide +kernel) (pa_cons (pv 3) pa_nil)) rfl))
      pss_nil)
    (pss_one (ps_fld (pv 0) (pe_orT (pe_fld (pv 0) rfl) (pe_one (pe_tup pa_nil))) rfl)))))))))), ?_⟩
  refine ⟨_, rfl, _, rfl, q1, q2, L, M, rfl, hT, hL.mono s0, hM.mono s0, okL, okM, hs, fun H1 t aN aR nv kvs e1 hT1 ht hN hR iN kR => ?_⟩
  refine ⟨t, _, rfl, SqT.of ht, rfl, _, _, rfl, _, _, rfl, rfl, ?_⟩
  have hp1 := e1 _ _ hp (fun _ z => nomatch z)
  refine ⟨_, rfl, p, T.cQ, dx, _, rfl, hp1, T.clQ, T.nQ_holds, (by decide), ?_⟩
  have pl : ∀ {f : Str} {v : V} {fs : List (Str × V)} {n : Nat}, fs.length ≤ n → (putF f v fs).length ≤ n + 1 := fun {f v fs n} h => Nat.le_trans (length_putF f v fs) (by omega)
  have z0 : ([] : List (Str × V)).length ≤ 0 := Nat.le_refl _
  refine ⟨_, rfl, p, T.cQ, dx, _, rfl, upd_same, T.clQ, T.nQ_table, Nat.lt_of_le_of_lt (pl z0) (by decide), ?_⟩
  refine ⟨_, rfl, p, T.cQ, dx, _, rfl, upd_same, T.clQ, T.nQ_text, Nat.lt_of_le_of_lt (pl (pl z0)) (by decide), ?_⟩
  refine ⟨_, rfl, p, T.cQ, dx, _, rfl, upd_same, T.clQ, T.nQ_bearer, Nat.lt_of_le_of_lt (pl (pl (pl z0))) (by decide), ?_⟩
  rw [upd_upd, upd_upd, upd_upd]
  have f4 : F4 (.bl true) .non .non .non (putF "bearer" .non (putF "text" .non (putF "table" .non (putF "holds" (.bl true) [])))) := ⟨by decide +kernel, by decide +kernel, by decide +kernel, by decide +kernel⟩
  have l4 : (putF ("bearer" : Str) V.non (putF "text" .non (putF "table" .non (putF "holds" (.bl true) [])))).length ≤ 4 := pl (pl (pl (pl z0)))
  generalize putF ("bearer" : Str) V.non (putF "text" .non (putF "table" .non (putF "holds" (.bl true) []))) = fs4 at f4 l4
  -- what stands beside p
  have eB : ExtN H0 (hide [p] H1) := fun b o e n => by
    rw [hide_out (by simp only [List.mem_singleton]; exact ne_of_none e np)]
    exact e1 _ _ (s0 _ _ e) n
  have sT : TabsN (tabL T.P_lp) (hide [p] H1) := fun q hq => by
    obtain ⟨ps, h1, h2, h3⟩ := hT1 q hq
    refine ⟨ps, ?_, h2, fun pos cv hc => ?_⟩
    · rw [hide_out (by simp only [List.mem_singleton]; intro e; rw [e, hp1] at h1; cases h1)]; exact h1
    · obtain ⟨c, a1, a2⟩ := h3 pos cv hc
      refine ⟨c, a1, ?_⟩
      rw [hide_out (by simp only [List.mem_singleton]; intro e; rw [e, hp1] at a2; cases a2)]; exact a2
  have nP : ∀ q ∈ [p], ∀ xs, H1 q ≠ some (.tup xs) := fun q hq xs e => by
    have : q = p := by simpa using hq
    rw [this, hp1] at e; cases e
  have hN1 : hide [p] H1 aN = some (.lst nv) := by rw [hide_out (by simp only [List.mem_singleton]; intro e; rw [e, hp1] at hN; cases hN)]; exact hN
  have hR1 : hide [p] H1 aR = some (.dT kvs) := by rw [hide_out (by simp only [List.mem_singleton]; intro e; rw [e, hp1] at hR; cases hR)]; exact hR
  have iN1 := Ims.hid nP iN (noLs_all fun d hd => by obtain ⟨m, _, rfl⟩ := List.mem_map.mp hd; rfl)
  have kR1 : KvT (hide [p] H1) kvs (·.1) (fun b => textD b.2) (fin L M) := ⟨kR.1, Ims.hid nP kR.2 (noLs_all fun d hd => by
    obtain ⟨m, _, rfl⟩ := List.mem_map.mp hd
    show noLs (m.2.map sgn) = true
    exact noLs_all fun d hd => by obtain ⟨c, _, rfl⟩ := List.mem_map.mp hd; rfl)⟩
  have hB : hide [p] (upd H1 p (.ins T.cQ dx fs4)) = hide [p] H1 := hide_mut (by simp)
  generalize hHb : hide [p] H1 = Hb at eB sT hN1 hR1 iN1 kR1 hB
  have hLb := hL.ext eB
  have hMb := hM.ext eB
  have nl : nv.length = (fin L M).length := by rw [iN1.len, List.length_map]
  have few := fin_few okL okM hs
  refine ⟨_, rfl, aN, rfl, ⟨_, SqL.of (by rw [← hB] at hN1; exact hide_same _ _ _ _ hN1)⟩, for_it (walk_list (xs := nv)) (fun i σ H' => ∃ (fs : List (Str × V)) (o5 : Option V), σ = [some (.ref p), some (.ref q1), some (.ref q2), some (.ref aN), some (.ref aR), o5] ∧ H' p = some (.ins T.cQ dx fs) ∧ Same Hb (hide [p] H') ∧
    F4 (holdsV (((fin L M).take i).find? (unlike L M))) .non (textV (((fin L M).take i).find? (unlike L M))) (bearV L (((fin L M).take i).find? (unlike L M))) fs ∧ fs.length ≤ (if (((fin L M).take i).find? (unlike L M)).isNone = true then 4 else 7))
    ⟨fs4, _, rfl, upd_same, by rw [hB]; exact fun _ _ e => e, f4, l4⟩ (fun i σ H' _ h => ?_) (fun i x σ H' H'' hi h y => ?_) fun σ H' h => ?_⟩
  · obtain ⟨_, _, _, _, h, _⟩ := h
    exact SqL.of (hide_same _ _ _ _ (h _ _ hN1))
  · obtain ⟨fs, o5, rfl, hpf, sB, f4, l4⟩ := h
    obtain ⟨rfl, hx⟩ := y
    have hiF : i < (fin L M).length := by rw [← nl]; exact hi
    have hm : (fin L M)[i]? = some (fin L M)[i] := List.getElem?_eq_getElem hiF
    have hnk : NodeOk L M (fin L M)[i].1 := fin_ok okL okM _ (List.getElem_mem hiF)
    have et : (fin L M).take (i + 1) = (fin L M).take i ++ [(fin L M)[i]] := by rw [List.take_add_one, hm]; rfl
    generalize (fin L M)[i] = b at hm hnk et
    obtain ⟨d, hd, him⟩ := iN1.get hx
    rw [List.getElem?_map, hm] at hd
    cases hd
    obtain ⟨bn, rfl, hbn0⟩ := nodeD_inv him
    have hbn := hbn0
    have hbn := hide_same _ _ _ _ (sB _ _ hbn)
    have eu : ((fin L M).take (i + 1)).find? (unlike L M) = (((fin L M).take i).find? (unlike L M)).or (if unlike L M b = true then some b else none) := by
      rw [et, List.find?_append]
      congr 1
      rw [List.find?_cons]
      cases unlike L M b <;> rfl
    generalize ((fin L M).take i).find? (unlike L M) = u at f4 l4 eu
    rw [eu]
    refine ⟨_, rfl, p, T.cQ, dx, fs, _, rfl, hpf, T.clQ, T.nQ_holds, f4.h, _, rfl, ?_⟩
    cases u with
    | some u0 => exact iteF (iteF ⟨fs, _, rfl, hpf, sB, f4, l4⟩)
    | none =>
      have l4 : fs.length ≤ 4 := l4
      refine iteT ⟨_, rfl, _, rfl, bn, _, 0, _, rfl, rfl, SqT.of hbn, atI_nat (j := 0) rfl, q1, L, b.1.1, rfl, hLb.mono (sB.trans (hide_same _ _)), hnk.1.2, ?_⟩
      refine ⟨_, rfl, _, rfl, bn, _, 1, _, rfl, rfl, SqT.of hbn, atI_nat (j := 1) rfl, q2, M, b.1.2, rfl, hMb.mono (sB.trans (hide_same _ _)), hnk.2.2, rfl, _, rfl, ?_⟩
      have eX : (!decide (V.bl (isEnd L b.1.1) = V.bl (isEnd M b.1.2))) = unlike L M b := by
        unfold unlike
        cases isEnd L b.1.1 <;> cases isEnd M b.1.2 <;> rfl
      rw [eX]
      cases hU : unlike L M b with
      | false => exact iteF ⟨fs, _, rfl, hpf, sB, f4, l4⟩
      | true =>
        obtain ⟨v, hv1, hv2, hv3⟩ := kR1.at_ fin_nodup hm
        obtain ⟨tx, xs, rfl, htx, hxs⟩ := hv3.tup_inv
        have exs : xs = (b.2.map sgS).map V.str := by rw [Ims.sgns_inv hxs, List.map_map]; rfl
        have hb4 := fin_text b (List.mem_of_getElem? hm)
        have neP : ∀ {z : Addr} {o : HO}, Hb z = some o → z ≠ p := fun {z o} e h => by
          have := (hide_some (sB _ _ e)).1
          exact this (by simp [h])
        have up1 : ∀ {z : Addr} {o o' : HO}, Hb z = some o → upd H'' p o' z = some o := fun {z o o'} e => by rw [upd_ne (neP e)]; exact hide_same _ _ _ _ (sB _ _ e)
        refine iteT ⟨_, rfl, p, T.cQ, dx, fs, rfl, hpf, T.clQ, T.nQ_holds, by omega, ?_⟩
        refine ⟨⟨_, rfl⟩, _, rfl, _, rfl, aR, _, rfl, .inr ⟨kvs, keyN b.1, bn, .inl (up1 hR1), rfl, up1 hbn0, hv2.symm⟩, ?_⟩
        refine ⟨_, tx, b.2.map sgS, rfl, rfl, .inr (SqT.of (by rw [← exs]; exact up1 htx)), ?_, ?_⟩
        · have h1 : ∀ l : List Nat, ((l.map sgS).map fun s : Str => s.length).sum = l.length := fun l => by
            induction l with
            | nil => rfl
            | cons c l ih =>
              rw [List.map_cons, List.map_cons, List.sum_cons, ih, List.length_cons]
              show 1 + l.length = _
              omega
          rw [h1, List.length_map]
          show b.2.length + b.2.length * 0 ≤ _
          omega
        refine ⟨_, rfl, p, T.cQ, dx, _, rfl, upd_same, T.clQ, T.nQ_text, Nat.lt_of_le_of_lt (pl l4) (by decide), ?_⟩
        rw [upd_upd]
        refine ⟨_, rfl, _, rfl, bn, _, 0, _, rfl, rfl, SqT.of (up1 hbn0), atI_nat (j := 0) rfl, q1, L, b.1.1, rfl, ?_, hnk.1.2, ?_⟩
        · exact hLb.mono fun z o e => up1 e
        have hl : ∀ {v : V}, (putF ("bearer" : Str) v (putF "text" (.str (Txt.join ("" : Str) (b.2.map sgS))) (putF "holds" (.bl false) fs))).length ≤ 7 := fun {v} => pl (pl (pl l4))
        have hS : ∀ {o : HO}, Same Hb (hide [p] (upd H'' p o)) := fun {o} => by rw [hide_mut (by simp)]; exact sB
        have ff := fun v => (((f4.ph (v := .bl false)).px (v := .str (Txt.join ("" : Str) (b.2.map sgS)))).pb (v := v))
        rw [join_sgs] at ff hl
        rw [join_sgs]
        refine ⟨_, rfl, ite2 (fun c => ?_) (fun c => ?_)⟩
        · refine ⟨_, rfl, p, T.cQ, dx, _, rfl, upd_same, T.clQ, T.nQ_bearer, Nat.lt_of_le_of_lt (pl (pl l4)) (by decide), ?_⟩
          rw [upd_upd]
          refine ⟨_, _, rfl, upd_same, hS, ?_, hl⟩
          have e : bearV L (some b) = .int 0 := by show V.int (if isEnd L b.1.1 = true then 0 else 1) = _; rw [if_pos c]
          show F4 _ _ _ (bearV L (some b)) _
          rw [e]; exact ff _
        · refine ⟨_, rfl, p, T.cQ, dx, _, rfl, upd_same, T.clQ, T.nQ_bearer, Nat.lt_of_le_of_lt (pl (pl l4)) (by decide), ?_⟩
          rw [upd_upd]
          refine ⟨_, _, rfl, upd_same, hS, ?_, hl⟩
          have e : bearV L (some b) = .int 1 := by show V.int (if isEnd L b.1.1 = true then 0 else 1) = _; rw [if_neg c]
          show F4 _ _ _ (bearV L (some b)) _
          rw [e]; exact ff _
  · obtain ⟨fs, o5, rfl, hpf, sB, f4, l4⟩ := h
    rw [nl, List.take_length] at f4 l4
    have eu : (fin L M).find? (unlike L M) = unl L M := rfl
    rw [eu] at f4 l4
    have eE : ∀ {H2 : Hp}, Same Hb (hide [p] H2) → ExtN H0 H2 ∧ TabsN (tabL T.P_lp) H2 := fun {H2} s => ⟨eB.trans (ExtN.of (s.trans (hide_same _ _))), sT.ext (s.trans (hide_same _ _))⟩
    refine ⟨_, rfl, p, T.cQ, dx, fs, _, rfl, hpf, T.clQ, T.nQ_holds, f4.h, _, rfl, ?_⟩
    have l7 : fs.length ≤ 7 := by split at l4 <;> omega
    cases hu2 : unl L M with
    | some b =>
      rw [hu2] at f4
      refine iteF ⟨_, rfl, p, T.cQ, dx, fs, _, rfl, hpf, T.clQ, T.nQ_table, f4.t, false, rfl, ?_⟩
      refine iteF ⟨Nat.zero_le _, fun t nt => ?_⟩
      have s6 := same_new (o := .tup []) nt
      refine ⟨_, rfl, p, T.cQ, dx, fs, rfl, s6 _ _ hpf, T.clQ, T.nQ_rows, by omega, ?_⟩
      have hS : Same Hb (hide [p] (upd (upd H' t (.tup [])) p (.ins T.cQ dx (putF "rows" (.ref t) fs)))) := by rw [hide_mut (by simp)]; exact sB.trans (hide_mono s6)
      refine k _ (eE hS).1 (eE hS).2 ⟨dx, _, .non, t, [], upd_same, ?_, f4.pr.t, ?_, ?_, look_same _ _, (upd_ne (ne_of_none hpf nt).symm).trans upd_same, ?_, ?_⟩
      · rw [hu2]; exact f4.pr.h
      · rw [hu2]; exact f4.pr.x
      · rw [hu2]; exact f4.pr.b
      · unfold rowsD; rw [hu2]; exact .nil
      · unfold tableD; rw [hu2]; exact .non
    | none =>
      rw [hu2] at f4
      have hNH : H' aN = some (.lst nv) := hide_same _ _ _ _ (sB _ _ hN1)
      refine iteT ⟨_, rfl, aN, _, rfl, .inl ⟨SqL.of hNH, fun t nt => ?_⟩⟩
      have s6 := same_new (o := .tup nv) nt
      refine ⟨_, rfl, p, T.cQ, dx, fs, rfl, s6 _ _ hpf, T.clQ, T.nQ_table, by omega, ?_⟩
      have nPt : t ≠ p := (ne_of_none hpf nt).symm
      have ht7 : upd (upd H' t (.tup nv)) p (.ins T.cQ dx (putF "table" (.ref t) fs)) t = some (.tup nv) := (upd_ne nPt).trans upd_same
      refine ⟨_, rfl, p, T.cQ, dx, _, _, rfl, upd_same, T.clQ, T.nQ_table, look_same _ _, true, .inr (.inl ⟨nv, SqT.of ht7, ?_⟩), ?_⟩
      · have : 0 < nv.length := by rw [nl]; exact fin_pos
        cases nv with
        | nil => cases this
        | cons => rfl
      refine iteT ⟨_, rfl, p, T.cQ, dx, _, rfl, upd_same, T.clQ, T.nQ_rows, Nat.lt_of_le_of_lt (pl l7) (by decide), ?_⟩
      rw [upd_upd]
      have hS : ∀ {o : HO}, Same Hb (hide [p] (upd (upd H' t (.tup nv)) p o)) := fun {o} => by rw [hide_mut (by simp)]; exact sB.trans (hide_mono s6)
      have g4 := (f4.pt (v := .ref t)).pr (v := .ref t)
      have ht8 : ∀ {o : HO}, upd (upd H' t (.tup nv)) p o t = some (.tup nv) := fun {o} => (upd_ne nPt).trans upd_same
      have iNe := iN1.mono ((hS (o := .ins T.cQ dx (putF "rows" (.ref t) (putF "table" (.ref t) fs)))).trans (hide_same _ _))
      refine k _ (eE hS).1 (eE hS).2 ⟨dx, _, .ref t, t, nv, upd_same, ?_, g4.t, ?_, ?_, look_same _ _, ht8, ?_, ?_⟩
      · rw [hu2]; exact g4.h
      · rw [hu2]; exact g4.x
      · rw [hu2]; exact g4.b
      · unfold rowsD; rw [hu2]; exact iNe
      · unfold tableD; rw [hu2]; exact .tup ht8 iNe
end
end Tk
set_option maxHeartbeats 1000000
/-! deep -/
namespace Tk
open PySem L2
/-- a list or a tuple is walked -/
def iSeq (K : PySem.W.Frag) (tl : TE) : TI := fun σ H R => tl σ H fun x H1 => ∃ a, x = .ref a ∧ (((∃ xs, SqL K H1 a xs) ∧ R (Itl K a) H1) ∨ ((∃ xs, SqT K H1 a xs) ∧ R (Itt K a) H1))
theorem pi_seq {X : Cx} {tg l : Expr} {tl : TE} (hl : PE X l tl) : PI X tg l (iSeq X.K tl) := by
  refine ⟨fun pins s σ H R I h => ?_⟩
  refine thn (hl.run pins s σ H _ I h) fun v s1 ⟨x, H1, I1, r1, a, e, q1⟩ => ?_
  subst e
  cases r1
  have hb : ∀ b ∈ [s1.heap.objs.size], FpOk X pins H1 b := fun b hb => by
    have e : b = s1.heap.objs.size := by simpa using hb
    subst e
    exact I1.fpOk (Nat.le_refl _) (I1.hok.fresh (Nat.le_refl _))
  rcases q1 with ⟨⟨xs, hq⟩, q⟩ | ⟨⟨xs, hq⟩, q⟩
  · obtain ⟨its, rv, p, hz⟩ := I1.list hq
    exact wpAny_pyIter_list p.isList ⟨s1.heap.objs.size, [s1.heap.objs.size], _, _, H1, rfl, I1.kept (t' := s1.toks) fun b o e => Heap.get?_push_of_some _ e, turn_list a _, ⟨_, Heap.get?_push_size _ rfl, rfl, rfl⟩, hb, q⟩
  · obtain ⟨its, rv, p, hz⟩ := I1.tuple hq
    exact wpAny_pyIter_tuple (show s1.heap.IsTuple a its.toArray from p) ⟨s1.heap.objs.size, [s1.heap.objs.size], _, _, H1, rfl, I1.kept (t' := s1.toks) fun b o e => Heap.get?_push_of_some _ e, turn_tuple a _, ⟨_, Heap.get?_push_size _ rfl, rfl, rfl⟩, hb, q⟩
mutual
/-- lists to tuples -/
def tupd : PyData → PyData
  | .list xs => .tuple (tupds xs)
  | .tuple xs => .tuple (tupds xs)
  | d => d
def tupds : List PyData → List PyData
  | [] => []
  | x :: xs => tupd x :: tupds xs
end
mutual
/-- few items everywhere -/
def sm : PyData → Bool
  | .list xs => decide (xs.length ≤ 1000) && sms xs
  | .tuple xs => decide (xs.length ≤ 1000) && sms xs
  | _ => true
def sms : List PyData → Bool
  | [] => true
  | x :: xs => sm x && sms xs
end
theorem tupds_map : ∀ xs : List PyData, tupds xs = xs.map tupd
  | [] => rfl
  | x :: xs => by rw [tupds, tupds_map xs]; rfl
theorem sms_mem {x : PyData} : ∀ {xs : List PyData}, sms xs = true → x ∈ xs → sm x = true
  | y :: ys, h, hx => by
    rw [sms, Bool.and_eq_true] at h
    rcases List.mem_cons.mp hx with e | hx
    · rw [e]; exact h.1
    · exact sms_mem h.2 hx
theorem sms_of {xs : List PyData} (h : ∀ x ∈ xs, sm x = true) : sms xs = true := by
  induction xs with
  | nil => rfl
  | cons x xs ih => rw [sms, h x (List.mem_cons_self ..), ih fun y hy => h y (List.mem_cons_of_mem _ hy)]; rfl
theorem depth_mem {x : PyData} : ∀ {xs : List PyData}, x ∈ xs → x.depth ≤ PyData.depthAll xs
  | y :: ys, hx => by
    rw [PyData.depthAll]
    rcases List.mem_cons.mp hx with e | hx
    · rw [e]; exact Nat.le_max_left ..
    · exact Nat.le_trans (depth_mem hx) (Nat.le_max_right ..)
mutual
theorem noL_tupd : ∀ d : PyData, noL (tupd d) = true
  | .list xs => by rw [tupd, noL]; exact noLs_tupd xs
  | .tuple xs => by rw [tupd, noL]; exact noLs_tupd xs
  | .none => rfl
  | .bool _ => rfl
  | .int _ => rfl
  | .str _ => rfl
  | .dict _ => rfl
theorem noLs_tupd : ∀ xs : List PyData, noLs (tupds xs) = true
  | [] => rfl
  | x :: xs => by rw [tupds, noLs, noL_tupd x, noLs_tupd xs]; rfl
end
theorem Im.mapd {H : Hp} {v : V} {d e : PyData} (h : Im H v d) (q : d = e) : Im H v e := q ▸ h
section
variable {P : Program} {w : World} {K : PySem.W.Frag} {mg : Str → Option Value} {base : Heap}
theorem b_deep2 (T : Fx K mg) : Binds K T.d_deep ["thing", "left"] [] := by
  obtain ⟨ds, hd, hb⟩ := FunD.binds1 (ps := ["thing", "left"]) T.F_deep 2 1 (by decide) rfl fun Tz kV doc pm an cdv ct us its h1 h2 => by
    match us, h1, its, h2 with
    | [a, b], _, [c], _ => exact ⟨_, rfl, rfl⟩
  cases hd
  exact hb
theorem b_deep1 (T : Fx K mg) : ∃ ds, Vals [.int 12] ds ∧ Binds K T.d_deep ["thing", "left"] ds := by
  exact FunD.binds1 (ps := ["thing", "left"]) T.F_deep 1 0 (by decide) rfl fun Tz kV doc pm an cdv ct us its h1 h2 => by
    match us, h1, its, h2 with
    | [a], _, [c], _ => exact ⟨_, rfl, rfl⟩
def spDeep (n : Nat) : Sp := fun vs H Q _ => ∃ (v : V) (d : PyData) (left : Int), vs = [v, .int left] ∧ Im H v d ∧ d.depth < n ∧ (d.depth : Int) ≤ left ∧ sm d = true ∧ ∀ H' v', Same H H' → Im H' v' (tupd d) → Q v' H'
theorem ok_deepN (T : Fx K mg) (n : Nat) : FnOk P w K mg base CX0 n T.a_deep T.d_deep ["thing", "left"] (spDeep n) := by
  induction n with
  | zero => exact ⟨fun vs H Q E ⟨_, _, _, _, _, h, _⟩ => absurd h (Nat.not_lt_zero _), fun A outer s H args us vs Q E _ _ _ _ ⟨_, _, _, _, _, h, _⟩ => absurd h (Nat.not_lt_zero _)⟩
  | succ n ih =>
    refine T.F_deep.ok sc_deep (fun vs H Q E h => ?_) (fun cdv A outer s H vs Q E hr h => ?_)
    · obtain ⟨v, d, left, rfl, _⟩ := h; rfl
    obtain ⟨v, d, left, rfl, hd, hdep, hl, hsm, k⟩ := h
    refine ⟨_, (pss_cons (ps_if (PW.pt (pw_and (pt_cmpR op_gt (pv 1) pe_int (nomark _)) (pw_and1 (pt_val (pe_callB (cr_is2 kit_L kit_T) (by rfl) T.z_isinstance (by decide +kernel) (pa_cons (pv 0) (pa_cons (pe_tup (pa_cons (pe_bltn (v := .ty "list") (u := .type "list") (by rfl) T.z_list (by decide +kernel) rfl) (pa_cons (pe_bltn (v := .ty "tuple") (u := .type "tuple") (by rfl) T.z_tuple (by decide +kernel) rfl) pa_nil))) pa_nil)))))))
      (pss_one (ps_ret (pe_callTy call_tuple_of (by rfl) T.z_tuple (by decide +kernel) (pa_cons (pe_lc (own := [("part", 2)]) (by rfl) sc_deep.nd (pi_seq (pv 0)) (blkOk_by (own := [("part", 2)]) (N := ["thing", "left", "part"]) (sc := defScope (top 12)) (by decide +kernel)) (fun _ _ _ _ _ => (pg_name (i := 2) sc_deep.nd rfl (.inl rfl))) (fun _ _ _ _ _ => pts_nil) (fun _ _ _ _ _ => (pe_call ih hr (by rfl) T.g_deep T.F_deep.kp (b_deep2 T) .nil pass0 (pa_cons (pv 2) (pa_cons (pe_op op_sub (pv 1) pe_int) pa_nil))))) pa_nil))))
      pss_nil)
    (pss_one (ps_ret (pv 0)))), ?_⟩
    -- a leaf
    have leaf : ∀ {H1 : Hp}, Same H H1 → tupd d = d → Q v H1 := fun {H1} s e => k _ _ s (e.symm ▸ hd.mono s)
    refine ⟨_, rfl, _, _, rfl, rfl, _, rfl, ite2 (fun c => ?_) (fun c => ?_)⟩
    · have c : 0 < left := by simpa using c
      refine ⟨_, rfl, sz2, fun t nt => ⟨v, t, d, rfl, upd_same, hd.mono (same_new nt), ?_⟩⟩
      have s1 := same_new (o := .tup [.ty "list", .ty "tuple"]) nt
      generalize upd H t (.tup [.ty "list", .ty "tuple"]) = H1 at s1
      have hd1 := hd.mono s1
      have leaf1 := leaf s1
      clear leaf
      cases hd1
      case' tup a vs ds e hi =>
        refine ⟨_, rfl, iteT ⟨_, rfl, a, rfl, .inr ⟨⟨_, SqT.of e⟩, fun D nD => ?_⟩⟩⟩
      case' lst a vs ds e hi => refine ⟨_, rfl, iteT ⟨_, rfl, a, rfl, .inl ⟨⟨_, SqL.of e⟩, fun D nD => ?_⟩⟩⟩
      case non => exact ⟨_, rfl, iteF ⟨_, rfl, leaf1 rfl⟩⟩
      case bl => exact ⟨_, rfl, iteF ⟨_, rfl, leaf1 rfl⟩⟩
      case int => exact ⟨_, rfl, iteF ⟨_, rfl, leaf1 rfl⟩⟩
      case str => exact ⟨_, rfl, iteF ⟨_, rfl, leaf1 rfl⟩⟩
      all_goals
        rw [sm, Bool.and_eq_true] at hsm
        have hl3 : ds.length ≤ 1000 := by simpa using hsm.1
        rw [PyData.depth] at hl hdep
        have hvl := hi.len
        first
          | refine lc_it (walk_tup (xs := vs)) (PvIm H1 D fun i => (ds[i]?).map tupd) (PvIm.zero nD) (fun i H' _ pv => SqT.of (pv.base _ _ e)) (fun i x H' H'' hi2 pv y => ?_) fun H' pv => ?_
          | refine lc_it (walk_list (xs := vs)) (PvIm H1 D fun i => (ds[i]?).map tupd) (PvIm.zero nD) (fun i H' _ pv => SqL.of (pv.base _ _ e)) (fun i x H' H'' hi2 pv y => ?_) fun H' pv => ?_
        · obtain ⟨rfl, hx⟩ := y
          obtain ⟨di, hdi, him⟩ := hi.get hx
          have hmem := List.mem_of_getElem? hdi
          have hdm := depth_mem hmem
          refine ⟨rfl, ?_⟩
          refine ⟨_, rfl, _, rfl, _, _, rfl, rfl, x, di, left - 1, rfl, him.mono pv.base, by omega, by omega, sms_mem hsm.2 hmem, fun H2 v' s2 im2 => ?_⟩
          have hD : ∃ acc, H'' D = some (.lst acc) := by obtain ⟨_, acc, h, _⟩ := pv; exact ⟨acc, h⟩
          obtain ⟨acc, hD⟩ := hD
          refine pv.push (hide_mono s2) ((s2 _ _ hD).trans hD.symm) (d := tupd di) (by show (ds[i]?).map tupd = _; rw [hdi]; rfl) (im2.hid (fun p hp xs e => ?_) (noL_tupd di)) (by omega)
          have : p = D := by simpa using hp
          rw [this, s2 _ _ hD] at e
          cases e
        · have hb := pv.base
          obtain ⟨sB, acc, hacc, _, him⟩ := pv
          rw [hvl, map_range] at him
          refine ⟨D, acc, rfl, .inl ⟨SqL.of hacc, fun l nl => ?_⟩⟩
          have s9 := same_new (o := .tup acc) nl
          refine k _ (.ref l) (s1.trans (hb.trans s9)) ?_
          rw [tupd, tupds_map]
          exact .tup upd_same (him.mono ((hide_same _ _).trans s9))
    · have c : ¬ 0 < left := by simpa using c
      refine iteF ⟨_, rfl, leaf (fun _ _ e => e) ?_⟩
      cases d with
      | list xs => rw [PyData.depth] at hl; omega
      | tuple xs => rw [PyData.depth] at hl; omega
      | _ => rfl
theorem ok_deep (T : Fx K mg) : FnOk P w K mg base CX0 4 T.a_deep T.d_deep ["thing", "left"] (spDeep 4) := ok_deepN T 4
end
end Tk
/-! tables that are judged -/
namespace Tk
open PySem L2
def inR (n m : Nat) (a b : Int) : Bool := (decide (0 ≤ a) && decide (a ≤ (n : Int) - 1)) && (decide (0 ≤ b) && decide (b ≤ (m : Int) - 1))
/-- a row that is a pair of states -/
def formT (n m : Nat) : PyData → Option Node
  | .tuple [.int a, .int b] => if inR n m a b = true then some (a, b) else none
  | _ => none
theorem formT_some {n m : Nat} {d : PyData} {x : Node} (h : formT n m d = some x) : d = nodeD x ∧ inR n m x.1 x.2 = true := by
  unfold formT at h
  split at h
  · split at h
    · cases h
      exact ⟨rfl, by assumption⟩
    · cases h
  · cases h
theorem inR_iff {n m : Nat} {a b : Int} : inR n m a b = true ↔ (0 ≤ a ∧ a < n) ∧ (0 ≤ b ∧ b < m) := by
  unfold inR
  simp only [Bool.and_eq_true, decide_eq_true_eq]
  omega
section
variable (L M : Pl)
def thereT (rs : List PyData) : List Node := rs.filterMap (formT L.rows.length M.rows.length)
def badT (S : List Node) (d : PyData) : Bool := match formT L.rows.length M.rows.length d with
  | none => true
  | some x => (isEnd L x.1 != isEnd M x.2) || (nx L M x).any fun p => decide (p.2 ∉ S)
def jud (rs : List PyData) : Option Int := if (0, 0) ∈ thereT L M rs then (rs.findIdx? (badT L M (thereT L M rs))).map fun (i : Nat) => (i : Int) else some (-1)
end
def judV : Option Int → V
  | none => .non
  | some i => .int i
section
variable {L M : Pl}
theorem thereT_in {rs : List PyData} {x : Node} (h : x ∈ thereT L M rs) : inR L.rows.length M.rows.length x.1 x.2 = true := by
  obtain ⟨d, _, e⟩ := List.mem_filterMap.mp h
  exact (formT_some e).2
theorem jud_not {rs : List PyData} (h : (0, 0) ∉ thereT L M rs) : jud L M rs = some (-1) := if_neg h
theorem jud_at {rs : List PyData} (h : (0, 0) ∈ thereT L M rs) {i : Nat} {d : PyData} (hi : rs[i]? = some d) (hb : badT L M (thereT L M rs) d = true) (hn : ∀ j, j < i → ∀ e, rs[j]? = some e → badT L M (thereT L M rs) e = false) : jud L M rs = some (i : Int) := by
  unfold jud
  rw [if_pos h]
  have hl := (List.getElem?_eq_some_iff.mp hi).1
  have : rs.findIdx? (badT L M (thereT L M rs)) = some i := by
    rw [List.findIdx?_eq_some_iff_getElem]
    refine ⟨hl, ?_, fun j hj => ?_⟩
    · rw [(List.getElem?_eq_some_iff.mp hi).2]; exact hb
    · rw [hn j hj rs[j] (List.getElem?_eq_getElem (by omega))]; simp
  rw [this]
  rfl
theorem jud_all {rs : List PyData} (h : (0, 0) ∈ thereT L M rs) (hn : ∀ d ∈ rs, badT L M (thereT L M rs) d = false) : jud L M rs = none := by
  unfold jud
  rw [if_pos h]
  have : rs.findIdx? (badT L M (thereT L M rs)) = none := List.findIdx?_eq_none_iff.mpr fun d hd => hn d hd
  rw [this]
  rfl
end
section
variable {κ : Type} [DecidableEq κ] {kvs : List (κ × V)} {k k' : κ} {v : V}
theorem valV_isSome : (valV kvs k).isSome = decide (k ∈ kvs.map (·.1)) := by
  by_cases h : k ∈ kvs.map (·.1)
  · obtain ⟨v, hv, _⟩ := valV_some_of h
    rw [hv, decide_eq_true h]; rfl
  · rw [valV_none h, decide_eq_false h]; rfl
theorem putK_keys : k' ∈ (putK kvs k v).map (·.1) ↔ k' = k ∨ k' ∈ kvs.map (·.1) := by
  by_cases h : k ∈ kvs.map (·.1)
  · have : (putK kvs k v).map (·.1) = kvs.map (·.1) := by
      unfold putK
      rw [if_pos (List.any_eq_true.mpr (by
        obtain ⟨x, hx, e⟩ := List.mem_map.mp h
        exact ⟨x, hx, by simpa using e⟩)), List.map_map]
      refine List.map_congr_left fun x _ => ?_
      show (if x.1 = k then (x.1, v) else x).1 = x.1
      split <;> rfl
    rw [this]
    exact ⟨.inr, fun q => q.elim (fun e => e ▸ h) id⟩
  · rw [putK_new h, List.map_append, List.mem_append]
    simp only [List.map_cons, List.map_nil, List.mem_singleton]
    exact Or.comm
end
/-- a dict that knows just the nodes of S -/
def KeyS (kvs : List (List Key × V)) (S : List Node) : Prop := ∀ n : Node, keyN n ∈ kvs.map (·.1) ↔ n ∈ S
theorem KeyS.nil : KeyS [] [] := fun n => by simp
theorem KeyS.put {kvs : List (List Key × V)} {S : List Node} (h : KeyS kvs S) (x : Node) (v : V) : KeyS (putK kvs (keyN x) v) (S ++ [x]) := fun n => by
  rw [putK_keys, h n, List.mem_append, List.mem_singleton]
  exact ⟨fun q => q.elim (fun e => .inr (keyN_inj e)) .inl, fun q => q.elim .inr fun e => .inl (by rw [e])⟩
theorem KeyS.some {kvs : List (List Key × V)} {S : List Node} (h : KeyS kvs S) (x : Node) : (valV kvs (keyN x)).isSome = decide (x ∈ S) := by
  by_cases q : x ∈ S
  · obtain ⟨v, hv, _⟩ := valV_some_of ((h x).mpr q)
    rw [hv, decide_eq_true q]; rfl
  · rw [valV_none (fun z => q ((h x).mp z)), decide_eq_false q]; rfl
theorem putK_len {κ : Type} [DecidableEq κ] (kvs : List (κ × V)) (k : κ) (v : V) : (putK kvs k v).length ≤ kvs.length + 1 := by
  unfold putK
  split
  · rw [List.length_map]; omega
  · rw [List.length_append]; exact Nat.le_refl _
/-- the law's own look at a row's steps -/
theorem steps_look {r q : Row} (hr : (r.map (·.1)).Pairwise (· < ·)) (hq : (q.map (·.1)).Pairwise (· < ·)) {S : List Node} (hS : ∀ x ∈ S, 0 ≤ x.1 ∧ 0 ≤ x.2) :
    ((nxR r q).any fun p => decide (p.2 ∉ S)) = (decide (r.map (·.1) ≠ q.map (·.1)) || (r.zip q).any fun z => decide ((((z.1.2 : Nat) : Int), ((z.2.2 : Nat) : Int)) ∉ S)) := by
  by_cases e : r.map (·.1) = q.map (·.1)
  · rw [decide_eq_false (fun h => h e), Bool.false_or, Bool.eq_iff_iff, List.any_eq_true, List.any_eq_true]
    have hlen : r.length = q.length := by simpa using congrArg List.length e
    constructor
    · rintro ⟨⟨s, x⟩, hp, hn⟩
      obtain ⟨hs, rfl⟩ := mem_nxR.mp hp
      have hs : s ∈ r.map (·.1) := by
        rcases mem_signs.mp hs with h | h
        · exact h
        · rw [e]; exact h
      obtain ⟨a, ha, rfl⟩ := List.mem_map.mp hs
      obtain ⟨k, hk⟩ := List.mem_iff_getElem?.mp ha
      have hkl := (List.getElem?_eq_some_iff.mp hk).1
      have hb : q[k]? = some q[k] := List.getElem?_eq_getElem (by omega)
      have e2 : q[k].1 = a.1 := by
        have := congrArg (fun l : List Nat => l[k]?) e
        simp only [List.getElem?_map, hk, hb, Option.map_some] at this
        exact (Option.some.inj this).symm
      refine ⟨(a, q[k]), ?_, ?_⟩
      · have : (r.zip q)[k]? = some (a, q[k]) := by rw [List.getElem?_zip_eq_some]; exact ⟨hk, hb⟩
        exact List.mem_of_getElem? this
      · have l1 := lookup_of hr ha
        have l2 := lookup_of hq (List.getElem_mem (by omega : k < q.length))
        rw [e2] at l2
        unfold look at hn
        rw [l1, l2] at hn
        exact hn
    · rintro ⟨⟨a, b⟩, hz, hn⟩
      obtain ⟨k, hk⟩ := List.mem_iff_getElem?.mp hz
      rw [List.getElem?_zip_eq_some] at hk
      obtain ⟨h1, h2⟩ := hk
      have e2 : b.1 = a.1 := by
        have := congrArg (fun l : List Nat => l[k]?) e
        simp only [List.getElem?_map, h1, h2, Option.map_some] at this
        exact (Option.some.inj this).symm
      have l1 := lookup_of hr (List.mem_of_getElem? h1)
      have l2 := lookup_of hq (List.mem_of_getElem? h2)
      rw [e2] at l2
      refine ⟨(a.1, (look r a.1, look q a.1)), mem_nxR.mpr ⟨mem_signs.mpr (.inl (List.mem_map.mpr ⟨a, List.mem_of_getElem? h1, rfl⟩)), rfl⟩, ?_⟩
      unfold look
      rw [l1, l2]
      exact hn
  · rw [decide_eq_true e, Bool.true_or, List.any_eq_true]
    have h1 : ∃ s, (s ∈ r.map (·.1) ∧ s ∉ q.map (·.1)) ∨ (s ∈ q.map (·.1) ∧ s ∉ r.map (·.1)) := by
      refine Classical.byContradiction fun hc => e (rise_ext hr hq fun x => ⟨fun hx => ?_, fun hx => ?_⟩)
      · exact Classical.byContradiction fun hn => hc ⟨x, .inl ⟨hx, hn⟩⟩
      · exact Classical.byContradiction fun hn => hc ⟨x, .inr ⟨hx, hn⟩⟩
    obtain ⟨s, h | h⟩ := h1
    · refine ⟨(s, (look r s, look q s)), mem_nxR.mpr ⟨mem_signs.mpr (.inl h.1), rfl⟩, ?_⟩
      have : q.lookup s = none := Option.isNone_iff_eq_none.mp (lookup_isNone.mpr h.2)
      simp only [decide_eq_true_eq]
      intro hx
      have := (hS _ hx).2
      unfold look at this
      rw [‹q.lookup s = none›] at this
      simp at this
    · refine ⟨(s, (look r s, look q s)), mem_nxR.mpr ⟨mem_signs.mpr (.inr h.1), rfl⟩, ?_⟩
      have : r.lookup s = none := Option.isNone_iff_eq_none.mp (lookup_isNone.mpr h.2)
      simp only [decide_eq_true_eq]
      intro hx
      have := (hS _ hx).1
      unfold look at this
      rw [‹r.lookup s = none›] at this
      simp at this
end Tk
set_option maxHeartbeats 1000000
/-! is_state_pair -/
namespace Tk
open PySem L2
section
variable {P : Program} {w : World} {K : PySem.W.Frag} {mg : Str → Option Value} {base : Heap}
def spIspair (C : Addr) : Sp := fun vs H Q _ => ∃ (p q : Addr) (v : V) (d : PyData) (L M : Pl), vs = [.ref p, .ref q, v] ∧ PlanO C H p L ∧ PlanO C H q M ∧ Im H v d ∧ Q (.bl (formT L.rows.length M.rows.length d).isSome) H
theorem PlanO.count {C : Addr} {H : Hp} {p : Addr} {L : Pl} (h : PlanO C H p L) : ∃ (dx : Addr) (fs : List (Str × V)) (a : Addr) (xs : List V), H p = some (.ins C dx fs) ∧ fs.lookup ("states" : Str) = some (V.ref a) ∧ H a = some (.tup xs) ∧ xs.length = L.rows.length := by
  obtain ⟨dx, fs, sv, t, e, ts, h1, h2, h3, h4, h5, h6, h7, h8⟩ := h
  obtain ⟨a, xs, rfl, ha, hx⟩ := h5.tup_inv
  exact ⟨dx, fs, a, xs, h1, h2, ha, by rw [hx.len, List.length_map]⟩
theorem ok_ispair (T : Fx K mg) : FnOk P w K mg base CX0 2 T.a_ispair T.d_ispair ["first", "second", "row"] (spIspair T.cP) := by
  refine T.F_ispair.ok sc_ispair (fun vs H Q E h => ?_) (fun cdv A outer s H vs Q E hr h => ?_)
  · obtain ⟨p, q, v, d, L, M, rfl, _⟩ := h; rfl
  obtain ⟨p, q, v, d, L, M, rfl, hp, hq, hd, k⟩ := h
  refine ⟨_, (pss_cons (ps_if (PW.pt (pw_or (pt_not (pt_val (pe_callB (cr_is kit_T) (by rfl) T.z_isinstance (by decide +kernel) (pa_cons (pv 2) (pa_cons (pe_bltn (v := .ty "tuple") (u := .type "tuple") (by rfl) T.z_tuple (by decide +kernel) rfl) pa_nil))))) (pw_or1 (pt_cmpR op_ne (pe_callB call_len_seq (by rfl) T.z_len (by decide +kernel) (pa_cons (pv 2) pa_nil)) pe_int (nomark _)))))
      (pss_one (ps_ret pe_bl))
      pss_nil)
    (pss_one (ps_ret (pe_and (pe_call (ok_isint T) (hr.mono (by decide)) (by rfl) T.g_isint T.F_isint.kp T.b_isint .nil pass0 (pa_cons (pe_ix ix_tup (pv 2) pe_int (fun _ _ => rfl)) (pa_cons pe_int (pa_cons (pe_op op_sub (pe_callB call_len_seq (by rfl) T.z_len (by decide +kernel) (pa_cons (pe_fld (pv 0) rfl) pa_nil)) pe_int) pa_nil)))) (pe_one (pe_call (ok_isint T) (hr.mono (by decide)) (by rfl) T.g_isint T.F_isint.kp T.b_isint .nil pass0 (pa_cons (pe_ix ix_tup (pv 2) pe_int (fun _ _ => rfl)) (pa_cons pe_int (pa_cons (pe_op op_sub (pe_callB call_len_seq (by rfl) T.z_len (by decide +kernel) (pa_cons (pe_fld (pv 1) rfl) pa_nil)) pe_int) pa_nil))))))))), ?_⟩
  refine ⟨_, rfl, v, d, rfl, hd, _, rfl, ?_⟩
  cases hd with
  | non => exact iteT (iteT k)
  | bl b => exact iteT (iteT k)
  | int i => exact iteT (iteT k)
  | str x => exact iteT (iteT k)
  | lst e h => exact iteT (iteT k)
  | @tup a xs ds e h =>
    refine iteF ⟨_, rfl, a, _, rfl, .inr (SqT.of e), rfl, _, rfl, ?_⟩
    by_cases h2 : xs.length = 2
    · have e1 : (!decide (V.int (xs.length : Nat) = V.int 2)) = false := by rw [h2]; rfl
      rw [e1]
      obtain ⟨x, y, rfl⟩ : ∃ x y, xs = [x, y] := by
        match xs, h2 with
        | [x, y], _ => exact ⟨x, y, rfl⟩
      obtain ⟨d1, d2, rfl, g1, g2⟩ : ∃ d1 d2, ds = [d1, d2] ∧ Im H x d1 ∧ Im H y d2 := by
        cases h with
        | cons g1 h => cases h with
          | cons g2 h => cases h; exact ⟨_, _, rfl, g1, g2⟩
      obtain ⟨dx, fs, sa, sx, c1, c2, c3, c4⟩ := hp.count
      obtain ⟨dy, ft, ta, tx, b1, b2, b3, b4⟩ := hq.count
      refine iteF ⟨_, rfl, a, _, 0, _, rfl, rfl, SqT.of e, atI_nat (j := 0) rfl, _, rfl, p, T.cP, dx, fs, _, rfl, c1, T.clP, T.nP_states, c2, sa, sx, rfl, .inr (SqT.of c3), _, _, rfl, rfl, ?_⟩
      refine ⟨_, d1, 0, _, rfl, g1, _, rfl, ?_⟩
      rw [c4]
      have ef : (formT L.rows.length M.rows.length (.tuple [d1, d2])).isSome = (isIn d1 0 ((L.rows.length : Int) - 1) && isIn d2 0 ((M.rows.length : Int) - 1)) := by
        unfold formT isIn
        cases d1 <;> cases d2 <;> simp [inR]
        split <;> simp_all
      rw [ef] at k
      cases hA : isIn d1 0 ((L.rows.length : Int) - 1) with
      | false => rw [hA, Bool.false_and] at k; exact iteF k
      | true =>
        rw [hA, Bool.true_and] at k
        refine iteT ⟨_, rfl, a, _, 1, _, rfl, rfl, SqT.of e, atI_nat (j := 1) rfl, _, rfl, q, T.cP, dy, ft, _, rfl, b1, T.clP, T.nP_states, b2, ta, tx, rfl, .inr (SqT.of b3), _, _, rfl, rfl, ?_⟩
        refine ⟨_, d2, 0, _, rfl, g2, ?_⟩
        rw [b4]
        exact k
    · have e1 : (!decide (V.int (xs.length : Nat) = V.int 2)) = true := by
        rw [decide_eq_false (fun e => h2 (by have := V.int.inj e; omega))]; rfl
      rw [e1]
      refine iteT ?_
      have e2 : formT L.rows.length M.rows.length (.tuple ds) = none := by
        have hl := h.len
        unfold formT
        split
        · rename_i a b he
          cases he
          exact absurd hl (by simpa using h2)
        · rfl
      rw [e2] at k
      exact k
end
end Tk
set_option maxHeartbeats 2000000
/-! judge_plans -/
namespace Tk
open PySem L2
theorem atI_0 {x : V} {xs : List V} : atI (x :: xs) 0 = some x := atI_nat (j := 0) rfl
theorem atI_1 {x y : V} {xs : List V} : atI (x :: y :: xs) 1 = some y := atI_nat (j := 1) rfl
theorem PlanO.ends {C : Addr} {H : Hp} {p : Addr} {L : Pl} (h : PlanO C H p L) {i : Int} (h0 : 0 ≤ i) (hi : i < L.rows.length) : ∃ (dx : Addr) (fs : List (Str × V)) (e : Addr), H p = some (.ins C dx fs) ∧ fs.lookup ("is_end" : Str) = some (V.ref e) ∧ H e = some (.tup (flagsV L)) ∧ atI (flagsV L) i = some (.bl (isEnd L i)) := by
  obtain ⟨dx, fs, sv, t, e, ts, h1, h2, h3, h4, h5, h6, h7, h8⟩ := h
  refine ⟨dx, fs, e, h1, h4, h8, ?_⟩
  rw [flags_at h0 hi]
  unfold isEnd
  rw [decide_eq_true h0]; rfl
theorem ne_flags (x y : Bool) : (!decide (V.bl x = V.bl y)) = (x != y) := by cases x <;> cases y <;> rfl
section
variable {P : Program} {w : World} {K : PySem.W.Frag} {mg : Str → Option Value} {base : Heap}
def spJudge (C : Addr) : Sp := fun vs H Q _ => ∃ (p q : Addr) (v : V) (d : PyData) (ds : List PyData) (L M : Pl), vs = [.ref p, .ref q, v] ∧ PlanO C H p L ∧ PlanO C H q M ∧ L.Ok ∧ M.Ok ∧ Im H v d ∧ (d = .tuple ds ∨ d = .list ds) ∧ d.depth ≤ 3 ∧ sm d = true ∧ ∀ H', Same H H' → Q (judV (jud L M (tupds ds))) H'
theorem ok_judge (T : Fx K mg) : FnOk P w K mg base CX0 5 T.a_judge T.d_judge ["first", "second", "table"] (spJudge T.cP) := by
  refine T.F_judge.ok sc_judge (fun vs H Q E h => ?_) (fun cdv A outer s H vs Q E hr h => ?_)
  · obtain ⟨p, q, v, d, ds, L, M, rfl, _⟩ := h; rfl
  obtain ⟨p, q, v, d, ds, L, M, rfl, hp, hq, okL, okM, hd, hds, hdep, hsm, k⟩ := h
  have hu := hu_of hr
  obtain ⟨bds_, hds_, bb⟩ := b_deep1 T
  have hds := hds
  refine ⟨_, PSs.nox ((pss_cons (ps_set (i := 3) sc_judge.nd rfl (.inl rfl) (pe_call (ok_deep T) (hr.mono (by decide)) (by rfl) T.g_deep T.F_deep.kp bb hds_ pass0 (pa_cons (pv 2) pa_nil)))
    (pss_cons (ps_set (i := 4) sc_judge.nd rfl (.inl rfl) pe_dnewT)
    (pss_cons (ps_for PassesOwn.never rfl (pi_tup (pv 3)) (pg_name (i := 5) sc_judge.nd rfl (.inl rfl))
      (pss_one (ps_if (pt_val (pe_call (ok_ispair T) (hr.mono (by decide)) (by rfl) T.g_ispair T.F_ispair.kp T.b_ispair .nil pass0 (pa_cons (pv 0) (pa_cons (pv 1) (pa_cons (pv 5) pa_nil)))))
        (pss_one (ps_dput hu (pv 4) (pv 5) pe_bl rfl))
        pss_nil)))
    (pss_cons (ps_if (pt_cmp (pc_dnotin hu (pe_tup (pa_cons pe_int (pa_cons pe_int pa_nil))) (pv 4)))
      (pss_one (ps_ret (pe_un un_neg pe_int)))
      pss_nil)
    (pss_cons (ps_for PassesOwn.never rfl (pi_enumT (by rfl) T.z_enumerate (pa_cons (pv 3) pa_nil)) (pg_tup rfl (pgs_cons (pg_name (i := 6) sc_judge.nd rfl (.inl rfl)) (pgs_cons (pg_name (i := 5) sc_judge.nd rfl (.inl rfl)) pgs_nil)))
      (pss_cons (ps_if (pt_not (pt_val (pe_call (ok_ispair T) (hr.mono (by decide)) (by rfl) T.g_ispair T.F_ispair.kp T.b_ispair .nil pass0 (pa_cons (pv 0) (pa_cons (pv 1) (pa_cons (pv 5) pa_nil))))))
        (pss_one (ps_ret (pv 6)))
        pss_nil)
      (pss_cons (ps_if (pt_cmpR op_ne (pe_ix ix_tup (pe_fld (pv 0) rfl) (pe_ix ix_tup (pv 5) pe_int (fun _ _ => rfl)) (fun _ _ => rfl)) (pe_ix ix_tup (pe_fld (pv 1) rfl) (pe_ix ix_tup (pv 5) pe_int (fun _ _ => rfl)) (fun _ _ => rfl)) (nomark _))
        (pss_one (ps_ret (pv 6)))
        pss_nil)
      (pss_one (ps_for PassesOwn.never rfl (pi_list (pe_call (ok_psteps T) (hr.mono (by decide)) (by rfl) T.g_psteps T.F_psteps.kp T.b_psteps .nil pass0 (pa_cons (pv 0) (pa_cons (pv 1) (pa_cons (pv 5) pa_nil))))) (pg_tup rfl (pgs_cons (pg_name (i := 7) sc_judge.nd rfl (.inl rfl)) (pgs_cons (pg_name (i := 8) sc_judge.nd rfl (.inl rfl)) pgs_nil)))
        (pss_one (ps_if (pt_cmp (pc_dnotin hu (pv 8) (pv 4)))
          (pss_one (ps_ret (pv 6)))
          pss_nil)))))))
    (pss_one (ps_ret pe_non)))))))), ?_⟩
  refine ⟨_, rfl, v, d, 12, rfl, hd, by omega, by omega, hsm, fun H1 v' s1 im1 => ?_⟩
  have etd : tupd d = .tuple (tupds ds) := by rcases hds with rfl | rfl <;> rfl
  rw [etd] at im1
  have hsl : ds.length ≤ 1000 := by
    rcases hds with rfl | rfl <;> (rw [sm, Bool.and_eq_true] at hsm; simpa using hsm.1)
  have hrl : (tupds ds).length = ds.length := by rw [tupds_map, List.length_map]
  generalize tupds ds = rs at im1 k hrl
  obtain ⟨ar, xs, rfl, har, hxs⟩ := im1.tup_inv
  have xl : xs.length = rs.length := hxs.len
  have hp1 := hp.mono s1
  have hq1 := hq.mono s1
  intro aT nT
  have g0 : hide [aT] (upd H1 aT (.dT [])) = hide [aT] H1 := hide_mut (by simp)
  have sH1 : Same H1 (hide [aT] H1) := fun b o e => by rw [hide_out (by simpa using ne_of_none e nT)]; exact e
  refine ⟨_, rfl, ar, rfl, ⟨_, SqT.of ((upd_ne (ne_of_none har nT)).trans har)⟩, for_it (walk_tup (xs := xs)) (fun i σ H2 => ∃ (o5 o6 o7 o8 : Option V) (kvs : List (List Key × V)), σ = [some (.ref p), some (.ref q), some v, some (.ref ar), some (.ref aT), o5, o6, o7, o8] ∧ H2 aT = some (.dT kvs) ∧ Same H1 (hide [aT] H2) ∧
    KeyS kvs (thereT L M (rs.take i)) ∧ kvs.length ≤ i) ⟨_, _, _, _, [], rfl, upd_same, by rw [g0]; exact sH1, KeyS.nil, Nat.le_refl _⟩ (fun i σ H2 _ h => ?_) (fun i x σ H2 H2' hi h y => ?_) fun σ H2 h => ?_⟩
  · obtain ⟨_, _, _, _, _, _, _, h, _⟩ := h
    exact SqT.of (hide_same _ _ _ _ (h _ _ har))
  · obtain ⟨o5, o6, o7, o8, kvs, rfl, hT, sB, kS, kl⟩ := h
    obtain ⟨rfl, hx⟩ := y
    obtain ⟨di, hdi, him⟩ := hxs.get hx
    have s2 : Same H1 H2' := sB.trans (hide_same _ _)
    have et : thereT L M (rs.take (i + 1)) = thereT L M (rs.take i) ++ (formT L.rows.length M.rows.length di).toList := by
      unfold thereT
      rw [List.take_add_one, hdi, List.filterMap_append]
      rw [Option.toList_some, List.filterMap_cons]
      cases formT L.rows.length M.rows.length di <;> rfl
    refine ⟨_, rfl, _, rfl, _, rfl, p, q, x, di, L, M, rfl, hp1.mono s2, hq1.mono s2, him.mono s2, _, rfl, ?_⟩
    rw [et]
    cases hf : formT L.rows.length M.rows.length di with
    | none => exact iteF ⟨_, _, _, _, kvs, rfl, hT, sB, by simpa using kS, by omega⟩
    | some nd =>
      have ed := (formT_some hf).1
      subst ed
      obtain ⟨b, rfl, hb⟩ := nodeD_inv him
      refine iteT ⟨_, rfl, _, rfl, aT, _, rfl, DPut.t (k := keyN nd) hT (s2 _ _ hb) (szlt (by omega)), ?_⟩
      exact ⟨_, _, _, _, _, rfl, upd_same, by rw [hide_mut (by simp)]; exact sB, kS.put nd _, Nat.le_trans (putK_len _ _ _) (by omega)⟩
  · obtain ⟨o5, o6, o7, o8, kvs, rfl, hT, sB, kS, kl⟩ := h
    rw [xl, List.take_length] at kS
    have s2 : Same H1 H2 := sB.trans (hide_same _ _)
    have s02 := s1.trans s2
    refine ⟨sz2, fun t nt => ?_⟩
    have s3 := same_new (o := .tup [.int 0, .int 0]) nt
    refine ⟨_, rfl, aT, _, rfl, DGet.t (k := keyN (0, 0)) (s3 _ _ hT) upd_same, _, rfl, ?_⟩
    rw [kS.some]
    by_cases h00 : (0, 0) ∈ thereT L M rs
    · rw [decide_eq_true h00]
      refine iteF ?_
      have hT := s3 _ _ hT
      have s03 := s2.trans s3
      generalize upd H2 t (.tup [.int 0, .int 0]) = H3 at hT s03
      have s13 := s1.trans s03
      refine ⟨_, rfl, ar, xs, rfl, SqT.of (s03 _ _ har), for_it (walk_enumT (xs := xs)) (fun i σ H4 => ∃ (o5 o6 o7 o8 : Option V), σ = [some (.ref p), some (.ref q), some v, some (.ref ar), some (.ref aT), o5, o6, o7, o8] ∧ Same H3 H4 ∧ ∀ j, j < i → ∀ e, rs[j]? = some e → badT L M (thereT L M rs) e = false)
        ⟨_, _, _, _, rfl, fun _ _ e => e, fun j hj => absurd hj (Nat.not_lt_zero _)⟩ (fun i σ H4 _ h => ?_) (fun i x σ H4 H5 hi h y => ?_) fun σ H4 h => ?_⟩
      · obtain ⟨_, _, _, _, _, h, _⟩ := h
        exact SqT.of (h _ _ (s03 _ _ har))
      · obtain ⟨o5, o6, o7, o8, rfl, s4, hbad⟩ := h
        obtain ⟨TT, x1, x2, rfl, nTT, rfl, e1, e2⟩ := y
        have e1 := Option.some.inj e1
        subst e1
        have s5 := s4.trans (same_new (o := .tup [.int (i : Nat), x2]) nTT)
        have hTT : upd H4 TT (.tup [.int (i : Nat), x2]) TT = some (.tup [.int (i : Nat), x2]) := upd_same
        generalize upd H4 TT (.tup [.int (i : Nat), x2]) = H6 at s5 hTT
        obtain ⟨di, hdi, him⟩ := hxs.get e2
        have s6 : Same H1 H6 := s03.trans s5
        have kk : ∀ {H' : Hp}, Same H6 H' → badT L M (thereT L M rs) di = true → Q (.int (i : Nat)) H' := fun {H'} s hb => by
          have := k H' ((s1.trans s6).trans s)
          rw [jud_at h00 hdi hb hbad] at this
          exact this
        refine ⟨TT, _, rfl, SqT.of hTT, rfl, _, _, rfl, _, _, rfl, rfl, ?_⟩
        refine ⟨_, rfl, _, rfl, _, rfl, p, q, x2, di, L, M, rfl, hp1.mono s6, hq1.mono s6, him.mono s6, _, rfl, ?_⟩
        cases hf : formT L.rows.length M.rows.length di with
        | none =>
          refine iteT ⟨_, rfl, kk (fun _ _ e => e) ?_⟩
          unfold badT; rw [hf]
        | some nd =>
          obtain ⟨ed, hr2⟩ := formT_some hf
          subst ed
          have hr3 := inR_iff.mp hr2
          have eb : badT L M (thereT L M rs) (nodeD nd) = ((isEnd L nd.1 != isEnd M nd.2) || (nx L M nd).any fun p => decide (p.2 ∉ thereT L M rs)) := by unfold badT; rw [hf]
          obtain ⟨b, rfl, hb⟩ := nodeD_inv him
          have hb6 := s6 _ _ hb
          obtain ⟨dx, fs, ea, a1, a2, a3, a4⟩ := (hp1.mono s6).ends hr3.1.1 hr3.1.2
          obtain ⟨dy, ft, eb2, b1, b2, b3, b4⟩ := (hq1.mono s6).ends hr3.2.1 hr3.2.2
          refine iteF ⟨_, rfl, p, T.cP, dx, fs, _, rfl, a1, T.clP, T.nP_is_end, a2, _, rfl, b, _, 0, _, rfl, rfl, SqT.of hb6, atI_0, ea, _, _, _, rfl, rfl, SqT.of a3, a4, ?_⟩
          refine ⟨_, rfl, q, T.cP, dy, ft, _, rfl, b1, T.clP, T.nP_is_end, b2, _, rfl, b, _, 1, _, rfl, rfl, SqT.of hb6, atI_1, eb2, _, _, _, rfl, rfl, SqT.of b3, b4, rfl, _, rfl, ?_⟩
          rw [ne_flags]
          cases hE : (isEnd L nd.1 != isEnd M nd.2) with
          | true =>
            refine iteT ⟨_, rfl, kk (fun _ _ e => e) ?_⟩
            rw [eb, hE]; rfl
          | false =>
            rw [hE, Bool.false_or] at eb
            refine iteF ⟨_, rfl, _, rfl, _, rfl, p, q, L, M, nd, b, rfl, hp1.mono s6, hq1.mono s6, okL, okM, hb6, ⟨⟨by omega, hr3.1.2⟩, by omega, hr3.2.2⟩, fun H7 aS sv s7 nS hS iS => ?_⟩
            have iS := iS.mono (hide_same _ _)
            have svl : sv.length = (nx L M nd).length := by rw [iS.len, List.length_map]
            refine ⟨aS, rfl, ⟨_, SqL.of hS⟩, for_it (walk_list (xs := sv)) (fun j σ H8 => ∃ (o7 o8 : Option V), σ = [some (.ref p), some (.ref q), some v, some (.ref ar), some (.ref aT), some (.ref b), some (.int (i : Nat)), o7, o8] ∧ Same H7 H8 ∧ ∀ z ∈ (nx L M nd).take j, z.2 ∈ thereT L M rs)
              ⟨_, _, rfl, fun _ _ e => e, fun z hz => by simp at hz⟩ (fun j σ H8 _ h => ?_) (fun j x σ H8 H9 hj h y => ?_) fun σ H8 h => ?_⟩
            · obtain ⟨_, _, _, h, _⟩ := h
              exact SqL.of (h _ _ hS)
            · obtain ⟨o7, o8, rfl, s8, hall⟩ := h
              obtain ⟨rfl, hx⟩ := y
              obtain ⟨dj, hdj, hij⟩ := iS.get hx
              rw [List.getElem?_map] at hdj
              have hjl : j < (nx L M nd).length := by rw [← svl]; exact hj
              have hpj : (nx L M nd)[j]? = some (nx L M nd)[j] := List.getElem?_eq_getElem hjl
              have et : (nx L M nd).take (j + 1) = (nx L M nd).take j ++ [(nx L M nd)[j]] := by rw [List.take_add_one, hpj]; rfl
              have hpm := List.getElem_mem hjl
              generalize (nx L M nd)[j] = pj at hpj et hpm
              rw [hpj] at hdj
              cases hdj
              obtain ⟨b3, v1, v2, rfl, hb3, j1, j2⟩ := hij.pair_inv
              obtain ⟨b4, rfl, hb4⟩ := nodeD_inv (n := pj.2) j2
              refine ⟨b3, _, rfl, SqT.of (s8 _ _ hb3), rfl, _, _, rfl, _, _, rfl, rfl, ?_⟩
              have hT9 := s8 _ _ (s7 _ _ (s5 _ _ hT))
              refine ⟨_, rfl, _, rfl, aT, _, rfl, DGet.t (k := keyN pj.2) hT9 (s8 _ _ hb4), _, rfl, ?_⟩
              rw [kS.some]
              by_cases hin : pj.2 ∈ thereT L M rs
              · rw [decide_eq_true hin]
                refine iteF ⟨_, _, rfl, s8, fun z hz => ?_⟩
                rw [et] at hz
                rcases List.mem_append.mp hz with hz | hz
                · exact hall z hz
                · have : z = pj := by simpa using hz
                  rw [this]; exact hin
              · rw [decide_eq_false hin]
                refine iteT ⟨_, rfl, kk (s7.trans s8) ?_⟩
                rw [eb, List.any_eq_true]
                exact ⟨pj, hpm, by simpa using hin⟩
            · obtain ⟨o7, o8, rfl, s8, hall⟩ := h
              rw [svl, List.take_length] at hall
              refine ⟨_, _, _, _, rfl, (s5.trans s7).trans s8, fun j hj e he => ?_⟩
              by_cases hji : j = i
              · subst hji
                rw [hdi] at he
                cases he
                rw [eb, List.any_eq_false]
                intro z hz
                simpa using hall z hz
              · exact hbad j (by omega) e he
      · obtain ⟨o5, o6, o7, o8, rfl, s4, hbad⟩ := h
        have := k _ (s13.trans s4)
        rw [jud_all h00 fun d hd => ?_] at this
        · exact this
        · obtain ⟨j, hj⟩ := List.mem_iff_getElem?.mp hd
          exact hbad j (by rw [xl]; exact (List.getElem?_eq_some_iff.mp hj).1) d hj
    · rw [decide_eq_false h00]
      refine iteT ⟨_, rfl, ?_⟩
      have := k _ (s02.trans s3)
      rw [jud_not h00] at this
      exact this
end
end Tk
set_option maxHeartbeats 2000000
/-! the law's looker -/
namespace Tk
open PySem L2
def isIntD : PyData → Bool
  | .int _ => true
  | _ => false
def rIxLT : R2 := fun x y H Q => ∃ p xs i v, x = .ref p ∧ y = .int i ∧ (H p = some (.lst xs) ∨ H p = some (.tup xs)) ∧ atI xs i = some v ∧ Q v H
theorem ix_lt {X : Cx} : IxR X rIxLT := by
  intro value slice pins s σ H x y v u Q I rx ry h hs
  obtain ⟨p, xs, i, z, rfl, rfl, h | h, hx, q⟩ := h
  · exact ix_list value slice pins s σ H _ _ v u Q I rx ry ⟨p, xs, i, z, rfl, rfl, SqL.of h, hx, q⟩ hs
  · exact ix_tup value slice pins s σ H _ _ v u Q I rx ry ⟨p, xs, i, z, rfl, rfl, SqT.of h, hx, q⟩ hs
def rInS (neg : Bool) : R2 := fun x y H Q => ∃ p xs, y = .ref p ∧ (H p = some (.lst xs) ∨ H p = some (.tup xs)) ∧ flatV x = true ∧ xs.all flatV = true ∧ Q (.bl (if neg then !inV x xs else inV x xs)) H
theorem op_inS {X : Cx} : OpR X (compareOp .In) (rInS false) := by
  intro pins s σ H x y v u Q I rx ry h
  obtain ⟨p, xs, rfl, h, f1, f2, q⟩ := h
  exact op_in_seq pins s σ H _ _ v u Q I rx ry ⟨p, xs, rfl, h.elim (fun z => .inl (SqL.of z)) (fun z => .inr (SqT.of z)), f1, f2, q⟩
theorem op_notInS {X : Cx} : OpR X (compareOp .NotIn) (rInS true) := by
  intro pins s σ H x y v u Q I rx ry h
  obtain ⟨p, xs, rfl, h, f1, f2, q⟩ := h
  exact op_notIn_seq pins s σ H _ _ v u Q I rx ry ⟨p, xs, rfl, h.elim (fun z => .inl (SqL.of z)) (fun z => .inr (SqT.of z)), f1, f2, q⟩
theorem Pl.inv {H : Hp} {v : V} {L : Pl} (h : Im H v L.d) : ∃ a s e xs, v = .ref a ∧ H a = some (.tup [.ref s, .ref e]) ∧ H s = some (.tup xs) ∧ Ims H xs (L.rows.map rowD) ∧ H e = some (.tup (L.ends.map fun (i : Nat) => V.int i)) := by
  obtain ⟨a, x, y, rfl, ha, h1, h2⟩ := Im.pair_inv h
  obtain ⟨s, xs, rfl, hs, hx⟩ := h1.tup_inv
  obtain ⟨e, ys, rfl, he, hy⟩ := h2.tup_inv
  have : ys = L.ends.map fun (i : Nat) => V.int i := by
    have q : (L.ends.map fun (e : Nat) => PyData.int e) = (L.ends.map fun (e : Nat) => (e : Int)).map PyData.int := by rw [List.map_map]; rfl
    rw [q] at hy
    rw [Ims.ints_inv hy, List.map_map]; rfl
  rw [this] at he
  exact ⟨a, s, e, xs, rfl, ha, hs, hx, he⟩
/-- a list or a tuple, its items -/
theorem Im.sq_inv {H : Hp} {v : V} {d : PyData} {ds : List PyData} (h : Im H v d) (e : d = .tuple ds ∨ d = .list ds) : ∃ a xs, v = .ref a ∧ (H a = some (.lst xs) ∨ H a = some (.tup xs)) ∧ Ims H xs ds := by
  rcases e with rfl | rfl
  · obtain ⟨a, xs, rfl, h1, h2⟩ := h.tup_inv
    exact ⟨a, xs, rfl, .inr h1, h2⟩
  · cases h with
    | lst h1 h2 => exact ⟨_, _, rfl, .inl h1, h2⟩
theorem ne_int (a b : Int) : (!decide (V.int a = V.int b)) = !decide (a = b) := by
  by_cases h : a = b
  · rw [h]; simp
  · rw [decide_eq_false h, decide_eq_false (fun e => h (V.int.inj e))]
section
variable {P : Program} {w : World} {K : PySem.W.Frag} {mg : Str → Option Value} {base : Heap}
def spLisint : Sp := fun vs H Q _ => ∃ v d, vs = [v] ∧ Im H v d ∧ Q (.bl (isIntD d)) H
theorem ok_lisint (T : Fx K mg) : FnOk P w K mg base CX0 1 T.a_lisint T.d_lisint ["_law_thing"] spLisint := by
  refine T.F_lisint.ok sc_lisint (fun vs H Q E h => ?_) (fun cdv A outer s H vs Q E hr h => ?_)
  · obtain ⟨v, d, rfl, _⟩ := h; rfl
  obtain ⟨v, d, rfl, hd, k⟩ := h
  refine ⟨_, (pss_one (ps_ret (pe_and (pe_callB (cr_is kit_I) (by rfl) T.z_isinstance (by decide +kernel) (pa_cons (pv 0) (pa_cons (pe_bltn (v := .ty "int") (u := .type "int") (by rfl) T.z_int (by decide +kernel) rfl) pa_nil))) (pe_one (pe_not (pe_callB (cr_is kit_B) (by rfl) T.z_isinstance (by decide +kernel) (pa_cons (pv 0) (pa_cons (pe_bltn (v := .ty "bool") (u := .type "bool") (by rfl) T.z_bool (by decide +kernel) rfl) pa_nil)))))))), ?_⟩
  refine ⟨_, rfl, v, d, rfl, hd, _, rfl, ?_⟩
  cases hd with
  | int n => exact iteT ⟨_, rfl, _, .int n, rfl, .int n, _, rfl, k⟩
  | bl b => exact iteT ⟨_, rfl, _, .bool b, rfl, .bl b, _, rfl, k⟩
  | non => exact iteF k
  | str x => exact iteF k
  | tup e t => exact iteF k
  | lst e t => exact iteF k
def spInform : Sp := fun vs H Q _ => ∃ (v1 v2 v : V) (d : PyData) (L M : Pl), vs = [v1, v2, v] ∧ Im H v1 L.d ∧ Im H v2 M.d ∧ Im H v d ∧ ∀ H', Same H H' → Q (.bl (formT L.rows.length M.rows.length (tupd d)).isSome) H'
theorem form_seq {n m : Nat} {d d1 d2 : PyData} (h : d = .tuple [d1, d2] ∨ d = .list [d1, d2]) : (formT n m (tupd d)).isSome = match d1, d2 with
    | .int a, .int b => inR n m a b
    | _, _ => false := by
  have e : tupd d = .tuple [tupd d1, tupd d2] := by rcases h with rfl | rfl <;> rfl
  rw [e]
  cases d1 <;> cases d2 <;> simp [formT, tupd]
  split <;> simp_all
theorem form_no {n m : Nat} {d : PyData} (h : ∀ ds, d ≠ .tuple ds ∧ d ≠ .list ds) : formT n m (tupd d) = none := by
  cases d with
  | tuple xs => exact absurd rfl (h xs).1
  | list xs => exact absurd rfl (h xs).2
  | _ => rfl
theorem form_len {n m : Nat} {d : PyData} {ds : List PyData} (h : d = .tuple ds ∨ d = .list ds) (hl : ds.length ≠ 2) : formT n m (tupd d) = none := by
  have e : tupd d = .tuple (tupds ds) := by rcases h with rfl | rfl <;> rfl
  rw [e, tupds_map]
  unfold formT
  split
  · rename_i a b he
    have q := congrArg (fun z : PyData => match z with | .tuple l => l.length | _ => 0) he
    simp at q
    exact absurd q hl
  · rfl
theorem ok_inform (T : Fx K mg) : FnOk P w K mg base CX0 2 T.a_inform T.d_inform ["_law_one", "_law_two_here", "_law_row"] spInform := by
  refine T.F_inform.ok sc_inform (fun vs H Q E h => ?_) (fun cdv A outer s H vs Q E hr h => ?_)
  · obtain ⟨v1, v2, v, d, L, M, rfl, _⟩ := h; rfl
  obtain ⟨v1, v2, v, d, L, M, rfl, h1, h2, hd, k⟩ := h
  obtain ⟨a1, b1, e1, x1, rfl, p1, p2, p3, p4⟩ := Pl.inv h1
  obtain ⟨a2, b2, e2, x2, rfl, q1, q2, q3, q4⟩ := Pl.inv h2
  have l1 : x1.length = L.rows.length := by rw [p3.len, List.length_map]
  have l2 : x2.length = M.rows.length := by rw [q3.len, List.length_map]
  refine ⟨_, (pss_cons (ps_if (PW.pt (pw_or (pt_not (pt_val (pe_callB (cr_is2 kit_T kit_L) (by rfl) T.z_isinstance (by decide +kernel) (pa_cons (pv 2) (pa_cons (pe_tup (pa_cons (pe_bltn (v := .ty "tuple") (u := .type "tuple") (by rfl) T.z_tuple (by decide +kernel) rfl) (pa_cons (pe_bltn (v := .ty "list") (u := .type "list") (by rfl) T.z_list (by decide +kernel) rfl) pa_nil))) pa_nil))))) (pw_or1 (pt_cmpR op_ne (pe_callB call_len_seq (by rfl) T.z_len (by decide +kernel) (pa_cons (pv 2) pa_nil)) pe_int (nomark _)))))
      (pss_one (ps_ret pe_bl))
      pss_nil)
    (pss_cons (ps_if (PW.pt (pw_or (pt_not (pt_val (pe_call (ok_lisint T) (hr.mono (by decide)) (by rfl) T.g_lisint T.F_lisint.kp T.b_lisint .nil pass0 (pa_cons (pe_ix ix_lt (pv 2) pe_int (fun _ _ => rfl)) pa_nil)))) (pw_or1 (pt_not (pt_val (pe_call (ok_lisint T) (hr.mono (by decide)) (by rfl) T.g_lisint T.F_lisint.kp T.b_lisint .nil pass0 (pa_cons (pe_ix ix_lt (pv 2) pe_int (fun _ _ => rfl)) pa_nil)))))))
      (pss_one (ps_ret pe_bl))
      pss_nil)
    (pss_one (ps_ret (pe_and (pe_chain op_le op_lt pe_int (pe_ix ix_lt (pv 2) pe_int (fun _ _ => rfl)) (pe_callB call_len_seq (by rfl) T.z_len (by decide +kernel) (pa_cons (pe_ix ix_tup (pv 0) pe_int (fun _ _ => rfl)) pa_nil))) (pe_one (pe_chain op_le op_lt pe_int (pe_ix ix_lt (pv 2) pe_int (fun _ _ => rfl)) (pe_callB call_len_seq (by rfl) T.z_len (by decide +kernel) (pa_cons (pe_ix ix_tup (pv 1) pe_int (fun _ _ => rfl)) pa_nil))))))))), ?_⟩
  refine ⟨_, rfl, sz2, fun t nt => ⟨v, t, d, rfl, upd_same, hd.mono (same_new nt), _, rfl, ?_⟩⟩
  have s1 := same_new (o := .tup [.ty "tuple", .ty "list"]) nt
  generalize upd H t (.tup [.ty "tuple", .ty "list"]) = H1 at s1
  by_cases hsq : ∃ ds, d = .tuple ds ∨ d = .list ds
  · obtain ⟨ds, hds⟩ := hsq
    have ek : (isTu d || isLi d) = true := by rcases hds with rfl | rfl <;> rfl
    rw [ek]
    obtain ⟨a, xs, rfl, ha, hx⟩ := (hd.mono s1).sq_inv hds
    have hln : (SqL K H1 a xs) ∨ (SqT K H1 a xs) := ha.elim (fun z => .inl (SqL.of z)) fun z => .inr (SqT.of z)
    refine iteF ⟨_, rfl, a, xs, rfl, hln, rfl, _, rfl, ?_⟩
    rw [ne_int]
    by_cases h2l : xs.length = 2
    · rw [h2l, decide_eq_true (show ((2 : Nat) : Int) = 2 by rfl)]
      refine iteF ?_
      obtain ⟨x, y, rfl⟩ : ∃ x y, xs = [x, y] := by
        match xs, h2l with
        | [x, y], _ => exact ⟨x, y, rfl⟩
      obtain ⟨d1, d2, rfl, g1, g2⟩ : ∃ d1 d2, ds = [d1, d2] ∧ Im H1 x d1 ∧ Im H1 y d2 := by
        cases hx with
        | cons g1 h => cases h with
          | cons g2 h => cases h; exact ⟨_, _, rfl, g1, g2⟩
      have k := k H1 s1
      rw [form_seq hds] at k
      refine ⟨_, rfl, a, _, 0, x, rfl, rfl, ha, atI_0, x, d1, rfl, g1, _, rfl, ?_⟩
      cases hd1 : isIntD d1 with
      | false =>
        refine iteT ?_
        cases d1 <;> first | exact k | cases hd1
      | true =>
        refine iteF ⟨_, rfl, a, _, 1, y, rfl, rfl, ha, atI_1, y, d2, rfl, g2, _, rfl, ?_⟩
        cases hd2 : isIntD d2 with
        | false =>
          refine iteT ?_
          cases d1 <;> first | (cases d2 <;> first | exact k | cases hd2) | cases hd1
        | true =>
          refine iteF ?_
          obtain ⟨i, rfl⟩ : ∃ i, d1 = .int i := by cases d1 <;> first | exact ⟨_, rfl⟩ | cases hd1
          obtain ⟨j, rfl⟩ : ∃ j, d2 = .int j := by cases d2 <;> first | exact ⟨_, rfl⟩ | cases hd2
          cases g1.int_inv
          cases g2.int_inv
          have k : Q (.bl (inR L.rows.length M.rows.length i j)) H1 := k
          refine ⟨_, rfl, a, _, 0, _, rfl, rfl, ha, atI_0, _, _, rfl, rfl, _, rfl, ?_⟩
          have p1 := s1 _ _ p1
          have p2 := s1 _ _ p2
          have q1 := s1 _ _ q1
          have q2 := s1 _ _ q2
          by_cases c1 : 0 ≤ i
          · rw [decide_eq_true c1]
            refine iteT ⟨_, rfl, a1, _, 0, _, rfl, rfl, SqT.of p1, atI_0, b1, x1, rfl, .inr (SqT.of p2), _, _, rfl, rfl, _, rfl, ?_⟩
            rw [l1]
            by_cases c2 : i < (L.rows.length : Int)
            · rw [decide_eq_true c2]
              refine iteT ⟨_, rfl, a, _, 1, _, rfl, rfl, ha, atI_1, _, _, rfl, rfl, _, rfl, ?_⟩
              by_cases c3 : 0 ≤ j
              · rw [decide_eq_true c3]
                refine iteT ⟨_, rfl, a2, _, 0, _, rfl, rfl, SqT.of q1, atI_0, b2, x2, rfl, .inr (SqT.of q2), _, _, rfl, rfl, ?_⟩
                rw [l2]
                have e : inR L.rows.length M.rows.length i j = decide (j < (M.rows.length : Int)) := by
                  rw [Bool.eq_iff_iff, inR_iff, decide_eq_true_eq]; omega
                rw [e] at k
                exact k
              · rw [decide_eq_false c3]
                have e : inR L.rows.length M.rows.length i j = false := by rw [Bool.eq_false_iff, Ne, inR_iff]; omega
                rw [e] at k
                exact iteF k
            · rw [decide_eq_false c2]
              have e : inR L.rows.length M.rows.length i j = false := by rw [Bool.eq_false_iff, Ne, inR_iff]; omega
              rw [e] at k
              exact iteF k
          · rw [decide_eq_false c1]
            have e : inR L.rows.length M.rows.length i j = false := by rw [Bool.eq_false_iff, Ne, inR_iff]; omega
            rw [e] at k
            exact iteF ⟨_, rfl, iteF k⟩
    · rw [decide_eq_false (by omega)]
      refine iteT ?_
      have k := k H1 s1
      rw [form_len hds (by rw [← hx.len]; exact h2l)] at k
      exact k
  · have ek : (isTu d || isLi d) = false := by cases d <;> first | rfl | exact absurd ⟨_, .inl rfl⟩ hsq | exact absurd ⟨_, .inr rfl⟩ hsq
    rw [ek]
    refine iteT (iteT ?_)
    have k := k H1 s1
    rw [form_no fun ds => ⟨fun e => hsq ⟨ds, .inl e⟩, fun e => hsq ⟨ds, .inr e⟩⟩] at k
    exact k
end
end Tk
set_option maxHeartbeats 4000000
/-! the law's looker -/
namespace Tk
open PySem L2
theorem form_inv {n m : Nat} {d : PyData} {nd : Node} (h : formT n m (tupd d) = some nd) : (d = .tuple [.int nd.1, .int nd.2] ∨ d = .list [.int nd.1, .int nd.2]) ∧ inR n m nd.1 nd.2 = true := by
  have h2 := formT_some h
  refine ⟨?_, h2.2⟩
  have e := h2.1
  unfold nodeD at e
  have go : ∀ xs : List PyData, tupds xs = [.int nd.1, .int nd.2] → xs = [.int nd.1, .int nd.2] := fun xs hx => by
    match xs, hx with
    | [a, b], hx =>
      simp only [tupds] at hx
      obtain ⟨h1, h3⟩ := List.cons.inj hx
      obtain ⟨h3, _⟩ := List.cons.inj h3
      have q : ∀ (d : PyData) (i : Int), tupd d = .int i → d = .int i := fun d i h => by cases d <;> first | exact h | (simp [tupd] at h)
      rw [q _ _ h1, q _ _ h3]
    | [], hx => simp [tupds] at hx
    | [a], hx => simp [tupds] at hx
    | a :: b :: c :: r, hx => simp [tupds] at hx
  cases d with
  | tuple xs => exact .inl (congrArg _ (go xs (by simpa [tupd] using e)))
  | list xs => exact .inr (congrArg _ (go xs (by simpa [tupd] using e)))
  | _ => simp [tupd] at e
theorem inV_ends (l : List Nat) (a : Int) (h : 0 ≤ a) : inV (.int a) (l.map fun (i : Nat) => V.int i) = decide (a.toNat ∈ l) := by
  unfold inV
  rw [Bool.eq_iff_iff, List.any_eq_true, decide_eq_true_eq]
  constructor
  · rintro ⟨y, hy, e⟩
    obtain ⟨i, hi, rfl⟩ := List.mem_map.mp hy
    have e : ((i : Nat) : Int) = a := by simpa [eqV] using e
    rw [← e]; simpa using hi
  · intro hi
    refine ⟨_, List.mem_map.mpr ⟨_, hi, rfl⟩, ?_⟩
    have : ((a.toNat : Nat) : Int) = a := by omega
    simp [eqV, this]
theorem flat_ends (l : List Nat) : (l.map fun (i : Nat) => V.int i).all flatV = true := by
  rw [List.all_eq_true]
  intro x hx
  obtain ⟨i, _, rfl⟩ := List.mem_map.mp hx
  rfl
theorem eqv_sgns : ∀ l m : List Nat, PyData.eqvAll (l.map sgn) (m.map sgn) = decide (l = m)
  | [], [] => by simp [PyData.eqvAll]
  | [], b :: m => by simp [PyData.eqvAll]
  | a :: l, [] => by simp [PyData.eqvAll]
  | a :: l, b :: m => by
    rw [List.map_cons, List.map_cons, PyData.eqvAll, eqv_sgn, eqv_sgns l m]
    by_cases h1 : a = b <;> by_cases h2 : l = m <;> simp [h1, h2]
theorem shaped_sgns {l : List Nat} (h : ∀ c ∈ l, c < 123) : SeqAt.shaped (.list (l.map sgn)) = true := by
  unfold SeqAt.shaped
  rw [Bool.and_eq_true]
  have h1 : PyData.canLayAll0 (l.map sgn) = true := by
    induction l with
    | nil => rfl
    | cons a l ih =>
      rw [List.map_cons, PyData.canLayAll0, ih fun c hc => h c (List.mem_cons_of_mem _ hc)]
      have := strOk_sg (h a (List.mem_cons_self ..))
      show (PyData.canLay0 (.str (sgS a)) && true) = true
      simp [PyData.canLay0, this]
  have h2 : PyData.depthAll (l.map sgn) = 0 := by
    clear h h1
    induction l with
    | nil => rfl
    | cons a l ih =>
      rw [List.map_cons, PyData.depthAll, ih]
      unfold sgn; simp [PyData.depth]
  refine ⟨by rw [PyData.canLay0]; exact h1, ?_⟩
  rw [PyData.depth, h2]
  decide
section
variable {P : Program} {w : World} {K : PySem.W.Frag} {mg : Str → Option Value} {base : Heap}
def spLooker : Sp := fun vs H Q _ => ∃ (v1 v2 : V) (a : Addr) (xs : List V) (ds : List PyData) (L M : Pl), vs = [v1, v2, .ref a] ∧ Im H v1 L.d ∧ Im H v2 M.d ∧ L.Ok ∧ M.Ok ∧ H a = some (.lst xs) ∧ Ims H xs ds ∧ ds.length ≤ 1000 ∧ ∀ H', Same H H' → Q (judV (jud L M (tupds ds))) H'
theorem ok_looker (T : Fx K mg) : FnOk P w K mg base CX0 3 T.a_looker T.d_looker ["_law_one", "_law_two_here", "_law_table"] spLooker := by
  refine T.F_looker.ok sc_looker (fun vs H Q E h => ?_) (fun cdv A outer s H vs Q E hr h => ?_)
  · obtain ⟨v1, v2, a, xs, ds, L, M, rfl, _⟩ := h; rfl
  obtain ⟨v1, v2, a, xs, ds, L, M, rfl, h1, h2, okL, okM, ha, hx, hl, k⟩ := h
  have hu := hu_of hr
  refine ⟨_, PSs.nox ((pss_cons (ps_set (i := 3) sc_looker.nd rfl (.inl rfl) pe_dnewT)
    (pss_cons (ps_for PassesOwn.never rfl (pi_list (pv 2)) (pg_name (i := 4) sc_looker.nd rfl (.inl rfl))
      (pss_one (ps_if (pt_val (pe_call (ok_inform T) (hr.mono (by decide)) (by rfl) T.g_inform T.F_inform.kp T.b_inform .nil pass0 (pa_cons (pv 0) (pa_cons (pv 1) (pa_cons (pv 4) pa_nil)))))
        (pss_one (ps_dput hu (pv 3) (pe_tup (pa_cons (pe_ix ix_lt (pv 4) pe_int (fun _ _ => rfl)) (pa_cons (pe_ix ix_lt (pv 4) pe_int (fun _ _ => rfl)) pa_nil))) pe_bl rfl))
        pss_nil)))
    (pss_cons (ps_if (pt_cmp (pc_dnotin hu (pe_tup (pa_cons pe_int (pa_cons pe_int pa_nil))) (pv 3)))
      (pss_one (ps_ret (pe_un un_neg pe_int)))
      pss_nil)
    (pss_cons (ps_for PassesOwn.never rfl (pi_range1 (by rfl) T.z_range (pa_cons (pe_callB call_len_seq (by rfl) T.z_len (by decide +kernel) (pa_cons (pv 2) pa_nil)) pa_nil)) (pg_name (i := 5) sc_looker.nd rfl (.inl rfl))
      (pss_cons (ps_if (pt_not (pt_val (pe_call (ok_inform T) (hr.mono (by decide)) (by rfl) T.g_inform T.F_inform.kp T.b_inform .nil pass0 (pa_cons (pv 0) (pa_cons (pv 1) (pa_cons (pe_ix ix_list (pv 2) (pv 5) (fun _ _ => rfl)) pa_nil))))))
        (pss_one (ps_ret (pv 5)))
        pss_nil)
      (pss_cons (ps_set (i := 6) sc_looker.nd rfl (.inl rfl) (pe_ix ix_tup (pe_ix ix_tup (pv 0) pe_int (fun _ _ => rfl)) (pe_ix ix_lt (pe_ix ix_list (pv 2) (pv 5) (fun _ _ => rfl)) pe_int (fun _ _ => rfl)) (fun _ _ => rfl)))
      (pss_cons (ps_set (i := 7) sc_looker.nd rfl (.inl rfl) (pe_ix ix_tup (pe_ix ix_tup (pv 1) pe_int (fun _ _ => rfl)) (pe_ix ix_lt (pe_ix ix_list (pv 2) (pv 5) (fun _ _ => rfl)) pe_int (fun _ _ => rfl)) (fun _ _ => rfl)))
      (pss_cons (ps_if (pt_cmpR op_ne (pe_cmpR op_in_seq (pe_ix ix_lt (pe_ix ix_list (pv 2) (pv 5) (fun _ _ => rfl)) pe_int (fun _ _ => rfl)) (pe_ix ix_tup (pv 0) pe_int (fun _ _ => rfl)) (by rfl)) (pe_cmpR op_in_seq (pe_ix ix_lt (pe_ix ix_list (pv 2) (pv 5) (fun _ _ => rfl)) pe_int (fun _ _ => rfl)) (pe_ix ix_tup (pv 1) pe_int (fun _ _ => rfl)) (by rfl)) (nomark _))
        (pss_one (ps_ret (pv 5)))
        pss_nil)
      (pss_cons (ps_if (pt_cmpR (op_neD hr.units) (pe_lc (own := [("_law_pair", 9)]) (by rfl) sc_looker.nd (pi_tup (pv 6)) (blkOk_by (own := [("_law_pair", 9)]) (N := ["_law_one", "_law_two_here", "_law_table", "_law_there", "_law_row", "_law_number", "_law_first", "_law_second", "_law_at", "_law_pair"]) (sc := defScope (top 45)) (by decide +kernel)) (fun _ _ _ _ _ => (pg_name (i := 9) sc_looker.nd rfl (.inl rfl))) (fun _ _ _ _ _ => pts_nil) (fun _ _ _ _ _ => (pe_ix ix_lt (pv 9) pe_int (fun _ _ => rfl)))) (pe_lc (own := [("_law_pair", 9)]) (by rfl) sc_looker.nd (pi_tup (pv 7)) (blkOk_by (own := [("_law_pair", 9)]) (N := ["_law_one", "_law_two_here", "_law_table", "_law_there", "_law_row", "_law_number", "_law_first", "_law_second", "_law_at", "_law_pair"]) (sc := defScope (top 45)) (by decide +kernel)) (fun _ _ _ _ _ => (pg_name (i := 9) sc_looker.nd rfl (.inl rfl))) (fun _ _ _ _ _ => pts_nil) (fun _ _ _ _ _ => (pe_ix ix_lt (pv 9) pe_int (fun _ _ => rfl)))) (nomark _))
        (pss_one (ps_ret (pv 5)))
        pss_nil)
      (pss_one (ps_for PassesOwn.never rfl (pi_range1 (by rfl) T.z_range (pa_cons (pe_callB call_len_seq (by rfl) T.z_len (by decide +kernel) (pa_cons (pv 6) pa_nil)) pa_nil)) (pg_name (i := 8) sc_looker.nd rfl (.inl rfl))
        (pss_one (ps_if (pt_cmp (pc_dnotin hu (pe_tup (pa_cons (pe_ix ix_tup (pe_ix ix_tup (pv 6) (pv 8) (fun _ _ => rfl)) pe_int (fun _ _ => rfl)) (pa_cons (pe_ix ix_tup (pe_ix ix_tup (pv 7) (pv 8) (fun _ _ => rfl)) pe_int (fun _ _ => rfl)) pa_nil))) (pv 3)))
          (pss_one (ps_ret (pv 5)))
          pss_nil))))))))))
    (pss_one (ps_ret pe_non))))))), ?_⟩
  intro aT nT
  have xl : xs.length = ds.length := hx.len
  have sH1 : Same H (hide [aT] H) := fun b o e => by rw [hide_out (by simpa using ne_of_none e nT)]; exact e
  have g0 : hide [aT] (upd H aT (.dT [])) = hide [aT] H := hide_mut (by simp)
  refine ⟨_, rfl, a, rfl, ⟨_, SqL.of ((upd_ne (ne_of_none ha nT)).trans ha)⟩, for_it (walk_list (xs := xs)) (fun i σ H2 => ∃ (o4 o5 o6 o7 o8 o9 : Option V) (kvs : List (List Key × V)), σ = [some v1, some v2, some (.ref a), some (.ref aT), o4, o5, o6, o7, o8, o9] ∧ H2 aT = some (.dT kvs) ∧ Same H (hide [aT] H2) ∧
    KeyS kvs (thereT L M (tupds (ds.take i))) ∧ kvs.length ≤ i) ⟨_, _, _, _, _, _, [], rfl, upd_same, by rw [g0]; exact sH1, KeyS.nil, Nat.le_refl _⟩ (fun i σ H2 _ h => ?_) (fun i x σ H2 H2' hi h y => ?_) fun σ H2 h => ?_⟩
  · obtain ⟨_, _, _, _, _, _, _, _, _, h, _⟩ := h
    exact SqL.of (hide_same _ _ _ _ (h _ _ ha))
  · obtain ⟨o4, o5, o6, o7, o8, o9, kvs, rfl, hT, sB, kS, kl⟩ := h
    obtain ⟨rfl, hx2⟩ := y
    obtain ⟨di, hdi, him⟩ := hx.get hx2
    have s2 : Same H H2' := sB.trans (hide_same _ _)
    have et : thereT L M (tupds (ds.take (i + 1))) = thereT L M (tupds (ds.take i)) ++ (formT L.rows.length M.rows.length (tupd di)).toList := by
      unfold thereT
      rw [tupds_map, tupds_map, List.take_add_one, hdi, List.map_append, List.filterMap_append]
      rw [Option.toList_some, List.map_cons, List.map_nil, List.filterMap_cons]
      cases formT L.rows.length M.rows.length (tupd di) <;> rfl
    refine ⟨_, rfl, _, rfl, _, rfl, v1, v2, x, di, L, M, rfl, h1.mono s2, h2.mono s2, him.mono s2, fun H3 s3 => ⟨_, rfl, ?_⟩⟩
    have hT3 := s3 _ _ hT
    have sB3 := sB.trans (hide_mono (L := [aT]) s3)
    rw [et]
    cases hf : formT L.rows.length M.rows.length (tupd di) with
    | none => exact iteF ⟨_, _, _, _, _, _, kvs, rfl, hT3, sB3, by simpa using kS, by omega⟩
    | some nd =>
      obtain ⟨hdd, _⟩ := form_inv hf
      obtain ⟨b, ys, rfl, hb, hy⟩ := (him.mono (s2.trans s3)).sq_inv hdd
      obtain ⟨y1, r, rfl, g1, hy⟩ := hy.cons_inv
      obtain ⟨y2, r, rfl, g2, hy⟩ := hy.cons_inv
      cases hy.nil_inv
      cases g1.int_inv
      cases g2.int_inv
      refine iteT ⟨_, rfl, _, rfl, b, _, 0, _, rfl, rfl, hb, atI_0, _, rfl, b, _, 1, _, rfl, rfl, hb, atI_1, sz2, fun t nt => ?_⟩
      have s4 := same_new (o := .tup [.int nd.1, .int nd.2]) nt
      refine ⟨aT, _, rfl, DPut.t (k := keyN nd) (s4 _ _ hT3) upd_same (szlt (by omega)), ?_⟩
      exact ⟨_, _, _, _, _, _, _, rfl, upd_same, by rw [hide_mut (by simp)]; exact sB3.trans (hide_mono s4), kS.put nd _, Nat.le_trans (putK_len _ _ _) (by omega)⟩
  · obtain ⟨o4, o5, o6, o7, o8, o9, kvs, rfl, hT, sB, kS, kl⟩ := h
    rw [xl, List.take_length] at kS
    have s2 : Same H H2 := sB.trans (hide_same _ _)
    have hrl : (tupds ds).length = ds.length := by rw [tupds_map, List.length_map]
    have hat : ∀ {i : Nat} {d : PyData}, ds[i]? = some d → (tupds ds)[i]? = some (tupd d) := fun {i d} h => by rw [tupds_map, List.getElem?_map, h]; rfl
    refine ⟨sz2, fun t nt => ?_⟩
    have s3 := same_new (o := .tup [.int 0, .int 0]) nt
    refine ⟨_, rfl, aT, _, rfl, DGet.t (k := keyN (0, 0)) (s3 _ _ hT) upd_same, _, rfl, ?_⟩
    rw [kS.some]
    by_cases h00 : (0, 0) ∈ thereT L M (tupds ds)
    case neg =>
      rw [decide_eq_false h00]
      refine iteT ⟨_, rfl, ?_⟩
      have := k _ (s2.trans s3)
      rw [jud_not h00] at this
      exact this
    rw [decide_eq_true h00]
    refine iteF ?_
    have hT := s3 _ _ hT
    have s03 := s2.trans s3
    generalize upd H2 t (.tup [.int 0, .int 0]) = H3 at hT s03
    have hxs3 : (xs.length : Int) < 2 ^ 62 := by have : xs.length ≤ 1000 := by omega
                                                 omega
    refine ⟨_, rfl, a, xs, rfl, .inl (SqL.of (s03 _ _ ha)), _, rfl, by omega, hxs3, for_range (lo := 0) (n := xs.length) (fun i σ H4 => ∃ (o4 o5 o6 o7 o8 o9 : Option V), σ = [some v1, some v2, some (.ref a), some (.ref aT), o4, o5, o6, o7, o8, o9] ∧ Same H3 H4 ∧ ∀ j, j < i → ∀ e, (tupds ds)[j]? = some e → badT L M (thereT L M (tupds ds)) e = false)
      ⟨_, _, _, _, _, _, rfl, fun _ _ e => e, fun j hj => absurd hj (Nat.not_lt_zero _)⟩ (fun i σ H4 hi h => ?_) fun σ H4 h => ?_⟩
    · obtain ⟨o4, o5, o6, o7, o8, o9, rfl, s4, hbad⟩ := h
      have e0 : (0 : Int) + ((i : Nat) : Int) = (i : Int) := by omega
      rw [e0]
      have hx2 : xs[i]? = some xs[i] := List.getElem?_eq_getElem hi
      generalize xs[i] = x at hx2
      obtain ⟨di, hdi, him⟩ := hx.get hx2
      have s6 : Same H H4 := s03.trans s4
      have kk : ∀ {H' : Hp}, Same H4 H' → badT L M (thereT L M (tupds ds)) (tupd di) = true → Q (.int (i : Nat)) H' := fun {H'} s hb => by
        have := k H' (s6.trans s)
        rw [jud_at h00 (hat hdi) hb hbad] at this
        exact this
      refine ⟨_, rfl, _, rfl, _, rfl, _, rfl, a, xs, _, _, rfl, rfl, SqL.of (s6 _ _ ha), atI_nat hx2, v1, v2, x, di, L, M, rfl, h1.mono s6, h2.mono s6, him.mono s6, fun H5 s5 => ⟨_, rfl, ?_⟩⟩
      cases hf : formT L.rows.length M.rows.length (tupd di) with
      | none =>
        refine iteT ⟨_, rfl, kk s5 ?_⟩
        unfold badT; rw [hf]
      | some nd =>
        obtain ⟨hdd, hr2⟩ := form_inv hf
        have hr3 := inR_iff.mp hr2
        have s06 := s6.trans s5
        obtain ⟨b, ys, rfl, hb, hy⟩ := (him.mono s06).sq_inv hdd
        obtain ⟨y1, r, rfl, g1, hy⟩ := hy.cons_inv
        obtain ⟨y2, r, rfl, g2, hy⟩ := hy.cons_inv
        cases hy.nil_inv
        cases g1.int_inv
        cases g2.int_inv
        obtain ⟨a1, b1, e1, x1, rfl, p1, p2, p3, p4⟩ := Pl.inv (h1.mono s06)
        obtain ⟨a2, b2, e2, x2, rfl, q1, q2, q3, q4⟩ := Pl.inv (h2.mono s06)
        have haL := SqL.of (K := K) (s06 _ _ ha)
        -- the two rows
        have hn1 : nd.1.toNat < L.rows.length := by omega
        have hn2 : nd.2.toNat < M.rows.length := by omega
        have er1 : L.rows[nd.1.toNat]? = some (L.rowOf nd.1) := by
          unfold Pl.rowOf
          rw [if_neg (by omega), List.getD_eq_getElem?_getD, List.getElem?_eq_getElem hn1]; rfl
        have er2 : M.rows[nd.2.toNat]? = some (M.rowOf nd.2) := by
          unfold Pl.rowOf
          rw [if_neg (by omega), List.getD_eq_getElem?_getD, List.getElem?_eq_getElem hn2]; rfl
        obtain ⟨w1, hw1, iw1⟩ := p3.at_ (i := nd.1.toNat) (d := rowD (L.rowOf nd.1)) (by rw [List.getElem?_map, er1]; rfl)
        obtain ⟨w2, hw2, iw2⟩ := q3.at_ (i := nd.2.toNat) (d := rowD (M.rowOf nd.2)) (by rw [List.getElem?_map, er2]; rfl)
        have et1 : nd.1 = (nd.1.toNat : Int) := by omega
        have et2 : nd.2 = (nd.2.toNat : Int) := by omega
        have at1 : atI x1 nd.1 = some w1 := by rw [et1]; exact atI_nat hw1
        have at2 : atI x2 nd.2 = some w2 := by rw [et2]; exact atI_nat hw2
        obtain ⟨c1, z1, rfl, hc1, iz1⟩ := iw1.tup_inv
        obtain ⟨c2, z2, rfl, hc2, iz2⟩ := iw2.tup_inv
        have eb : badT L M (thereT L M (tupds ds)) (tupd di) = ((isEnd L nd.1 != isEnd M nd.2) || (nx L M nd).any fun p => decide (p.2 ∉ thereT L M (tupds ds))) := by unfold badT; rw [hf]
        refine iteF ⟨_, rfl, a1, _, 0, _, rfl, rfl, SqT.of p1, atI_0, _, rfl, _, rfl, a, xs, _, _, rfl, rfl, haL, atI_nat hx2, b, _, 0, _, rfl, rfl, hb, atI_0, b1, x1, _, _, rfl, rfl, SqT.of p2, at1, ?_⟩
        refine ⟨_, rfl, a2, _, 0, _, rfl, rfl, SqT.of q1, atI_0, _, rfl, _, rfl, a, xs, _, _, rfl, rfl, haL, atI_nat hx2, b, _, 1, _, rfl, rfl, hb, atI_1, b2, x2, _, _, rfl, rfl, SqT.of q2, at2, ?_⟩
        refine ⟨_, rfl, _, rfl, a, xs, _, _, rfl, rfl, haL, atI_nat hx2, b, _, 0, _, rfl, rfl, hb, atI_0, _, rfl, a1, _, 1, _, rfl, rfl, SqT.of p1, atI_1, e1, _, rfl, .inr (SqT.of p4), rfl, flat_ends _, ?_⟩
        refine ⟨_, rfl, _, rfl, a, xs, _, _, rfl, rfl, haL, atI_nat hx2, b, _, 1, _, rfl, rfl, hb, atI_1, _, rfl, a2, _, 1, _, rfl, rfl, SqT.of q1, atI_1, e2, _, rfl, .inr (SqT.of q4), rfl, flat_ends _, rfl, _, rfl, ?_⟩
        have ei1 : inV (.int nd.1) (L.ends.map fun (i : Nat) => V.int i) = isEnd L nd.1 := by rw [inV_ends _ _ hr3.1.1]; unfold isEnd; rw [decide_eq_true hr3.1.1]; rfl
        have ei2 : inV (.int nd.2) (M.ends.map fun (i : Nat) => V.int i) = isEnd M nd.2 := by rw [inV_ends _ _ hr3.2.1]; unfold isEnd; rw [decide_eq_true hr3.2.1]; rfl
        have ee : (!decide (V.bl (if false = true then !inV (.int nd.1) (L.ends.map fun (i : Nat) => V.int i) else inV (.int nd.1) (L.ends.map fun (i : Nat) => V.int i)) = V.bl (if false = true then !inV (.int nd.2) (M.ends.map fun (i : Nat) => V.int i) else inV (.int nd.2) (M.ends.map fun (i : Nat) => V.int i)))) = (isEnd L nd.1 != isEnd M nd.2) := by
          rw [if_neg Bool.false_ne_true, if_neg Bool.false_ne_true, ei1, ei2, ne_flags]
        rw [ee]
        cases hE : (isEnd L nd.1 != isEnd M nd.2) with
        | true =>
          refine iteT ⟨_, rfl, kk s5 ?_⟩
          rw [eb, hE]; rfl
        | false =>
          rw [hE, Bool.false_or] at eb
          refine iteF ?_
          generalize hr1 : L.rowOf nd.1 = r1 at *
          generalize hr2r : M.rowOf nd.2 = r2 at *
          have iz1 : Ims H5 z1 (r1.map fun p => .tuple [sgn p.1, .int p.2]) := iz1
          have iz2 : Ims H5 z2 (r2.map fun p => .tuple [sgn p.1, .int p.2]) := iz2
          have zl1 : z1.length = r1.length := by rw [iz1.len, List.length_map]
          have zl2 : z2.length = r2.length := by rw [iz2.len, List.length_map]
          have rr1 : (r1.map (·.1)).Pairwise (· < ·) := by rw [← hr1]; exact rowOf_rise okL hr3.1.2
          have rr2 : (r2.map (·.1)).Pairwise (· < ·) := by rw [← hr2r]; exact rowOf_rise okM hr3.2.2
          have f1 : r1.length ≤ 123 := by rw [← hr1]; exact row_few okL hr3.1.2
          have f2 : r2.length ≤ 123 := by rw [← hr2r]; exact row_few okM hr3.2.2
          have sg1 : ∀ c ∈ r1.map (·.1), c < 123 := fun c hc => by
            obtain ⟨p, hp, rfl⟩ := List.mem_map.mp hc
            rw [← hr1] at hp
            exact okSign_lt (rowOf_sign okL hr3.1.2 p hp).1
          have sg2 : ∀ c ∈ r2.map (·.1), c < 123 := fun c hc => by
            obtain ⟨p, hp, rfl⟩ := List.mem_map.mp hc
            rw [← hr2r] at hp
            exact okSign_lt (rowOf_sign okM hr3.2.2 p hp).1
          refine ⟨_, rfl, c1, rfl, ⟨_, SqT.of hc1⟩, fun D1 nD1 => lc_it (walk_tup (xs := z1)) (PvIm H5 D1 fun k => (r1[k]?).map fun p => sgn p.1) (PvIm.zero nD1) (fun i H' _ pv => SqT.of (pv.base _ _ hc1)) (fun i x H' H'' hi2 pv y => ?_) fun H7 pv7 => ?_⟩
          · obtain ⟨rfl, hx9⟩ := y
            obtain ⟨di9, hd9, im9⟩ := iz1.get hx9
            rw [List.getElem?_map] at hd9
            have hi9 : i < r1.length := by rw [← zl1]; exact hi2
            have hp9 : r1[i]? = some r1[i] := List.getElem?_eq_getElem hi9
            generalize r1[i] = p9 at hp9
            rw [hp9] at hd9
            cases hd9
            obtain ⟨b9, u1, u2, rfl, hb9, j1, j2⟩ := im9.pair_inv
            cases j1.str_inv
            exact ⟨rfl, _, rfl, b9, _, 0, _, rfl, rfl, .inr (pv.base _ _ hb9), atI_0, pv.push (fun _ _ e => e) rfl (d := sgn p9.1) (by show (r1[i]?).map _ = _; rw [hp9]; rfl) (.str _) (by omega)⟩
          have s57 := pv7.base
          obtain ⟨_, acc1, hacc1, _, iacc1⟩ := pv7
          rw [zl1, map_range] at iacc1
          refine ⟨_, rfl, c2, rfl, ⟨_, SqT.of (s57 _ _ hc2)⟩, fun D2 nD2 => lc_it (walk_tup (xs := z2)) (PvIm H7 D2 fun k => (r2[k]?).map fun p => sgn p.1) (PvIm.zero nD2) (fun i H' _ pv => SqT.of (pv.base _ _ (s57 _ _ hc2))) (fun i x H' H'' hi2 pv y => ?_) fun H8 pv8 => ?_⟩
          · obtain ⟨rfl, hx9⟩ := y
            obtain ⟨di9, hd9, im9⟩ := iz2.get hx9
            rw [List.getElem?_map] at hd9
            have hi9 : i < r2.length := by rw [← zl2]; exact hi2
            have hp9 : r2[i]? = some r2[i] := List.getElem?_eq_getElem hi9
            generalize r2[i] = p9 at hp9
            rw [hp9] at hd9
            cases hd9
            obtain ⟨b9, u1, u2, rfl, hb9, j1, j2⟩ := im9.pair_inv
            cases j1.str_inv
            exact ⟨rfl, _, rfl, b9, _, 0, _, rfl, rfl, .inr (pv.base _ _ (s57 _ _ hb9)), atI_0, pv.push (fun _ _ e => e) rfl (d := sgn p9.1) (by show (r2[i]?).map _ = _; rw [hp9]; rfl) (.str _) (by omega)⟩
          have s78 := pv8.base
          obtain ⟨_, acc2, hacc2, _, iacc2⟩ := pv8
          rw [zl2, map_range] at iacc2
          have em1 : (r1.map fun p => sgn p.1) = (r1.map (·.1)).map sgn := by rw [List.map_map]; rfl
          have em2 : (r2.map fun p => sgn p.1) = (r2.map (·.1)).map sgn := by rw [List.map_map]; rfl
          rw [em1] at iacc1
          rw [em2] at iacc2
          have s58 := s57.trans s78
          refine ⟨.list ((r1.map (·.1)).map sgn), .list ((r2.map (·.1)).map sgn), Im.dp (.lst (s78 _ _ hacc1) ((iacc1.mono (hide_same _ _)).mono s78)), Im.dp (.lst hacc2 (iacc2.mono (hide_same _ _))), shaped_sgns sg1, shaped_sgns sg2, _, rfl, ?_⟩
          rw [PyData.eqv, eqv_sgns]
          have hS : ∀ x ∈ thereT L M (tupds ds), 0 ≤ x.1 ∧ 0 ≤ x.2 := fun x hx => by
            have := inR_iff.mp (thereT_in hx); omega
          have enx : nx L M nd = nxR r1 r2 := by unfold nx; rw [hr1, hr2r]
          rw [enx, steps_look rr1 rr2 hS] at eb
          by_cases hsg : r1.map (·.1) = r2.map (·.1)
          · rw [decide_eq_true hsg]
            rw [decide_eq_false (fun h => h hsg), Bool.false_or] at eb
            have hll : r1.length = r2.length := by simpa using congrArg List.length hsg
            refine iteF ⟨_, rfl, c1, z1, rfl, .inr (SqT.of (s58 _ _ hc1)), _, rfl, by omega, by omega, for_range (lo := 0) (n := z1.length) (fun j σ H9 => ∃ o8 o9, σ = [some (.ref a1), some (.ref a2), some (.ref a), some (.ref aT), o4, some (.int (i : Nat)), some (.ref c1), some (.ref c2), o8, o9] ∧ Same H8 H9 ∧ ∀ z ∈ (r1.zip r2).take j, (((z.1.2 : Nat) : Int), ((z.2.2 : Nat) : Int)) ∈ thereT L M (tupds ds))
              ⟨_, _, rfl, fun _ _ e => e, fun z hz => by simp at hz⟩ (fun j σ H9 hj h => ?_) fun σ H9 h => ?_⟩
            · obtain ⟨o8, o9, rfl, s9, hall⟩ := h
              have e0 : (0 : Int) + ((j : Nat) : Int) = (j : Int) := by omega
              rw [e0]
              have hj1 : j < r1.length := by omega
              have hj2 : j < r2.length := by omega
              have g1 : r1[j]? = some r1[j] := List.getElem?_eq_getElem hj1
              have g2 : r2[j]? = some r2[j] := List.getElem?_eq_getElem hj2
              have ez : (r1.zip r2)[j]? = some (r1[j], r2[j]) := by rw [List.getElem?_zip_eq_some]; exact ⟨g1, g2⟩
              have et : (r1.zip r2).take (j + 1) = (r1.zip r2).take j ++ [(r1[j], r2[j])] := by rw [List.take_add_one, ez]; rfl
              generalize r1[j] = p1' at g1 ez et
              generalize r2[j] = p2' at g2 ez et
              obtain ⟨y1, hy1, iy1⟩ := iz1.at_ (i := j) (d := .tuple [sgn p1'.1, .int p1'.2]) (by rw [List.getElem?_map, g1]; rfl)
              obtain ⟨y2, hy2, iy2⟩ := iz2.at_ (i := j) (d := .tuple [sgn p2'.1, .int p2'.2]) (by rw [List.getElem?_map, g2]; rfl)
              obtain ⟨d1, u1, u2, rfl, hd1, _, ju⟩ := iy1.pair_inv
              obtain ⟨d2, u3, u4, rfl, hd2, _, jv⟩ := iy2.pair_inv
              cases ju.int_inv
              cases jv.int_inv
              have s59 := s58.trans s9
              refine ⟨_, rfl, _, rfl, c1, z1, _, _, rfl, rfl, SqT.of (s59 _ _ hc1), atI_nat hy1, d1, _, 1, _, rfl, rfl, SqT.of (s59 _ _ hd1), atI_1, ?_⟩
              refine ⟨_, rfl, _, rfl, c2, z2, _, _, rfl, rfl, SqT.of (s59 _ _ hc2), atI_nat hy2, d2, _, 1, _, rfl, rfl, SqT.of (s59 _ _ hd2), atI_1, sz2, fun t nt => ?_⟩
              have s10 := same_new (o := .tup [.int (p1'.2 : Nat), .int (p2'.2 : Nat)]) nt
              have hT10 := s10 _ _ (s59 _ _ (s5 _ _ (s4 _ _ hT)))
              refine ⟨_, rfl, aT, _, rfl, DGet.t (k := keyN ((p1'.2 : Nat), (p2'.2 : Nat))) hT10 upd_same, _, rfl, ?_⟩
              rw [kS.some]
              by_cases hin : (((p1'.2 : Nat) : Int), ((p2'.2 : Nat) : Int)) ∈ thereT L M (tupds ds)
              · rw [decide_eq_true hin]
                refine iteF ⟨_, _, rfl, s9.trans s10, fun z hz => ?_⟩
                rw [et] at hz
                rcases List.mem_append.mp hz with hz | hz
                · exact hall z hz
                · have : z = (p1', p2') := by simpa using hz
                  rw [this]; exact hin
              · rw [decide_eq_false hin]
                refine iteT ⟨_, rfl, kk ((s5.trans s59).trans s10) ?_⟩
                rw [eb, List.any_eq_true]
                exact ⟨(p1', p2'), List.mem_of_getElem? ez, by simpa using hin⟩
            · obtain ⟨o8, o9, rfl, s9, hall⟩ := h
              rw [show z1.length = (r1.zip r2).length by rw [List.length_zip]; omega, List.take_length] at hall
              refine ⟨_, _, _, _, _, _, rfl, ((s4.trans s5).trans s58).trans s9, fun j hj e he => ?_⟩
              by_cases hji : j = i
              · subst hji
                rw [hat hdi] at he
                cases he
                rw [eb, List.any_eq_false]
                intro z hz
                simpa using hall z hz
              · exact hbad j (by omega) e he
          · rw [decide_eq_false hsg]
            refine iteT ⟨_, rfl, kk (s5.trans s58) ?_⟩
            rw [eb, decide_eq_true hsg, Bool.true_or]
    · obtain ⟨o4, o5, o6, o7, o8, o9, rfl, s4, hbad⟩ := h
      have := k _ (s03.trans s4)
      rw [jud_all h00 fun d hd => ?_] at this
      · exact this
      · obtain ⟨j, hj⟩ := List.mem_iff_getElem?.mp hd
        exact hbad j (by have := (List.getElem?_eq_some_iff.mp hj).1; omega) d hj
end
end Tk
set_option maxHeartbeats 2000000
/-! judged: looker and judge agree -/
namespace Tk
open PySem L2
theorem depth_all {n : Nat} : ∀ {ds : List PyData}, (∀ d ∈ ds, d.depth ≤ n) → PyData.depthAll ds ≤ n
  | [], _ => Nat.zero_le _
  | d :: ds, h => by
    rw [PyData.depthAll]
    exact Nat.max_le.mpr ⟨h d (List.mem_cons_self ..), depth_all fun x hx => h x (List.mem_cons_of_mem _ hx)⟩
theorem judV_im (H : Hp) (o : Option Int) : Im H (judV o) (match o with | none => .none | some i => .int i) := by
  cases o
  · exact .non
  · exact .int _
section
variable {P : Program} {w : World} {K : PySem.W.Frag} {mg : Str → Option Value} {base : Heap}
def spJudged (C : Addr) : Sp := fun vs H Q _ => ∃ (v1 v2 : V) (p q a : Addr) (xs : List V) (ds : List PyData) (L M : Pl), vs = [v1, v2, .ref p, .ref q, .ref a] ∧ Im H v1 L.d ∧ Im H v2 M.d ∧ PlanO C H p L ∧ PlanO C H q M ∧ L.Ok ∧ M.Ok ∧ H a = some (.lst xs) ∧ Ims H xs ds ∧ ds.length ≤ 1000 ∧
  (∀ d ∈ ds, d.depth ≤ 2 ∧ sm d = true) ∧ ∀ H', Same H H' → Q (.bl true) H'
theorem ok_judged (T : Fx K mg) : FnOk P w K mg base CX0 6 T.a_judged T.d_judged ["_law_one", "_law_two_here", "_law_first", "_law_second", "_law_table"] (spJudged T.cP) := by
  refine T.F_judged.ok sc_judged (fun vs H Q E h => ?_) (fun cdv A outer s H vs Q E hr h => ?_)
  · obtain ⟨v1, v2, p, q, a, xs, ds, L, M, rfl, _⟩ := h; rfl
  obtain ⟨v1, v2, p, q, a, xs, ds, L, M, rfl, h1, h2, hp, hq, okL, okM, ha, hx, hl, hd, k⟩ := h
  have hdep : ∀ c : List PyData → PyData, (c = PyData.tuple ∨ c = PyData.list) → (c ds).depth ≤ 3 ∧ sm (c ds) = true := fun c hc => by
    have e1 := depth_all fun d h => (hd d h).1
    have e2 := sms_of fun d h => (hd d h).2
    rcases hc with rfl | rfl
    · rw [PyData.depth, sm, e2, decide_eq_true hl]; exact ⟨by omega, rfl⟩
    · rw [PyData.depth, sm, e2, decide_eq_true hl]; exact ⟨by omega, rfl⟩
  refine ⟨_, (pss_cons (ps_set (i := 5) sc_judged.nd rfl (.inl rfl) (pe_call (ok_looker T) (hr.mono (by decide)) (by rfl) T.g_looker T.F_looker.kp T.b_looker .nil pass0 (pa_cons (pv 0) (pa_cons (pv 1) (pa_cons (pv 4) pa_nil)))))
    (pss_cons (ps_set (i := 6) sc_judged.nd rfl (.inl rfl) (pe_call (ok_judge T) (hr.mono (by decide)) (by rfl) T.g_judge T.F_judge.kp T.b_judge .nil pass0 (pa_cons (pv 2) (pa_cons (pv 3) (pa_cons (pe_callTy call_tuple_of (by rfl) T.z_tuple (by decide +kernel) (pa_cons (pv 4) pa_nil)) pa_nil)))))
    (pss_cons (ps_if (pt_cmpR op_isN (pv 5) pe_non (nomark _))
      (pss_one (ps_ret (pe_and (pe_cmpR op_isN (pv 6) pe_non (nomark _)) (pe_one (pe_cmpR op_isN (pe_call (ok_judge T) (hr.mono (by decide)) (by rfl) T.g_judge T.F_judge.kp T.b_judge .nil pass0 (pa_cons (pv 2) (pa_cons (pv 3) (pa_cons (pe_callTy call_list_of (by rfl) T.z_list (by decide +kernel) (pa_cons (pv 4) pa_nil)) pa_nil)))) pe_non (nomark _))))))
      pss_nil)
    (pss_one (ps_ret (pe_and (pe_call (ok_lisint T) (hr.mono (by decide)) (by rfl) T.g_lisint T.F_lisint.kp T.b_lisint .nil pass0 (pa_cons (pv 6) pa_nil)) (pe_one (pe_cmpR op_eq (pv 6) (pv 5) (nomark _))))))))), ?_⟩
  refine ⟨_, rfl, _, rfl, _, rfl, v1, v2, a, xs, ds, L, M, rfl, h1, h2, okL, okM, ha, hx, hl, fun H1 s1 => ?_⟩
  refine ⟨_, rfl, _, rfl, _, rfl, a, xs, rfl, .inl ⟨SqL.of (s1 _ _ ha), fun t nt => ?_⟩⟩
  have s2 := s1.trans (same_new (o := .tup xs) nt)
  refine ⟨p, q, .ref t, .tuple ds, ds, L, M, rfl, hp.mono s2, hq.mono s2, okL, okM, .tup upd_same (hx.mono s2), .inl rfl, (hdep _ (.inl rfl)).1, (hdep _ (.inl rfl)).2, fun H3 s3 => ?_⟩
  have s3 := s2.trans s3
  cases hj : jud L M (tupds ds) with
  | none =>
    refine ⟨_, rfl, rfl, _, rfl, iteT ⟨_, rfl, rfl, _, rfl, iteT ⟨_, rfl, _, rfl, _, rfl, a, xs, rfl, .inl (SqL.of (s3 _ _ ha)), fun t2 nt2 => ?_⟩⟩⟩
    have s4 := s3.trans (same_new (o := .lst xs) nt2)
    refine ⟨p, q, .ref t2, .list ds, ds, L, M, rfl, hp.mono s4, hq.mono s4, okL, okM, .lst upd_same (hx.mono s4), .inr rfl, (hdep _ (.inr rfl)).1, (hdep _ (.inr rfl)).2, fun H5 s5 => ?_⟩
    rw [hj]
    exact ⟨rfl, k _ (s4.trans s5)⟩
  | some i =>
    refine ⟨_, rfl, rfl, _, rfl, iteF ⟨_, rfl, .int i, .int i, rfl, .int i, _, rfl, iteT ⟨_, rfl, _, rfl, rfl, ?_⟩⟩⟩
    have := k _ s3
    show Q (V.bl (decide (V.int i = V.int i))) _
    rw [decide_eq_true rfl]
    exact this
end
end Tk
/-! dicts with signs as keys -/
namespace Tk
open PySem L2
def kS (s : Nat) : Key := Sum.inr (sgS s)
theorem kS_inj {a b : Nat} (h : kS a = kS b) : a = b := by
  have q := congrArg (fun z : Str => z.cps.toList) (Sum.inr.inj h)
  have q : [a] = [b] := q
  exact (List.cons.inj q).1
def KvK (G : Hp) (kvs : List (Key × V)) (ks : List Nat) (g : Nat → PyData) : Prop := kvs.map (·.1) = ks.map kS ∧ Ims G (kvs.map (·.2)) (ks.map g)
theorem map_if_new {ks : List Nat} {s : Nat} {g : Nat → PyData} {d : PyData} (h : s ∉ ks) : ks.map (fun x => if x = s then d else g x) = ks.map g :=
  List.map_congr_left fun x hx => if_neg fun e => h (by rw [← e]; exact hx)
section
variable {G G' : Hp} {kvs : List (Key × V)} {ks : List Nat} {g : Nat → PyData}
theorem KvK.mono (h : KvK G kvs ks g) (s : Same G G') : KvK G' kvs ks g := ⟨h.1, h.2.mono s⟩
theorem KvK.nil : KvK G [] [] g := ⟨rfl, .nil⟩
theorem KvK.len (h : KvK G kvs ks g) : kvs.length = ks.length := by simpa using congrArg List.length h.1
theorem KvK.mem (h : KvK G kvs ks g) {s : Nat} : kS s ∈ kvs.map (·.1) ↔ s ∈ ks := by
  rw [h.1]
  constructor
  · intro q
    obtain ⟨a, ha, e⟩ := List.mem_map.mp q
    rw [← kS_inj e]; exact ha
  · exact fun q => List.mem_map.mpr ⟨s, q, rfl⟩
theorem KvK.get (h : KvK G kvs ks g) (nd : ks.Nodup) {s : Nat} (hs : s ∈ ks) : ∃ v, valV kvs (kS s) = some v ∧ Im G v (g s) := by
  obtain ⟨i, hi⟩ := List.mem_iff_getElem?.mp hs
  obtain ⟨v, hv, him⟩ := h.2.at_ (i := i) (d := g s) (by rw [List.getElem?_map, hi]; rfl)
  have hk : (kvs.map (·.1))[i]? = some (kS s) := by rw [h.1, List.getElem?_map, hi]; rfl
  rw [List.getElem?_map] at hv hk
  cases e : kvs[i]? with
  | none => rw [e] at hv; cases hv
  | some p =>
    rw [e] at hv hk
    have e1 : p = (kS s, v) := Prod.ext (Option.some.inj hk) (Option.some.inj hv)
    subst e1
    refine ⟨v, valV_at ?_ e, him⟩
    rw [h.1, List.Nodup, List.pairwise_map]
    exact nd.imp fun h e => h (kS_inj e)
theorem KvK.no (h : KvK G kvs ks g) {s : Nat} (hs : s ∉ ks) : valV kvs (kS s) = none := valV_none fun z => hs (h.mem.mp z)
theorem Ims.put {s : Nat} {v : V} {d : PyData} : ∀ {kvs : List (Key × V)} {ks : List Nat}, ks.Nodup → kvs.map (·.1) = ks.map kS → Ims G (kvs.map (·.2)) (ks.map g) → Im G v d →
    Ims G ((kvs.map fun kv => if kv.1 = kS s then (kv.1, v) else kv).map (·.2)) (ks.map fun x => if x = s then d else g x)
  | [], [], _, _, _, _ => .nil
  | [], _ :: _, _, h, _, _ => by simp at h
  | _ :: _, [], _, h, _, _ => by simp at h
  | kv :: kvs, k :: ks, nd, h, hi, hv => by
    rw [List.nodup_cons] at nd
    rw [List.map_cons, List.map_cons] at h hi
    obtain ⟨h1, h2⟩ := List.cons.inj h
    obtain ⟨x, xs, e, i1, i2⟩ := hi.cons_inv
    obtain ⟨e1, e2⟩ := List.cons.inj e
    subst e1 e2
    rw [List.map_cons, List.map_cons, List.map_cons]
    refine .cons ?_ (Ims.put nd.2 h2 i2 hv)
    by_cases q : k = s
    · subst q
      rw [if_pos h1, if_pos rfl]
      exact hv
    · rw [if_neg (fun e => q (kS_inj (h1.symm.trans e))), if_neg q]
      exact i1
theorem KvK.put (h : KvK G kvs ks g) (nd : ks.Nodup) {s : Nat} {v : V} {d : PyData} (hv : Im G v d) : KvK G (putK kvs (kS s) v) (if s ∈ ks then ks else ks ++ [s]) (fun x => if x = s then d else g x) := by
  by_cases hs : s ∈ ks
  · rw [if_pos hs]
    have e : putK kvs (kS s) v = kvs.map fun kv => if kv.1 = kS s then (kv.1, v) else kv := by
      unfold putK
      rw [if_pos]
      refine List.any_eq_true.mpr ?_
      obtain ⟨x, hx, e⟩ := List.mem_map.mp (h.mem.mpr hs)
      exact ⟨x, hx, by simpa using e⟩
    rw [e]
    refine ⟨?_, Ims.put nd h.1 h.2 hv⟩
    rw [List.map_map, ← h.1]
    refine List.map_congr_left fun x _ => ?_
    show (if x.1 = kS s then (x.1, v) else x).1 = x.1
    split <;> rfl
  · rw [if_neg hs, putK_new (fun z => hs (h.mem.mp z))]
    refine ⟨?_, ?_⟩
    · rw [List.map_append, List.map_append, h.1]; rfl
    · rw [List.map_append, List.map_append, map_if_new hs]
      refine h.2.snoc ?_
      show Im G v (if s = s then d else g s)
      rw [if_pos rfl]; exact hv
theorem nodup_put (nd : ks.Nodup) (s : Nat) : (if s ∈ ks then ks else ks ++ [s]).Nodup := by
  split
  · exact nd
  · rename_i h
    rw [List.nodup_append]
    exact ⟨nd, by simp, fun a ha b hb => by
      have : b = s := by simpa using hb
      rw [this]; exact fun e => h (by rw [← e]; exact ha)⟩
theorem mem_put {s x : Nat} : x ∈ (if s ∈ ks then ks else ks ++ [s]) ↔ x ∈ ks ∨ x = s := by
  split
  · rename_i h
    exact ⟨.inl, fun q => q.elim id fun e => e ▸ h⟩
  · rw [List.mem_append, List.mem_singleton]
theorem KvK.cong {g' : Nat → PyData} (h : KvK G kvs ks g) (e : ∀ s ∈ ks, g s = g' s) : KvK G kvs ks g' := ⟨h.1, by rw [← List.map_congr_left e]; exact h.2⟩
end
/-- the look over a row's first items, one more -/
theorem look_take {r : Row} (hr : (r.map (·.1)).Pairwise (· < ·)) {i : Nat} {p : Nat × Nat} (h : r[i]? = some p) (s : Nat) : look (r.take (i + 1)) s = if s = p.1 then (p.2 : Int) else look (r.take i) s := by
  have et : r.take (i + 1) = r.take i ++ [p] := by rw [List.take_add_one, h]; rfl
  have hr2 : ((r.take (i + 1)).map (·.1)).Pairwise (· < ·) := by rw [List.map_take]; exact hr.sublist (List.take_sublist _ _)
  rw [et]
  rw [et, List.map_append, List.pairwise_append] at hr2
  unfold look
  by_cases e : s = p.1
  · rw [if_pos e]
    have : (r.take i ++ [p]).lookup s = some p.2 := by
      rw [e]
      refine lookup_of ?_ (by simp)
      rw [← et, List.map_take]
      exact hr.sublist (List.take_sublist _ _)
    rw [this]
  · rw [if_neg e]
    have : (r.take i ++ [p]).lookup s = (r.take i).lookup s := by
      rw [List.lookup_append]
      have : [p].lookup s = none := by
        obtain ⟨a, b⟩ := p
        rw [List.lookup_cons, show (s == a) = false by simpa using e]; rfl
      rw [this]
      cases (r.take i).lookup s <;> rfl
    rw [this]
theorem perm_map_inv {α β : Type} (f : α → β) : ∀ {l : List β} {m : List α}, l.Perm (m.map f) → ∃ l' : List α, l = l'.map f ∧ l'.Perm m := by
  intro l m h
  generalize hm : m.map f = k at h
  induction h generalizing m with
  | nil => exact ⟨[], rfl, by
      have : m = [] := by simpa using hm
      rw [this]⟩
  | cons x h ih =>
    cases m with
    | nil => simp at hm
    | cons a m =>
      rw [List.map_cons] at hm
      obtain ⟨h1, h2⟩ := List.cons.inj hm
      obtain ⟨l', e, p⟩ := ih h2
      exact ⟨a :: l', by rw [List.map_cons, e, h1], p.cons a⟩
  | swap x y l =>
    match m, hm with
    | a :: b :: m, hm =>
      rw [List.map_cons, List.map_cons] at hm
      obtain ⟨h1, h2⟩ := List.cons.inj hm
      obtain ⟨h2, h3⟩ := List.cons.inj h2
      exact ⟨b :: a :: m, by rw [List.map_cons, List.map_cons, h1, h2, h3], List.Perm.swap a b m⟩
    | [], hm => simp at hm
    | [a], hm => simp at hm
  | trans h1 h2 ih1 ih2 =>
    obtain ⟨l1, e1, p1⟩ := ih2 hm
    obtain ⟨l2, e2, p2⟩ := ih1 e1.symm
    exact ⟨l2, e2, p2.trans p1⟩
theorem rising_sgs : ∀ (l : List Nat) (p : Nat), PyProof.Rows.risingS (sgS p) (l.map sgS) = true → (p :: l).Pairwise fun a b => leN a b = true
  | [], p, _ => by simp
  | x :: l, p, h => by
    have h : (!Spec.ltCps [x] [p] && PyProof.Rows.risingS (sgS x) (l.map sgS)) = true := h
    rw [Bool.and_eq_true] at h
    have ih := rising_sgs l x h.2
    have hx : p ≤ x := by
      have h1 := h.1
      have e : Spec.ltCps [x] [p] = decide (x < p) := by
        by_cases q : x < p
        · rw [decide_eq_true q]; simp [Spec.ltCps, q]
        · rw [decide_eq_false q]; simp [Spec.ltCps, q]
      rw [e] at h1
      simp at h1
      exact h1
    rw [List.pairwise_cons]
    refine ⟨fun b hb => ?_, ih⟩
    rcases List.mem_cons.mp hb with rfl | hb
    · unfold leN; simpa using hx
    · have := (List.pairwise_cons.mp ih).1 b hb
      unfold leN at this ⊢
      simp only [decide_eq_true_eq] at this ⊢
      omega
theorem sorted_sgs {l : List Nat} (h : PyProof.Rows.sortedS (l.map sgS) = true) : l.Pairwise fun a b => leN a b = true := by
  cases l with
  | nil => exact .nil
  | cons a l => exact rising_sgs l a h
theorem addTo_take (x : List Nat) : ∀ (l : List (Nat × Node)) (acc : List BN) (j : Nat) (p : Nat × Node), l[j]? = some p →
    addTo x acc (l.take (j + 1)) = (if p.2 ∈ (addTo x acc (l.take j)).map (·.1) then addTo x acc (l.take j) else addTo x acc (l.take j) ++ [(p.2, x ++ [p.1])])
  | [], _, _, _, h => by simp at h
  | q :: l, acc, 0, p, h => by
    have e : q = p := by simpa using h
    subst e
    rfl
  | q :: l, acc, j + 1, p, h => addTo_take x l (if q.2 ∈ acc.map (·.1) then acc else acc ++ [(q.2, x ++ [q.1])]) j p (by simpa using h)
theorem addTo_app (x : List Nat) : ∀ (l m : List (Nat × Node)) (acc : List BN), addTo x acc (l ++ m) = addTo x (addTo x acc l) m
  | [], _, _ => rfl
  | _ :: l, m, _ => addTo_app x l m _
/-- at most 53 signs -/
theorem signs_few {l : List Nat} (nd : l.Nodup) (h : ∀ c ∈ l, okSign c = true) : l.length ≤ 53 := by
  have h2 := few_below 53 (l.map fun c => if c = 46 then 0 else if c ≤ 90 then c - 64 else c - 70) ?_ ?_
  · simpa using h2
  · rw [List.Nodup, List.pairwise_map]
    refine List.Pairwise.imp_of_mem ?_ nd
    intro a b ha hb hne
    have h1 := h a ha
    have h2 := h b hb
    unfold okSign at h1 h2
    simp only [Bool.or_eq_true, Bool.and_eq_true, decide_eq_true_eq] at h1 h2
    have : a ≠ b := hne
    split <;> split <;> (try split) <;> (try split) <;> omega
  · intro x hx
    obtain ⟨c, hc, rfl⟩ := List.mem_map.mp hx
    have h1 := h c hc
    unfold okSign at h1
    simp only [Bool.or_eq_true, Bool.and_eq_true, decide_eq_true_eq] at h1
    split
    · omega
    · split <;> omega
theorem str_snoc (x : List Nat) (s : Nat) : (⟨x.toArray⟩ : Str) ++ sgS s = ⟨(x ++ [s]).toArray⟩ := by
  show (⟨x.toArray ++ #[s]⟩ : Str) = _
  simp
end Tk
set_option maxHeartbeats 4000000
/-! the law's own walk -/
namespace Tk
open PySem L2
def strD (x : List Nat) : PyData := .str ⟨x.toArray⟩
section
variable {P : Program} {w : World} {K : PySem.W.Frag} {mg : Str → Option Value} {base : Heap}
def spPairs : Sp := fun vs H Q _ => ∃ (v1 v2 : V) (L M : Pl), vs = [v1, v2] ∧ Im H v1 L.d ∧ Im H v2 M.d ∧ L.Ok ∧ M.Ok ∧ (L.rows.length + 1) * (M.rows.length + 1) ≤ 400 ∧
  ∀ (H' : Hp) (t aO aX : Addr) (ov : List V) (kvs : List (List Key × V)), Same H H' → H t = none → H aO = none → H' t = some (.tup [.ref aO, .ref aX]) → H' aO = some (.lst ov) → H' aX = some (.dT kvs) → Ims H' ov ((fin L M).map fun b => nodeD b.1) → KvT H' kvs (·.1) (fun b => strD b.2) (fin L M) → Q (.ref t) H'
/-- the row of a state in the law's plan -/
theorem Pl.row_at {H : Hp} {v : V} {L : Pl} (h : Im H v L.d) {i : Int} (h0 : 0 ≤ i) (hi : i < L.rows.length) : ∃ a s e xs c zs, v = .ref a ∧ H a = some (.tup [.ref s, .ref e]) ∧ H s = some (.tup xs) ∧ atI xs i = some (.ref c) ∧ H c = some (.tup zs) ∧ Ims H zs ((L.rowOf i).map fun p => .tuple [sgn p.1, .int p.2]) := by
  obtain ⟨a, s, e, xs, rfl, p1, p2, p3, p4⟩ := Pl.inv h
  have hn1 : i.toNat < L.rows.length := by omega
  have er1 : L.rows[i.toNat]? = some (L.rowOf i) := by
    unfold Pl.rowOf
    rw [if_neg (by omega), List.getD_eq_getElem?_getD, List.getElem?_eq_getElem hn1]; rfl
  obtain ⟨w1, hw1, iw1⟩ := p3.at_ (i := i.toNat) (d := rowD (L.rowOf i)) (by rw [List.getElem?_map, er1]; rfl)
  obtain ⟨c, zs, rfl, hc, hz⟩ := iw1.tup_inv
  have et : i = (i.toNat : Int) := by omega
  exact ⟨a, s, e, xs, c, zs, rfl, p1, p2, by rw [et]; exact atI_nat hw1, hc, hz⟩
/-- onward from the first plan's row -/
def tW1 : TS := fun D σ H => ∃ (s1 s2 s3 s4 s6 s8 s9 : Option V) (v : V) (L : Pl) (i : Int) (aW : Addr), σ = [some v, s1, s2, s3, s4, some (.int i), s6, some (.ref aW), s8, s9] ∧ Im (hide [aW] H) v L.d ∧ L.Ok ∧ i < L.rows.length ∧ H aW = some (.dK []) ∧
  ∀ (o8 o9 : Option V) (H' : Hp) (kvs : List (Key × V)), Same (hide [aW] H) (hide [aW] H') → H' aW = some (.dK kvs) → KvK (hide [aW] H') kvs ((L.rowOf i).map (·.1)) (fun s => nodeD (look (L.rowOf i) s, -1)) → D.nx [some v, s1, s2, s3, s4, some (.int i), s6, some (.ref aW), o8, o9] H'
/-- and from the second's -/
def tW2 : TS := fun D σ H => ∃ (s0 s2 s3 s4 s5 s8 s9 : Option V) (v : V) (M : Pl) (j : Int) (aW : Addr) (r : Row) (kvs : List (Key × V)), σ = [s0, some v, s2, s3, s4, s5, some (.int j), some (.ref aW), s8, s9] ∧ Im (hide [aW] H) v M.d ∧ M.Ok ∧ j < M.rows.length ∧ (r.map (·.1)).Pairwise (· < ·) ∧ r.length ≤ 123 ∧ H aW = some (.dK kvs) ∧ KvK (hide [aW] H) kvs (r.map (·.1)) (fun s => nodeD (look r s, -1)) ∧
  ∀ (o8 o9 : Option V) (H' : Hp) (kvs : List (Key × V)) (ks : List Nat), Same (hide [aW] H) (hide [aW] H') → H' aW = some (.dK kvs) → KvK (hide [aW] H') kvs ks (fun s => nodeD (look r s, look (M.rowOf j) s)) → ks.Nodup → (∀ x, x ∈ ks ↔ x ∈ r.map (·.1) ∨ x ∈ (M.rowOf j).map (·.1)) → D.nx [s0, some v, s2, s3, s4, s5, some (.int j), some (.ref aW), o8, o9] H'
theorem look_no {r : Row} {s : Nat} (h : s ∉ r.map (·.1)) : look r s = -1 := by
  have : r.lookup s = none := Option.isNone_iff_eq_none.mp (lookup_isNone.mpr h)
  unfold look; rw [this]
theorem ok_pairs (T : Fx K mg) : FnOk P w K mg base CX0 1 T.a_pairs T.d_pairs ["_law_one", "_law_two_here"] spPairs := by
  refine T.F_pairs.ok sc_pairs (fun vs H Q E h => ?_) (fun cdv A outer s H vs Q E hr h => ?_)
  · obtain ⟨v1, v2, L, M, rfl, _⟩ := h; rfl
  obtain ⟨v1, v2, L, M, rfl, h1, h2, okL, okM, hs, k⟩ := h
  have hu := hu_of hr
  refine ⟨_, PSs.nox ((pss_cons (ps_set (i := 2) sc_pairs.nd rfl (.inl rfl) (pe_lst (pa_cons (pe_tup (pa_cons pe_int (pa_cons pe_int pa_nil))) pa_nil)))
    (pss_cons (ps_set (i := 3) sc_pairs.nd rfl (.inl rfl) (pe_dispT hu (pe_tup (pa_cons pe_int (pa_cons pe_int pa_nil))) pe_str))
    (pss_cons (ps_for PassesOwn.never rfl (pi_range1 (by rfl) T.z_range (pa_cons pe_int pa_nil)) (pg_name (i := 4) sc_pairs.nd rfl (.inl rfl))
      (pss_one (ps_if (pt_cmpR op_lt (pv 4) (pe_callB call_len_seq (by rfl) T.z_len (by decide +kernel) (pa_cons (pv 2) pa_nil)) (nomark _))
        (pss_cons (ps_asg (pe_ix ix_list (pv 2) (pv 4) (fun _ _ => rfl)) (pg_tup rfl (pgs_cons (pg_name (i := 5) sc_pairs.nd rfl (.inl rfl)) (pgs_cons (pg_name (i := 6) sc_pairs.nd rfl (.inl rfl)) pgs_nil))))
        (pss_cons (ps_set (i := 7) sc_pairs.nd rfl (.inl rfl) pe_dnewK)
        (pss_cons (ps_imp (t' := tW1) (ps_if (pt_cmpR op_ge (pv 5) pe_int (nomark _))
          (pss_one (ps_for PassesOwn.never rfl (pi_tup (pe_ix ix_tup (pe_ix ix_tup (pv 0) pe_int (fun _ _ => rfl)) (pv 5) (fun _ _ => rfl))) (pg_tup rfl (pgs_cons (pg_name (i := 8) sc_pairs.nd rfl (.inl rfl)) (pgs_cons (pg_name (i := 9) sc_pairs.nd rfl (.inl rfl)) pgs_nil)))
            (pss_one (ps_dput hu (pv 7) (pv 8) (pe_tup (pa_cons (pv 9) (pa_cons (pe_un un_neg pe_int) pa_nil))) rfl))))
          pss_nil) ?I2)
        (pss_cons (ps_imp (t' := tW2) (ps_if (pt_cmpR op_ge (pv 6) pe_int (nomark _))
          (pss_one (ps_for PassesOwn.never rfl (pi_tup (pe_ix ix_tup (pe_ix ix_tup (pv 1) pe_int (fun _ _ => rfl)) (pv 6) (fun _ _ => rfl))) (pg_tup rfl (pgs_cons (pg_name (i := 8) sc_pairs.nd rfl (.inl rfl)) (pgs_cons (pg_name (i := 9) sc_pairs.nd rfl (.inl rfl)) pgs_nil)))
            (pss_one (ps_dput hu (pv 7) (pv 8) (pe_tup (pa_cons (pe_ix ix_tup (pe_dget2 hu (pv 7) (pv 8) (pe_tup (pa_cons (pe_un un_neg pe_int) (pa_cons (pe_un un_neg pe_int) pa_nil))) ⟨by rfl, by rfl, by rfl, by rfl⟩) pe_int (fun _ _ => rfl)) (pa_cons (pv 9) pa_nil))) rfl))))
          pss_nil) ?I3)
        (pss_one (ps_for PassesOwn.never rfl (pi_list (pe_callB (call_sortedD rfl) (by rfl) T.z_sorted (by decide +kernel) (pa_cons (pv 7) pa_nil))) (pg_name (i := 8) sc_pairs.nd rfl (.inl rfl))
          (pss_one (ps_if (pt_cmp (pc_dnotin hu (pe_dget hu (pv 7) (pv 8) (fun _ _ => rfl)) (pv 3)))
            (pss_cons (ps_dput hu (pv 3) (pe_dget hu (pv 7) (pv 8) (fun _ _ => rfl)) (pe_op op_add_str (pe_dget hu (pv 3) (pe_ix ix_list (pv 2) (pv 4) (fun _ _ => rfl)) (fun _ _ => rfl)) (pv 8)) rfl)
            (pss_one (ps_expr (pe_bm PySem.F.plainAttrs_list PySem.F.slot_list_append PySem.F.type_list_append mt_append (pv 2) (pa_cons (pe_dget hu (pv 7) (pv 8) (fun _ _ => rfl)) pa_nil)))))
            pss_nil))))))))
        pss_nil)))
    (pss_one (ps_ret (pe_tup (pa_cons (pv 2) (pa_cons (pv 3) pa_nil))))))))), ?_⟩
  case I2 =>
    clear k h1 h2 okL okM hs
    intro D σ H h
    obtain ⟨s1, s2, s3, s4, s6, s8, s9, v, L, i, aW, rfl, hv, okL, hi, hW, k⟩ := h
    refine ⟨_, rfl, _, _, rfl, rfl, _, rfl, ite2 (fun c => ?_) (fun c => ?_)⟩
    · have c : 0 ≤ i := by simpa using c
      obtain ⟨a, sa, e, xs, cc, zs, rfl, p1, p2, p3, p4, p5⟩ := Pl.row_at hv c hi
      have rr := rowOf_rise okL hi
      have few := row_few okL hi
      generalize L.rowOf i = r at p5 k rr few
      have zl : zs.length = r.length := by rw [p5.len, List.length_map]
      have hs := hide_same [aW] H
      refine ⟨_, rfl, a, _, 0, _, rfl, rfl, SqT.of (hs _ _ p1), atI_0, _, rfl, sa, xs, _, _, rfl, rfl, SqT.of (hs _ _ p2), p3, cc, rfl, ⟨_, SqT.of (hs _ _ p4)⟩, for_it (walk_tup (xs := zs)) (fun n σ H' => ∃ o8 o9 kvs, σ = [some (.ref a), s1, s2, s3, s4, some (.int i), s6, some (.ref aW), o8, o9] ∧ Same (hide [aW] H) (hide [aW] H') ∧ H' aW = some (.dK kvs) ∧ KvK (hide [aW] H') kvs ((r.take n).map (·.1)) (fun s => nodeD (look r s, -1)))
        ⟨_, _, [], rfl, fun _ _ e => e, hW, .nil⟩ (fun n σ H' _ h => ?_) (fun n x σ H' H'' hn h y => ?_) fun σ H' h => ?_⟩
      · obtain ⟨_, _, _, _, sB, _⟩ := h
        exact SqT.of (hide_same _ _ _ _ (sB _ _ p4))
      · obtain ⟨o8, o9, kvs, rfl, sB, hK, kK⟩ := h
        obtain ⟨rfl, hx⟩ := y
        obtain ⟨d, hd, him⟩ := p5.get hx
        rw [List.getElem?_map] at hd
        have hnr : n < r.length := by rw [← zl]; exact hn
        have hp : r[n]? = some r[n] := List.getElem?_eq_getElem hnr
        have et : (r.take (n + 1)).map (·.1) = (r.take n).map (·.1) ++ [r[n].1] := by rw [List.take_add_one, hp, List.map_append]; rfl
        have hno : r[n].1 ∉ (r.take n).map (·.1) := by
          have : ((r.take (n + 1)).map (·.1)).Nodup := by rw [List.map_take]; exact (rise_nodup rr).sublist (List.take_sublist _ _)
          rw [et, List.nodup_append] at this
          exact fun h => this.2.2 _ h _ (by simp) rfl
        have hlk : look r r[n].1 = r[n].2 := by
          have := lookup_of rr (List.getElem_mem hnr)
          unfold look; rw [this]
        generalize r[n] = p at hp et hno hlk
        rw [hp] at hd
        cases hd
        obtain ⟨b, u1, u2, rfl, hb, j1, j2⟩ := him.pair_inv
        cases j1.str_inv
        cases j2.int_inv
        refine ⟨b, _, rfl, SqT.of (hide_same _ _ _ _ (sB _ _ hb)), rfl, _, _, rfl, _, _, rfl, rfl, ?_⟩
        refine ⟨_, rfl, _, rfl, sz2, fun t nt => ?_⟩
        have s6' := same_new (o := .tup [.int p.2, .int (-1)]) nt
        refine ⟨_, rfl, _, rfl, aW, _, rfl, DPut.k (k := kS p.1) (s6' _ _ hK) (szlt ?_), ?_⟩
        · have := kK.len
          rw [List.length_map, List.length_take] at this
          omega
        refine ⟨_, _, _, rfl, ?_, upd_same, ?_⟩
        · rw [hide_mut (by simp)]; exact sB.trans (hide_mono s6')
        · rw [hide_mut (by simp), et]
          have hnd : ((r.take n).map (·.1)).Nodup := by rw [List.map_take]; exact (rise_nodup rr).sublist (List.take_sublist _ _)
          have := (kK.mono (hide_mono s6')).put hnd (s := p.1) (v := .ref t) (d := nodeD (look r p.1, -1)) ?_
          · rw [if_neg hno] at this
            refine this.cong fun s _ => ?_
            by_cases e : s = p.1
            · rw [if_pos e, e]
            · rw [if_neg e]
          · rw [hlk]
            refine Im.pair ?_ (.int _) (.int _)
            rw [hide_out (by simpa using (ne_of_none hK nt).symm)]
            exact upd_same
      · obtain ⟨o8, o9, kvs, rfl, sB, hK, kK⟩ := h
        rw [zl, List.take_length] at kK
        exact k _ _ _ _ sB hK kK
    · have c : i < 0 := by simpa using c
      have e : L.rowOf i = [] := if_pos c
      rw [e] at k
      exact k _ _ H [] (fun _ _ e => e) hW .nil
  case I3 =>
    clear k h1 h2 okL okM hs
    intro D σ H h
    obtain ⟨s0, s2, s3, s4, s5, s8, s9, v, M, j, aW, r1, kvs0, rfl, hv, okM, hj, rr1, few1, hW, kW, k⟩ := h
    refine ⟨_, rfl, _, _, rfl, rfl, _, rfl, ite2 (fun c => ?_) (fun c => ?_)⟩
    · have c : 0 ≤ j := by simpa using c
      obtain ⟨a, sa, e, xs, cc, zs, rfl, p1, p2, p3, p4, p5⟩ := Pl.row_at hv c hj
      have rr := rowOf_rise okM hj
      have few := row_few okM hj
      generalize M.rowOf j = r at p5 k rr few
      have zl : zs.length = r.length := by rw [p5.len, List.length_map]
      have hs := hide_same [aW] H
      refine ⟨_, rfl, a, _, 0, _, rfl, rfl, SqT.of (hs _ _ p1), atI_0, _, rfl, sa, xs, _, _, rfl, rfl, SqT.of (hs _ _ p2), p3, cc, rfl, ⟨_, SqT.of (hs _ _ p4)⟩, for_it (walk_tup (xs := zs)) (fun n σ H' => ∃ o8 o9 kvs ks, σ = [s0, some (.ref a), s2, s3, s4, s5, some (.int j), some (.ref aW), o8, o9] ∧ Same (hide [aW] H) (hide [aW] H') ∧ H' aW = some (.dK kvs) ∧
        KvK (hide [aW] H') kvs ks (fun s => nodeD (look r1 s, look (r.take n) s)) ∧ ks.Nodup ∧ (∀ x, x ∈ ks ↔ x ∈ r1.map (·.1) ∨ x ∈ (r.take n).map (·.1)) ∧ ks.length ≤ 123 + n)
        ⟨_, _, kvs0, _, rfl, fun _ _ e => e, hW, kW, rise_nodup rr1, fun x => by simp, by rw [List.length_map]; omega⟩ (fun n σ H' _ h => ?_) (fun n x σ H' H'' hn h y => ?_) fun σ H' h => ?_⟩
      · obtain ⟨_, _, _, _, _, sB, _⟩ := h
        exact SqT.of (hide_same _ _ _ _ (sB _ _ p4))
      · obtain ⟨o8, o9, kvs, ks, rfl, sB, hK, kK, nd, mem, kl⟩ := h
        obtain ⟨rfl, hx⟩ := y
        obtain ⟨d, hd, him⟩ := p5.get hx
        rw [List.getElem?_map] at hd
        have hnr : n < r.length := by rw [← zl]; exact hn
        have hp : r[n]? = some r[n] := List.getElem?_eq_getElem hnr
        have et : (r.take (n + 1)).map (·.1) = (r.take n).map (·.1) ++ [r[n].1] := by rw [List.take_add_one, hp, List.map_append]; rfl
        have hlt := look_take rr hp
        generalize r[n] = p at hp et hlt
        rw [hp] at hd
        cases hd
        obtain ⟨b, u1, u2, rfl, hb, j1, j2⟩ := him.pair_inv
        cases j1.str_inv
        cases j2.int_inv
        refine ⟨b, _, rfl, SqT.of (hide_same _ _ _ _ (sB _ _ hb)), rfl, _, _, rfl, _, _, rfl, rfl, ?_⟩
        refine ⟨_, rfl, aW, rfl, .inl ⟨_, Rd.of hK⟩, _, rfl, _, rfl, _, rfl, sz2, fun td ntd => ?_⟩
        have s5' := same_new (o := .tup [.int (-1), .int (-1)]) ntd
        have hget : ∃ bb y, (valV kvs (kS p.1)).getD (.ref td) = .ref bb ∧ upd H'' td (.tup [.int (-1), .int (-1)]) bb = some (.tup [.int (look r1 p.1), y]) := by
          by_cases hin : p.1 ∈ ks
          · obtain ⟨v, e1, e2⟩ := kK.get nd hin
            obtain ⟨bb, rfl, hbb⟩ := nodeD_inv e2
            exact ⟨bb, _, by rw [e1]; rfl, s5' _ _ (hide_same _ _ _ _ hbb)⟩
          · refine ⟨td, .int (-1), by rw [kK.no hin]; rfl, ?_⟩
            have : p.1 ∉ r1.map (·.1) := fun h => hin ((mem _).mpr (.inl h))
            rw [look_no this]; exact upd_same
        obtain ⟨bb, yy, hg, hbb⟩ := hget
        refine ⟨_, .inl ⟨_, kS p.1, Rd.of (s5' _ _ hK), rfl, rfl⟩, ?_⟩
        rw [show (valV kvs (kS p.1)).getD ((fun (a : Addr) => V.ref a) td) = .ref bb from hg]
        refine ⟨bb, _, 0, _, rfl, rfl, SqT.of hbb, atI_0, _, rfl, sz2, fun t nt => ?_⟩
        have s6' := s5'.trans (same_new (o := .tup [.int (look r1 p.1), .int p.2]) nt)
        have hK6 := s6' _ _ hK
        refine ⟨_, rfl, _, rfl, aW, _, rfl, DPut.k (k := kS p.1) hK6 (szlt ?_), ?_⟩
        · have := kK.len; omega
        refine ⟨_, _, _, _, rfl, ?_, upd_same, ?_, nodup_put nd p.1, fun x => ?_, ?_⟩
        · rw [hide_mut (by simp)]; exact sB.trans (hide_mono s6')
        · rw [hide_mut (by simp)]
          refine ((kK.mono (hide_mono s6')).put nd (s := p.1) (v := .ref t) (d := nodeD (look r1 p.1, p.2)) ?_).cong fun s _ => ?_
          · refine Im.pair ?_ (.int _) (.int _)
            rw [hide_out (by
              have := ne_of_none (s5' _ _ hK) nt
              simpa using this.symm)]
            exact upd_same
          · rw [hlt]
            by_cases e : s = p.1
            · rw [if_pos e, if_pos e, e]
            · rw [if_neg e, if_neg e]
        · rw [mem_put, mem x, et, List.mem_append, List.mem_singleton]
          exact or_assoc
        · split
          · omega
          · rw [List.length_append, List.length_singleton]; omega
      · obtain ⟨o8, o9, kvs, ks, rfl, sB, hK, kK, nd, mem, kl⟩ := h
        rw [zl, List.take_length] at kK mem
        exact k _ _ _ _ ks sB hK kK nd mem
    · have c : j < 0 := by simpa using c
      have e : M.rowOf j = [] := if_pos c
      rw [e] at k
      exact k _ _ H _ _ (fun _ _ e => e) hW kW (rise_nodup rr1) fun x => by simp
  refine ⟨sz2, fun t0 nt0 => ⟨szle (by show 1 ≤ _; omega), fun aO nO => ?_⟩⟩
  have s1 := (same_new (o := .tup [.int 0, .int 0]) nt0).trans (same_new (o := .lst [.ref t0]) nO)
  have ht0 : upd (upd H t0 (.tup [.int 0, .int 0])) aO (.lst [.ref t0]) t0 = some (.tup [.int 0, .int 0]) := same_new nO _ _ upd_same
  have lO : upd (upd H t0 (.tup [.int 0, .int 0])) aO (.lst [.ref t0]) aO = some (.lst [.ref t0]) := upd_same
  have nO0 : H aO = none := (same_new (o := .tup [.int 0, .int 0]) nt0).free nO
  generalize upd (upd H t0 (.tup [.int 0, .int 0])) aO (.lst [.ref t0]) = H1 at s1 ht0 lO
  intro aX nX
  refine ⟨sz2, fun t1 nt1 => ⟨?_, t1, keyN (0, 0), rfl, upd_same, ?_⟩⟩
  · rw [upd_ne (ne_of_none upd_same nt1)]; exact upd_same
  have nOX : aO ≠ aX := ne_of_none lO nX
  have s2 := same_new (o := .dT []) nX
  have n1X : t1 ≠ aX := fun e => by rw [e, upd_same] at nt1; cases nt1
  have n1O : t1 ≠ aO := fun e => by rw [e, s2 _ _ lO] at nt1; cases nt1
  generalize hH2 : upd (upd (upd H1 aX (.dT [])) t1 (.tup [.int 0, .int 0])) aX (.dT [(keyN (0, 0), .str "")]) = H2
  have lO2 : H2 aO = some (.lst [.ref t0]) := by rw [← hH2, upd_ne nOX, upd_ne n1O.symm, upd_ne nOX]; exact lO
  have lX2 : H2 aX = some (.dT [(keyN (0, 0), .str "")]) := by rw [← hH2]; exact upd_same
  have nX0 : H aX = none := s1.free nX
  have sB0 : Same H1 (hide [aX] H2) := by
    refine hide_base (fun b o e => ?_) (by simp [nX])
    have b1 : b ≠ aX := ne_of_none e nX
    have b2 : b ≠ t1 := ne_of_none (s2 _ _ e) nt1
    rw [← hH2, upd_ne b1, upd_ne b2, upd_ne b1]; exact e
  have ht02 : hide [aO, aX] H2 t0 = some (.tup [.int 0, .int 0]) := by
    have e := sB0 _ _ ht0
    have n1 := (hide_some e).1
    rw [hide_out (by
      simp only [List.mem_cons, List.not_mem_nil, or_false, not_or] at n1 ⊢
      exact ⟨fun e2 => (by rw [e2, lO] at ht0; cases ht0), n1⟩)]
    exact (hide_some e).2
  have sB : Same H (hide [aO, aX] H2) := hide_base ((s1.trans sB0).trans (hide_same _ _)) (by simp [nO0, nX0])
  have few := fin_few okL okM hs
  refine ⟨400, rfl, by decide, by decide, for_range (lo := 0) (n := 400) (fun n σ H' => ∃ (o4 o5 o6 o7 o8 o9 : Option V) (ov : List V) (kvs : List (List Key × V)), σ = [some v1, some v2, some (.ref aO), some (.ref aX), o4, o5, o6, o7, o8, o9] ∧ Same H (hide [aO, aX] H') ∧ H' aO = some (.lst ov) ∧ H' aX = some (.dT kvs) ∧
    Ims (hide [aO, aX] H') ov ((bq L M n).map fun b => nodeD b.1) ∧ KvT (hide [aO, aX] H') kvs (·.1) (fun b => strD b.2) (bq L M n))
    ⟨_, _, _, _, _, _, [.ref t0], [(keyN (0, 0), .str "")], rfl, sB, lO2, lX2, .one (Im.pair ht02 (.int 0) (.int 0)), ⟨rfl, .one (.str _)⟩⟩ (fun n σ H' hn h => ?_) fun σ H' h => ?_⟩
  · obtain ⟨o4, o5, o6, o7, o8, o9, ov, kvs, rfl, sB, hO, hX, iO, kX⟩ := h
    have e0 : (0 : Int) + ((n : Nat) : Int) = (n : Int) := by omega
    rw [e0]
    have ovl : ov.length = (bq L M n).length := by rw [iO.len, List.length_map]
    refine ⟨_, rfl, _, rfl, aO, _, rfl, .inl (SqL.of hO), _, _, rfl, rfl, _, rfl, ?_⟩
    by_cases hlt : n < (bq L M n).length
    case neg =>
      rw [decide_eq_false (by omega)]
      refine iteF ⟨_, _, _, _, _, _, ov, kvs, rfl, sB, hO, hX, ?_, ?_⟩
      · rw [bq_succ_none (List.getElem?_eq_none (by omega))]; exact iO
      · rw [bq_succ_none (List.getElem?_eq_none (by omega))]; exact kX
    rw [decide_eq_true (by omega)]
    have hb : (bq L M n)[n]? = some (bq L M n)[n] := List.getElem?_eq_getElem hlt
    have hbok := bq_ok okL okM n _ (List.getElem_mem hlt)
    have hbt := bq_text n _ (List.getElem_mem hlt)
    generalize (bq L M n)[n] = b at hb hbok hbt
    have hgrow := bq_few okL okM (n + 1)
    rw [bq_succ_some hb] at hgrow ⊢
    obtain ⟨vb, hvb, ivb⟩ := iO.at_ (i := n) (d := nodeD b.1) (by rw [List.getElem?_map, hb]; rfl)
    obtain ⟨bn, rfl, hbn⟩ := nodeD_inv ivb
    refine iteT ⟨_, rfl, _, rfl, aO, ov, _, _, rfl, rfl, SqL.of hO, atI_nat hvb, bn, _, rfl, SqT.of (hide_same _ _ _ _ hbn), rfl, _, _, rfl, _, _, rfl, rfl, fun aW nW => ?_⟩
    -- onward
    have nWO : aO ≠ aW := ne_of_none hO nW
    have nOX' : aO ≠ aX := ne_of hO hX (fun z => nomatch z)
    have nWX : aX ≠ aW := ne_of_none hX nW
    have gG : Same (hide [aO, aX] H') (hide [aW] (upd H' aW (.dK []))) := (hide_same _ _).trans (by rw [hide_mut (by simp)]; exact fun z o e => by rw [hide_out (by simpa using ne_of_none e nW)]; exact e)
    have h1' := h1.mono (sB.trans gG)
    refine ⟨_, _, _, _, _, _, _, v1, L, b.1.1, aW, rfl, h1', okL, hbok.1.2, upd_same, fun o8' o9' H3 kW s3 hW3 kK3 => ?_⟩
    refine ⟨_, _, _, _, _, _, _, v2, M, b.1.2, aW, L.rowOf b.1.1, kW, rfl, (h2.mono (sB.trans gG)).mono s3, okM, hbok.2.2, rowOf_rise okL hbok.1.2, row_few okL hbok.1.2, hW3, kK3, fun o8'' o9'' H4 kW4 ks s4 hW4 kK4 nd mem => ?_⟩
    have s34 := s3.trans s4
    have hO4 : H4 aO = some (.lst ov) := hide_same _ _ _ _ (s34 _ _ (by rw [hide_out (by simpa using nWO), upd_ne nWO]; exact hO))
    have hX4 : H4 aX = some (.dT kvs) := hide_same _ _ _ _ (s34 _ _ (by rw [hide_out (by simpa using nWX), upd_ne nWX]; exact hX))
    have gG4 : Same (hide [aO, aX] H') (hide [aO, aX] H4) := fun z o e => by
      obtain ⟨m1, m2⟩ := hide_some e
      rw [hide_out m1]
      exact hide_same _ _ _ _ (s34 _ _ (gG _ _ e))
    have sB4 := sB.trans gG4
    have iO4 := iO.mono gG4
    have kX4 := kX.mono gG4
    have esg : ∀ c ∈ ks, okSign c = true := fun c hc => by
      rcases (mem c).mp hc with h | h
      · obtain ⟨p, hp, rfl⟩ := List.mem_map.mp h
        exact (rowOf_sign okL hbok.1.2 p hp).1
      · obtain ⟨p, hp, rfl⟩ := List.mem_map.mp h
        exact (rowOf_sign okM hbok.2.2 p hp).1
    refine ⟨_, rfl, aW, kW4, ks.map sgS, rfl, Rd.of hW4, by rw [kK4.1, List.map_map]; rfl, by rw [List.length_map]; have := signs_few nd esg; omega, fun ys pz hpm hso npz => ?_⟩
    obtain ⟨l, rfl, hpl⟩ := perm_map_inv sgS hpm
    have el : l = signs (L.rowOf b.1.1) (M.rowOf b.1.2) := by
      refine rise_ext (strict_of (sorted_sgs hso) (hpl.nodup_iff.mpr nd)) (signs_rise (rowOf_rise okL hbok.1.2) (rowOf_rise okM hbok.2.2)) fun x => ?_
      rw [hpl.mem_iff, mem, mem_signs]
    subst el
    have enx : nx L M b.1 = (signs (L.rowOf b.1.1) (M.rowOf b.1.2)).map fun s => (s, (look (L.rowOf b.1.1) s, look (M.rowOf b.1.2) s)) := rfl
    have s5 := same_new (o := .lst (((signs (L.rowOf b.1.1) (M.rowOf b.1.2)).map sgS).map V.str)) npz
    have hpz : upd H4 pz (.lst (((signs (L.rowOf b.1.1) (M.rowOf b.1.2)).map sgS).map V.str)) pz = some (.lst (((signs (L.rowOf b.1.1) (M.rowOf b.1.2)).map sgS).map V.str)) := upd_same
    have z1 : pz ≠ aO := (ne_of_none hO4 npz).symm
    have z2 : pz ≠ aX := (ne_of_none hX4 npz).symm
    have z3 : pz ≠ aW := (ne_of_none hW4 npz).symm
    generalize upd H4 pz (.lst (((signs (L.rowOf b.1.1) (M.rowOf b.1.2)).map sgS).map V.str)) = H5 at s5 hpz
    have kK5 : KvK (hide [aW, aO, aX] H5) kW4 ks (fun s => nodeD (look (L.rowOf b.1.1) s, look (M.rowOf b.1.2) s)) := by
      have hLt : ∀ p ∈ [aO, aX], ∀ xs, hide [aW] H5 p ≠ some (.tup xs) := fun p hp xs e => by
        have e := hide_same _ _ _ _ e
        simp only [List.mem_cons, List.not_mem_nil, or_false] at hp
        rcases hp with rfl | rfl
        · rw [s5 _ _ hO4] at e; cases e
        · rw [s5 _ _ hX4] at e; cases e
      have k5 := kK4.mono (hide_mono s5)
      refine ⟨k5.1, (Ims.hid hLt k5.2 (noLs_all fun d hd => by obtain ⟨m, _, rfl⟩ := List.mem_map.mp hd; rfl)).mono fun z o e => ?_⟩
      obtain ⟨m1, m2⟩ := hide_some e
      obtain ⟨m3, m4⟩ := hide_some m2
      rw [hide_out (by
        simp only [List.mem_cons, List.not_mem_nil, or_false, not_or] at m1 m3 ⊢
        exact ⟨m3, m1⟩)]
      exact m4
    refine ⟨pz, rfl, ⟨_, SqL.of hpz⟩, for_it (walk_list (xs := ((signs (L.rowOf b.1.1) (M.rowOf b.1.2)).map sgS).map V.str)) (fun j σ H6 => ∃ (o8 o9 : Option V) (ov : List V) (kvs : List (List Key × V)), σ = [some v1, some v2, some (.ref aO), some (.ref aX), some (.int (n : Nat)), some (.int b.1.1), some (.int b.1.2), some (.ref aW), o8, o9] ∧ Same (hide [aO, aX] H5) (hide [aO, aX] H6) ∧ H6 aO = some (.lst ov) ∧ H6 aX = some (.dT kvs) ∧
      Ims (hide [aO, aX] H6) ov ((addTo b.2 (bq L M n) ((nx L M b.1).take j)).map fun b => nodeD b.1) ∧ KvT (hide [aO, aX] H6) kvs (·.1) (fun b => strD b.2) (addTo b.2 (bq L M n) ((nx L M b.1).take j)))
      ⟨_, _, ov, kvs, rfl, fun _ _ e => e, s5 _ _ hO4, s5 _ _ hX4, iO4.mono (hide_mono s5), kX4.mono (hide_mono s5)⟩ (fun j σ H6 _ h => ?_) (fun j x σ H6 H7 hj h y => ?_) fun σ H6 h => ?_⟩
    · obtain ⟨_, _, _, _, _, sJ, _⟩ := h
      refine SqL.of (hide_same _ _ _ _ (sJ _ _ ?_))
      rw [hide_out (by simp [z1, z2])]; exact hpz
    · obtain ⟨o8, o9, ov, kvs, rfl, sJ, hO6, hX6, iO6, kX6⟩ := h
      obtain ⟨rfl, hx⟩ := y
      have hjl : j < (signs (L.rowOf b.1.1) (M.rowOf b.1.2)).length := by simpa using hj
      have hsj : (signs (L.rowOf b.1.1) (M.rowOf b.1.2))[j]? = some (signs (L.rowOf b.1.1) (M.rowOf b.1.2))[j] := List.getElem?_eq_getElem hjl
      have hsm := List.getElem_mem hjl
      generalize (signs (L.rowOf b.1.1) (M.rowOf b.1.2))[j] = sj at hsj hsm
      rw [List.getElem?_map, List.getElem?_map, hsj] at hx
      cases hx
      have hpj : (nx L M b.1)[j]? = some (sj, (look (L.rowOf b.1.1) sj, look (M.rowOf b.1.2) sj)) := by rw [enx, List.getElem?_map, hsj]; rfl
      rw [addTo_take b.2 (nx L M b.1) (bq L M n) j _ hpj]
      have hlA : (addTo b.2 (bq L M n) ((nx L M b.1).take j)).length ≤ 400 := by
        have h1 := congrArg List.length (addTo_app b.2 ((nx L M b.1).take j) ((nx L M b.1).drop j) (bq L M n))
        rw [List.take_append_drop] at h1
        have h2 := (addTo_pre b.2 ((nx L M b.1).drop j) (addTo b.2 (bq L M n) ((nx L M b.1).take j))).length_le
        omega
      have hbA : (addTo b.2 (bq L M n) ((nx L M b.1).take j))[n]? = some b := by
        obtain ⟨tl, e⟩ := addTo_pre b.2 ((nx L M b.1).take j) (bq L M n)
        rw [← e, List.getElem?_append_left hlt]; exact hb
      have ndA := addTo_nodup b.2 ((nx L M b.1).take j) (bq L M n) (bq_nodup n)
      generalize addTo b.2 (bq L M n) ((nx L M b.1).take j) = AA at iO6 kX6 hlA hbA ndA
      have hsk : sj ∈ ks := by rw [mem]; exact mem_signs.mp hsm
      obtain ⟨v, hv1, hv2⟩ := kK5.get nd hsk
      obtain ⟨bb, rfl, hbb⟩ := nodeD_inv hv2
      have hW7 : H7 aW = some (.dK kW4) := hide_same _ _ _ _ (sJ _ _ (by
        rw [hide_out (by
          simp only [List.mem_cons, List.not_mem_nil, or_false, not_or]
          exact ⟨nWO.symm, nWX.symm⟩)]
        exact s5 _ _ hW4))
      have hbbG : hide [aO, aX] H7 bb = some (.tup [.int (look (L.rowOf b.1.1) sj), .int (look (M.rowOf b.1.2) sj)]) := sJ _ _ (hide_drop _ _ hbb)
      have hbb7 := hide_same _ _ _ _ hbbG
      have dW : DGet H7 aW (.str (sgS sj)) (some (.ref bb)) := .inl ⟨kW4, kS sj, Rd.of hW7, rfl, hv1.symm⟩
      refine ⟨_, rfl, _, rfl, aW, _, rfl, dW, _, rfl, aX, _, rfl, DGet.t (k := keyN (look (L.rowOf b.1.1) sj, look (M.rowOf b.1.2) sj)) hX6 hbb7, _, rfl, ?_⟩
      rw [kX6.isSome]
      by_cases hin : ((look (L.rowOf b.1.1) sj, look (M.rowOf b.1.2) sj) : Node) ∈ AA.map (·.1)
      · rw [decide_eq_true hin, if_pos hin]
        exact iteF ⟨_, _, ov, kvs, rfl, sJ, hO6, hX6, iO6, kX6⟩
      · rw [decide_eq_false hin, if_neg hin]
        obtain ⟨vy, hvy, ivy⟩ := iO6.at_ (i := n) (d := nodeD b.1) (by rw [List.getElem?_map, hbA]; rfl)
        obtain ⟨by_, rfl, hby⟩ := nodeD_inv ivy
        obtain ⟨vt, _, hvt, ivt⟩ := kX6.at_ ndA hbA
        cases ivt.str_inv
        refine iteT ⟨_, rfl, _, rfl, _, rfl, aO, ov, _, _, rfl, rfl, SqL.of hO6, atI_nat hvy, aX, _, rfl, .inr ⟨kvs, keyN b.1, by_, .inl hX6, rfl, hide_same _ _ _ _ hby, hvt.symm⟩, _, rfl, ⟨b.2.toArray⟩, sgS sj, rfl, rfl, szle (by show b.2.toArray.size + 1 ≤ _; rw [List.size_toArray]; omega), ?_⟩
        rw [str_snoc]
        have l6 := kX6.len
        have l7 := iO6.len
        rw [List.length_map] at l7
        refine ⟨_, rfl, _, rfl, _, rfl, aW, _, rfl, dW, aX, _, rfl, DPut.t (k := keyN (look (L.rowOf b.1.1) sj, look (M.rowOf b.1.2) sj)) hX6 hbb7 (szlt (by omega)), ?_⟩
        have hW8 : ∀ {o : HO}, upd H7 aX o aW = some (.dK kW4) := fun {o} => (upd_ne nWX.symm).trans hW7
        have hO8 : ∀ {o : HO}, upd H7 aX o aO = some (.lst ov) := fun {o} => (upd_ne nOX').trans hO6
        refine ⟨_, rfl, .inl ⟨rfl, _, SqL.of hO8⟩, _, rfl, _, rfl, aW, _, rfl, .inl ⟨kW4, kS sj, Rd.of hW8, rfl, hv1.symm⟩, aO, ov, _, rfl, rfl, hO8, szlt (by omega), ?_⟩
        have hh : ∀ {o o' : HO}, hide [aO, aX] (upd (upd H7 aX o) aO o') = hide [aO, aX] H7 := fun {o o'} => by rw [hide_mut (by simp), hide_mut (by simp)]
        refine ⟨_, _, _, _, rfl, by rw [hh]; exact sJ, upd_same, (upd_ne nOX'.symm).trans upd_same, ?_, ?_⟩
        · rw [hh, List.map_append]
          exact iO6.snoc (Im.pair hbbG (.int _) (.int _))
        · rw [hh]
          exact kX6.put (a := ((look (L.rowOf b.1.1) sj, look (M.rowOf b.1.2) sj), b.2 ++ [sj])) hin (.str _)
    · obtain ⟨o8, o9, ov, kvs, rfl, sJ, hO6, hX6, iO6, kX6⟩ := h
      have e1 : (((signs (L.rowOf b.1.1) (M.rowOf b.1.2)).map sgS).map V.str).length = (nx L M b.1).length := by rw [enx]; simp
      rw [e1, List.take_length] at iO6 kX6
      exact ⟨_, _, _, _, _, _, ov, kvs, rfl, (sB4.trans (hide_mono s5)).trans sJ, hO6, hX6, iO6, kX6⟩
  · obtain ⟨o4, o5, o6, o7, o8, o9, ov, kvs, rfl, sB, hO, hX, iO, kX⟩ := h
    rw [← fin_eq] at iO kX
    refine ⟨_, rfl, _, rfl, sz2, fun t nt => ?_⟩
    have s5 := same_new (o := .tup [.ref aO, .ref aX]) nt
    have sC := (hide_same [aO, aX] H').trans s5
    have nt' : H t = none := (sB.trans (hide_same _ _)).free nt
    exact k _ t aO aX ov kvs (sB.trans sC) nt' nO0 upd_same (s5 _ _ hO) (s5 _ _ hX) (iO.mono sC) (kX.mono sC)
end
end Tk
set_option maxHeartbeats 4000000
set_option pp.maxSteps 1900
/-! the verdict -/
namespace Tk
open PySem L2 LamX
theorem inV_end (L : Pl) (a : Int) : inV (.int a) (L.ends.map fun (i : Nat) => V.int i) = isEnd L a := by
  by_cases h : 0 ≤ a
  · rw [inV_ends _ _ h]; unfold isEnd; rw [decide_eq_true h]; rfl
  · unfold isEnd; rw [decide_eq_false h, Bool.false_and]
    unfold inV
    rw [List.any_eq_false]
    intro y hy
    obtain ⟨i, _, rfl⟩ := List.mem_map.mp hy
    have : ((i : Nat) : Int) ≠ a := by omega
    simpa [eqV] using this
theorem eqv_nodes : ∀ l : List Node, PyData.eqvAll (l.map nodeD) (l.map nodeD) = true
  | [] => by simp [PyData.eqvAll]
  | n :: l => by
    rw [List.map_cons, PyData.eqvAll, eqv_nodes l]
    have : PyData.eqv (nodeD n) (nodeD n) = true := by unfold nodeD; simp [PyData.eqv, PyData.eqvAll]
    rw [this]; rfl
theorem shaped_nodes (l : List Node) : SeqAt.shaped (.list (l.map nodeD)) = true := by
  unfold SeqAt.shaped
  rw [Bool.and_eq_true]
  have h1 : PyData.canLayAll0 (l.map nodeD) = true := by
    induction l with
    | nil => rfl
    | cons a l ih =>
      rw [List.map_cons, PyData.canLayAll0, ih]
      have : PyData.canLay0 (nodeD a) = true := by unfold nodeD; simp [PyData.canLay0, PyData.canLayAll0]
      rw [this]; rfl
  have h2 : PyData.depthAll (l.map nodeD) ≤ 1 := depth_all fun d hd => by
    obtain ⟨n, _, rfl⟩ := List.mem_map.mp hd
    unfold nodeD; simp [PyData.depth, PyData.depthAll]
  refine ⟨by rw [PyData.canLay0]; exact h1, ?_⟩
  rw [PyData.depth]
  exact decide_eq_true (by omega)
section
variable {P : Program} {w : World} {K : PySem.W.Frag} {mg : Str → Option Value} {base : Heap}
theorem PPO.hL {C : Addr} {H : Hp} {p dx : Addr} {fs : List (Str × V)} {L M : Pl} {E : XK} {k : Nat} (h : PPO C H p L M) (hk : (rowsD L M).length = k) : ∀ H', Same H H' → H' p = some (.ins C dx fs) → spPpLen C [.ref p] H' (fun v H'' => v = .int (k : Nat) ∧ H'' = H') E :=
  fun H' s ha => ⟨p, L, M, rfl, h.mono s, ⟨by rw [hk], rfl⟩⟩
theorem PPO.hI {C : Addr} {H : Hp} {p dx t : Addr} {fs : List (Str × V)} {ys : List V} {E : XK} (h6 : fs.lookup ("rows" : Str) = some (V.ref t)) (h7 : H t = some (.tup ys)) : ∀ H' : Hp, Same H H' → H' p = some (.ins C dx fs) → spPpIter C [.ref p] H' (fun v H'' => ∃ it, v = .ref it ∧ H' it = none ∧ H'' = upd H' it (TitO it t)) E :=
  fun H' s ha => ⟨p, dx, fs, t, ys, rfl, ha, h6, s _ _ h7, fun it hit => ⟨it, rfl, hit, rfl⟩⟩
def spVerdict (C D : Addr) : Sp := fun vs H Q _ => ∃ (p : Addr) (v1 v2 : V) (L M : Pl), vs = [.ref p, v1, v2] ∧ PPO D H p L M ∧ Im H v1 L.d ∧ Im H v2 M.d ∧ L.Ok ∧ M.Ok ∧ (L.rows.length + 1) * (M.rows.length + 1) ≤ 400 ∧ ∀ H', Same H H' → Q (.bl true) H'
theorem ok_verdict (T : Fx K mg) : FnOk P w K mg base CX0 5 T.a_verdict T.d_verdict ["_law_told", "_law_one", "_law_two_here"] (spVerdict T.cP T.cQ) := by
  refine T.F_verdict.ok sc_verdict (fun vs H Q E h => ?_) (fun cdv A outer s H vs Q E hr h => ?_)
  · obtain ⟨p, v1, v2, L, M, rfl, _⟩ := h; rfl
  obtain ⟨p, v1, v2, L, M, rfl, hp, h1, h2, okL, okM, hs, k⟩ := h
  have hu := hu_of hr
  refine ⟨_, PSs.nox ((pss_cons (ps_asg (pe_call (ok_pairs T) (hr.mono (by decide)) (by rfl) T.g_pairs T.F_pairs.kp T.b_pairs .nil pass0 (pa_cons (pv 1) (pa_cons (pv 2) pa_nil))) (pg_tup rfl (pgs_cons (pg_name (i := 3) sc_verdict.nd rfl (.inl rfl)) (pgs_cons (pg_name (i := 4) sc_verdict.nd rfl (.inl rfl)) pgs_nil))))
    (pss_cons (ps_setLc (i := 5) (own := [("_law_pair", 7)]) (by rfl) sc_verdict.nd rfl rfl (sw_true rfl rfl rfl (by decide +kernel)) (pi_list (pv 3)) (blkOk_by (own := [("_law_pair", 7)]) (N := ["_law_told", "_law_one", "_law_two_here", "_law_order", "_law_texts", "_law_unlike", "_law_row", "_law_pair", "_law_part"]) (sc := defScope (top 43)) (by decide +kernel)) (fun _ _ _ _ _ => (pg_name (i := 7) sc_verdict.nd rfl (.inl rfl))) (fun _ _ _ _ _ => (pts_one (pt_cmpR op_ne (pe_cmpR op_inS (pe_ix ix_lt (pv 7) pe_int (fun _ _ => rfl)) (pe_ix ix_lt (pv 1) pe_int (fun _ _ => rfl)) (by rfl)) (pe_cmpR op_inS (pe_ix ix_lt (pv 7) pe_int (fun _ _ => rfl)) (pe_ix ix_lt (pv 2) pe_int (fun _ _ => rfl)) (by rfl)) (nomark _)))) (fun _ _ _ _ _ => (pv 7)))
    (pss_cons (ps_if (pt_truth (pv 5) (by intro _; rfl))
      (pss_cons (ps_if (PW.pt (pw_or (pt_val (pe_callTy (cr_boolO (E := E0) (hr.mono (by decide)) T.m_ppBool (ok_ppBool T) T.b_ppBool) (by rfl) T.z_bool (by decide +kernel) (pa_cons (pv 0) pa_nil))) (pw_or (pt_cmpR op_notN (pe_fld (pv 0) rfl) pe_non (nomark _)) (pw_or (pt_cmpR (op_neD hr.units) (pe_callTy (cr_listO (E := E0) rfl (hr.mono (by decide)) T.m_ppLen (ok_ppLen T) T.b_ppLen T.m_ppIter (ok_ppIter T) T.b_ppIter) (by rfl) T.z_list (by decide +kernel) (pa_cons (pv 0) pa_nil)) (pe_lst pa_nil) (nomark _)) (pw_or1 (pt_cmpR op_ne (pe_callB (cr_lenO (E := E0) (hr.mono (by decide)) T.m_ppLen (ok_ppLen T) T.b_ppLen) (by rfl) T.z_len (by decide +kernel) (pa_cons (pv 0) pa_nil)) pe_int (nomark _)))))))
        (pss_one (ps_ret pe_bl))
        pss_nil)
      (pss_cons (ps_if (PW.pt (pw_or (pt_not (pt_val (pe_call (ok_lisint T) (hr.mono (by decide)) (by rfl) T.g_lisint T.F_lisint.kp T.b_lisint .nil pass0 (pa_cons (pe_fld (pv 0) rfl) pa_nil)))) (pw_or1 (pt_cmpR op_ne (pe_fld (pv 0) rfl) (pe_callTy call_int1 (by rfl) T.z_int (by decide +kernel) (pa_cons (pe_cmpR op_in_seq (pe_ix ix_tup (pe_ix ix_list (pv 5) pe_int (fun _ _ => rfl)) pe_int (fun _ _ => rfl)) (pe_ix ix_tup (pv 2) pe_int (fun _ _ => rfl)) (by rfl)) pa_nil)) (nomark _)))))
        (pss_one (ps_ret pe_bl))
        pss_nil)
      (pss_one (ps_ret (pe_cmpR op_eq (pe_fld (pv 0) rfl) (pe_dget hu (pv 4) (pe_ix ix_list (pv 5) pe_int (fun _ _ => rfl)) (fun _ _ => rfl)) (nomark _))))))
      pss_nil)
    (pss_cons (ps_if (PW.pt (pw_or (pt_not (pt_val (pe_callTy (cr_boolO (E := E0) (hr.mono (by decide)) T.m_ppBool (ok_ppBool T) T.b_ppBool) (by rfl) T.z_bool (by decide +kernel) (pa_cons (pv 0) pa_nil)))) (pw_or (pt_cmpR op_notN (pe_fld (pv 0) rfl) pe_non (nomark _)) (pw_or (pt_cmpR op_notN (pe_fld (pv 0) rfl) pe_non (nomark _)) (pw_or1 (pt_not (pt_val (pe_callB (cr_is kit_T) (by rfl) T.z_isinstance (by decide +kernel) (pa_cons (pe_fld (pv 0) rfl) (pa_cons (pe_bltn (v := .ty "tuple") (u := .type "tuple") (by rfl) T.z_tuple (by decide +kernel) rfl) pa_nil))))))))))
      (pss_one (ps_ret pe_bl))
      pss_nil)
    (pss_cons (ps_for PassesOwn.never rfl (pi_tup (pe_fld (pv 0) rfl)) (pg_name (i := 6) sc_verdict.nd rfl (.inl rfl))
      (pss_one (ps_if (PW.pt (pw_or (pt_not (pt_val (pe_callB (cr_is kit_T) (by rfl) T.z_isinstance (by decide +kernel) (pa_cons (pv 6) (pa_cons (pe_bltn (v := .ty "tuple") (u := .type "tuple") (by rfl) T.z_tuple (by decide +kernel) rfl) pa_nil))))) (pw_or1 (pt_not (pt_val (pe_callB (cr_all rfl) (by rfl) T.z_all (by decide +kernel) (pa_cons (pe_lc (own := [("_law_part", 8)]) (by rfl) sc_verdict.nd (pi_tup (pv 6)) (blkOk_by (own := [("_law_part", 8)]) (N := ["_law_told", "_law_one", "_law_two_here", "_law_order", "_law_texts", "_law_unlike", "_law_row", "_law_pair", "_law_part"]) (sc := defScope (top 43)) (by decide +kernel)) (fun _ _ _ _ _ => (pg_name (i := 8) sc_verdict.nd rfl (.inl rfl))) (fun _ _ _ _ _ => pts_nil) (fun _ _ _ _ _ => (pe_call (ok_lisint T) (hr.mono (by decide)) (by rfl) T.g_lisint T.F_lisint.kp T.b_lisint .nil pass0 (pa_cons (pv 8) pa_nil)))) pa_nil)))))))
        (pss_one (ps_ret pe_bl))
        pss_nil)))
    (pss_one (ps_ret (pe_and (pe_cmpR (op_eqD hr.units) (pe_callTy call_list_of (by rfl) T.z_list (by decide +kernel) (pa_cons (pe_fld (pv 0) rfl) pa_nil)) (pv 3) (nomark _)) (pe_and (pe_cmpR (op_eqD hr.units) (pe_callTy (cr_listO (E := E0) rfl (hr.mono (by decide)) T.m_ppLen (ok_ppLen T) T.b_ppLen T.m_ppIter (ok_ppIter T) T.b_ppIter) (by rfl) T.z_list (by decide +kernel) (pa_cons (pv 0) pa_nil)) (pv 3) (nomark _)) (pe_one (pe_cmpR op_eq (pe_callB (cr_lenO (E := E0) (hr.mono (by decide)) T.m_ppLen (ok_ppLen T) T.b_ppLen) (by rfl) T.z_len (by decide +kernel) (pa_cons (pv 0) pa_nil)) (pe_callB call_len_seq (by rfl) T.z_len (by decide +kernel) (pa_cons (pv 3) pa_nil)) (nomark _))))))))))))), ?_⟩
  refine ⟨_, rfl, _, rfl, v1, v2, L, M, rfl, h1, h2, okL, okM, hs, fun H1 t aO aX ov kvs s1 nt nO ht hO hX iO kX => ?_⟩
  refine ⟨t, _, rfl, SqT.of ht, rfl, _, _, rfl, _, _, rfl, rfl, ?_⟩
  obtain ⟨a1, b1, e1, x1, rfl, p1, p2, p3, p4⟩ := Pl.inv (h1.mono s1)
  obtain ⟨a2, b2, e2, x2, rfl, q1, q2, q3, q4⟩ := Pl.inv (h2.mono s1)
  have few := fin_few okL okM hs
  have ol : ov.length = (fin L M).length := by rw [iO.len, List.length_map]
  refine ⟨_, rfl, aO, rfl, ⟨_, SqL.of hO⟩, fun U nU => lc_it (walk_list (xs := ov)) (PvIm H1 U fun i => ((fin L M)[i]?).bind fun b => if unlike L M b = true then some (nodeD b.1) else none) (PvIm.zero nU) (fun i H' _ pv => SqL.of (pv.base _ _ hO)) (fun i x H' H'' hi pv y => ?_) fun H2 pv => ?_⟩
  · obtain ⟨rfl, hx⟩ := y
    obtain ⟨d, hd, him⟩ := iO.get hx
    rw [List.getElem?_map] at hd
    have hif : i < (fin L M).length := by rw [← ol]; exact hi
    have hb : (fin L M)[i]? = some (fin L M)[i] := List.getElem?_eq_getElem hif
    generalize (fin L M)[i] = b at hb
    rw [hb] at hd
    cases hd
    obtain ⟨bn, rfl, hbn⟩ := nodeD_inv him
    have sb := pv.base
    refine ⟨rfl, _, rfl, bn, _, 0, _, rfl, rfl, .inr (sb _ _ hbn), atI_0, _, rfl, a1, _, 1, _, rfl, rfl, .inr (sb _ _ p1), atI_1, e1, _, rfl, .inr (sb _ _ p4), rfl, flat_ends _, ?_⟩
    refine ⟨_, rfl, bn, _, 1, _, rfl, rfl, .inr (sb _ _ hbn), atI_1, _, rfl, a2, _, 1, _, rfl, rfl, .inr (sb _ _ q1), atI_1, e2, _, rfl, .inr (sb _ _ q4), rfl, flat_ends _, rfl, _, rfl, ?_⟩
    have ee : (!decide (V.bl (if false = true then !inV (.int b.1.1) (L.ends.map fun (i : Nat) => V.int i) else inV (.int b.1.1) (L.ends.map fun (i : Nat) => V.int i)) = V.bl (if false = true then !inV (.int b.1.2) (M.ends.map fun (i : Nat) => V.int i) else inV (.int b.1.2) (M.ends.map fun (i : Nat) => V.int i)))) = unlike L M b := by
      rw [if_neg Bool.false_ne_true, if_neg Bool.false_ne_true, inV_end, inV_end, ne_flags]; rfl
    rw [ee]
    cases hU : unlike L M b with
    | true => exact iteT ⟨_, rfl, pv.push (fun _ _ e => e) rfl (d := nodeD b.1) (by show ((fin L M)[i]?).bind _ = _; rw [hb]; show (if unlike L M b = true then _ else _) = _; rw [hU]; rfl) (by
        have hD : ∃ acc, H'' U = some (.lst acc) := by obtain ⟨_, acc, h, _⟩ := pv; exact ⟨acc, h⟩
        obtain ⟨acc, hD⟩ := hD
        refine Im.pair (x := .int b.1.1) (y := .int b.1.2) ?_ (.int _) (.int _)
        rw [hide_out (by simpa using fun e : bn = U => by have := sb _ _ hbn; rw [e, hD] at this; cases this)]
        exact sb _ _ hbn) (by omega)⟩
    | false => exact iteF (pv.skip (fun _ _ e => e) rfl (by show ((fin L M)[i]?).bind _ = _; rw [hb]; show (if unlike L M b = true then _ else _) = _; rw [hU]; rfl))
  · have s2 := pv.base
    obtain ⟨_, uv, hU, _, iU⟩ := pv
    rw [ol, filterMap_range] at iU
    have iU := iU.mono (hide_same _ _)
    have eU : ((fin L M).filterMap fun b => if unlike L M b = true then some (nodeD b.1) else none) = ((fin L M).filter (unlike L M)).map fun b => nodeD b.1 := by
      induction fin L M with
      | nil => rfl
      | cons b l ih =>
        rw [List.filterMap_cons, List.filter_cons]
        cases unlike L M b with
        | true => rw [if_pos rfl, if_pos rfl, List.map_cons]; exact congrArg _ ih
        | false => rw [if_neg (by simp), if_neg (by simp)]; exact ih
    rw [eU] at iU
    have s12 := s1.trans s2
    have hp2 := hp.mono s12
    refine ⟨_, rfl, !uv.isEmpty, .inl ⟨uv, SqL.of hU, rfl⟩, ?_⟩
    have eh : unl L M = ((fin L M).filter (unlike L M)).head? := (List.head?_filter).symm
    have hrl : (rowsD L M).length ≤ 1000 := by
      unfold rowsD
      cases unl L M with
      | none => show (nodesD L M).length ≤ _; unfold nodesD; rw [List.length_map]; omega
      | some b => exact Nat.zero_le _
    have s02 := s12
    obtain ⟨dx, fs, tv, tr, ys, f1, f2, f3, f4, f5, f6, f7, f8, f9⟩ := id hp2
    cases hu2 : unl L M with
    | some b =>
      rw [hu2] at eh
      have hbm : b ∈ fin L M ∧ unlike L M b = true := by
        have := List.find?_eq_some_iff_append.mp hu2
        exact ⟨List.mem_of_find?_eq_some hu2, this.1⟩
      obtain ⟨rest, er⟩ : ∃ rest, (fin L M).filter (unlike L M) = b :: rest := by
        cases e : (fin L M).filter (unlike L M) with
        | nil => rw [e] at eh; cases eh
        | cons c r => rw [e] at eh; cases eh; exact ⟨r, rfl⟩
      rw [er] at iU
      obtain ⟨u0, ur, rfl, iu0, _⟩ := iU.cons_inv
      obtain ⟨bn, rfl, hbn⟩ := nodeD_inv iu0
      have etv : tv = .non := by
        have : tableD L M = .none := by unfold tableD; rw [hu2]
        rw [this] at f9
        exact f9.non_inv
      subst etv
      have erow : rowsD L M = [] := by unfold rowsD; rw [hu2]
      refine iteT ⟨_, rfl, p, dx, fs, _, rfl, f1, ⟨p, L, M, rfl, hp2, ⟨rfl, ?_⟩⟩⟩
      rw [hu2]
      refine ⟨_, rfl, ?_⟩
      refine iteF ⟨_, rfl, p, T.cQ, dx, fs, _, rfl, f1, T.clQ, T.nQ_table, f3, rfl, _, rfl, ?_⟩
      have yl := f8.len
      refine iteF ⟨_, rfl, p, dx, fs, tr, ys, rfl, f1, f7, by omega, hp2.hL yl.symm, PPO.hI f6 f7, fun lq H3 s3 nlq hl3 => ?_⟩
      refine ⟨Nat.zero_le _, fun le ne => ?_⟩
      have il3 := f8.mono s3
      rw [erow] at il3
      cases il3.nil_inv
      have s4 := same_new (o := .lst []) ne
      refine ⟨.list [], .list [], Im.dp (.lst (s4 _ _ hl3) .nil), Im.dp (.lst upd_same .nil), by decide +kernel, by decide +kernel, _, rfl, ?_⟩
      rw [show (!PyData.eqv (.list []) (.list [])) = false by simp [PyData.eqv, PyData.eqvAll]]
      have s24 := s3.trans s4
      refine iteF ⟨_, rfl, p, dx, fs, ((rowsD L M).length : Nat), rfl, s24 _ _ f1, ⟨by omega, by omega⟩, (hp2.mono s24).hL rfl _ (fun _ _ e => e) (s24 _ _ f1), ?_⟩
      rw [erow]
      refine ⟨rfl, _, rfl, iteF ?_⟩
      generalize upd H3 le (.lst []) = H5 at s24
      have g1 := s24 _ _ f1
      have hU5 := s24 _ _ hU
      have hbn5 := s24 _ _ hbn
      rw [hu2] at f4 f5
      have hbear : bearV L (some b) = .int (if isEnd L b.1.1 = true then 0 else 1) := rfl
      rw [hbear] at f5
      refine ⟨_, rfl, p, T.cQ, dx, fs, _, rfl, g1, T.clQ, T.nQ_bearer, f5, _, .int _, rfl, .int _, _, rfl, ?_⟩
      refine iteF ⟨_, rfl, p, T.cQ, dx, fs, _, rfl, g1, T.clQ, T.nQ_bearer, f5, ?_⟩
      refine ⟨_, rfl, U, _, 0, _, rfl, rfl, SqL.of hU5, atI_0, bn, _, 1, _, rfl, rfl, SqT.of hbn5, atI_1, _, rfl, a2, _, 1, _, rfl, rfl, SqT.of (s24 _ _ (s2 _ _ q1)), atI_1, e2, _, rfl, .inr (SqT.of (s24 _ _ (s2 _ _ q4))), rfl, flat_ends _, ?_⟩
      rw [if_neg Bool.false_ne_true, inV_end]
      refine .inr ⟨_, rfl, rfl, _, rfl, ?_⟩
      have ebe : (if isEnd L b.1.1 = true then (0 : Int) else 1) = if isEnd M b.1.2 = true then 1 else 0 := by
        have := hbm.2
        unfold unlike at this
        cases h1 : isEnd L b.1.1 <;> cases h2 : isEnd M b.1.2 <;> simp [h1, h2] at this ⊢
      rw [show (!decide (V.int (if isEnd L b.1.1 = true then (0 : Int) else 1) = V.int (if isEnd M b.1.2 = true then 1 else 0))) = false by rw [ebe]; simp]
      obtain ⟨ib, hib⟩ := List.mem_iff_getElem?.mp hbm.1
      obtain ⟨vt, _, hvt, ivt⟩ := kX.at_ fin_nodup hib
      cases ivt.str_inv
      have s5 := s2.trans s24
      refine iteF ⟨_, rfl, p, T.cQ, dx, fs, _, rfl, g1, T.clQ, T.nQ_text, f4, _, rfl, _, rfl, U, _, 0, _, rfl, rfl, SqL.of hU5, atI_0, aX, _, rfl, .inr ⟨kvs, keyN b.1, bn, .inl (s5 _ _ hX), rfl, hbn5, hvt.symm⟩, rfl, ?_⟩
      have := k _ (s12.trans s24)
      show Q (V.bl (decide (V.str ⟨b.2.toArray⟩ = V.str ⟨b.2.toArray⟩))) _
      rw [decide_eq_true rfl]
      exact this
    | none =>
      rw [hu2] at eh
      have ef : (fin L M).filter (unlike L M) = [] := by
        cases e : (fin L M).filter (unlike L M) with
        | nil => rfl
        | cons c r => rw [e] at eh; cases eh
      rw [ef] at iU
      cases iU.nil_inv
      have etb : tableD L M = .tuple (nodesD L M) := by unfold tableD; rw [hu2]
      have erow : rowsD L M = nodesD L M := by unfold rowsD; rw [hu2]
      rw [etb] at f9
      rw [erow] at f8
      obtain ⟨tt, zs, rfl, htt, iz⟩ := f9.tup_inv
      rw [hu2] at f4 f5
      have zl : zs.length = (fin L M).length := by rw [iz.len]; unfold nodesD; rw [List.length_map]
      refine iteF ⟨_, rfl, p, dx, fs, _, rfl, f1, ⟨p, L, M, rfl, hp2, ⟨rfl, ?_⟩⟩⟩
      rw [hu2]
      refine ⟨_, rfl, iteF ⟨_, rfl, p, T.cQ, dx, fs, _, rfl, f1, T.clQ, T.nQ_text, f4, rfl, _, rfl, iteF ⟨_, rfl, p, T.cQ, dx, fs, _, rfl, f1, T.clQ, T.nQ_bearer, f5, rfl, _, rfl, ?_⟩⟩⟩
      refine iteF ⟨_, rfl, p, T.cQ, dx, fs, _, rfl, f1, T.clQ, T.nQ_table, f3, _, .tuple (nodesD L M), rfl, .tup htt iz, _, rfl, iteF ?_⟩
      refine ⟨_, rfl, p, T.cQ, dx, fs, _, rfl, f1, T.clQ, T.nQ_table, f3, tt, rfl, ⟨_, SqT.of htt⟩, for_it (walk_tup (xs := zs)) (fun i σ H3 => ∃ o6 o7 o8, σ = [some (.ref p), some (.ref a1), some (.ref a2), some (.ref aO), some (.ref aX), some (.ref U), o6, o7, o8] ∧ Same H2 H3)
        ⟨_, _, _, rfl, fun _ _ e => e⟩ (fun i σ H3 _ h => ?_) (fun i x σ H3 H4 hi h y => ?_) fun σ H3 h => ?_⟩
      · obtain ⟨_, _, _, _, h⟩ := h
        exact SqT.of (h _ _ htt)
      · obtain ⟨o6, o7, o8, rfl, s3⟩ := h
        obtain ⟨rfl, hx⟩ := y
        obtain ⟨d, hd, him⟩ := iz.get hx
        unfold nodesD at hd
        rw [List.getElem?_map] at hd
        have hif : i < (fin L M).length := by rw [← zl]; exact hi
        have hb : (fin L M)[i]? = some (fin L M)[i] := List.getElem?_eq_getElem hif
        generalize (fin L M)[i] = b at hb
        rw [hb] at hd
        cases hd
        obtain ⟨bn, rfl, hbn⟩ := nodeD_inv him
        have hbn3 := s3 _ _ hbn
        refine ⟨_, rfl, _, nodeD b.1, rfl, him.mono s3, _, rfl, iteF ?_⟩
        refine ⟨_, rfl, bn, rfl, ⟨_, SqT.of hbn3⟩, fun D nD => lc_it (walk_tup (xs := [V.int b.1.1, V.int b.1.2])) (fun i H' => Same H4 (hide [D] H') ∧ H' D = some (.lst ((List.replicate i true).map V.bl))) ⟨?_, upd_same⟩ (fun i H' _ pv => SqT.of (hide_same _ _ _ _ (pv.1 _ _ hbn3))) (fun i x H' H'' hi2 pv y => ?_) fun H' pv => ?_⟩
        · rw [hide_mut (by simp)]
          exact fun z o e => by rw [hide_out (by simpa using ne_of_none e nD)]; exact e
        · obtain ⟨rfl, hx2⟩ := y
          refine ⟨rfl, _, rfl, x, .int (if i = 0 then b.1.1 else b.1.2), rfl, ?_, _, pv.2, by rw [List.length_map, List.length_replicate]; exact szlt (by have : ([V.int b.1.1, V.int b.1.2] : List V).length = 2 := rfl; omega), ?_, ?_⟩
          · have hi2 : i < 2 := hi2
            match i, hx2 with
            | 0, hx2 => cases hx2; exact .int _
            | 1, hx2 => cases hx2; exact .int _
            | n + 2, _ => omega
          · rw [hide_mut (by simp)]; exact pv.1
          · rw [upd_same, List.replicate_succ', List.map_append]; rfl
        · refine ⟨D, _, rfl, SqL.of pv.2, _, rfl, ?_⟩
          show (if (!(List.replicate 2 true).all id) = true then _ else _)
          exact iteF ⟨_, _, _, rfl, s3.trans (pv.1.trans (hide_same _ _))⟩
      · obtain ⟨o6, o7, o8, rfl, s3⟩ := h
        have t3 := hp2.mono s3
        have yl := f8.len
        have e1 : (rowsD L M).length = ys.length := by rw [erow, yl]
        refine ⟨_, rfl, p, T.cQ, dx, fs, _, rfl, s3 _ _ f1, T.clQ, T.nQ_table, f3, tt, _, rfl, .inr (SqT.of (s3 _ _ htt)), fun l1 nl1 => ?_⟩
        have s4 := s3.trans (same_new (o := .lst zs) nl1)
        have e12 : nodesD L M = ((fin L M).map (·.1)).map nodeD := by unfold nodesD; rw [List.map_map]; rfl
        have sh : SeqAt.shaped (.list (nodesD L M)) = true := by rw [e12]; exact shaped_nodes _
        have ev : PyData.eqv (.list (nodesD L M)) (.list (nodesD L M)) = true := by rw [PyData.eqv, e12]; exact eqv_nodes _
        have hO4 : ∀ {H4 : Hp}, Same H2 H4 → Im H4 (.ref aO) (.list (nodesD L M)) := fun {H4} s => .lst (s _ _ (s2 _ _ hO)) ((iO.mono s2).mono s)
        refine ⟨_, rfl, .list (nodesD L M), .list (nodesD L M), Im.dp (.lst upd_same (iz.mono s4)), (hO4 s4).dp, sh, sh, _, rfl, ?_⟩
        rw [ev]
        refine iteT ⟨_, rfl, p, dx, fs, tr, ys, rfl, s4 _ _ f1, s4 _ _ f7, by omega, (hp2.mono s4).hL e1, PPO.hI f6 (s4 _ _ f7), fun lq H5 s5 nlq hl5 => ?_⟩
        have s45 := s4.trans s5
        refine ⟨_, rfl, .list (nodesD L M), .list (nodesD L M), Im.dp (.lst hl5 (f8.mono s45)), (hO4 s45).dp, sh, sh, _, rfl, ?_⟩
        rw [ev]
        refine iteT ⟨_, rfl, p, dx, fs, (ys.length : Nat), rfl, s45 _ _ f1, ⟨by omega, by omega⟩, (hp2.mono s45).hL e1 _ (fun _ _ e => e) (s45 _ _ f1), ?_⟩
        refine ⟨_, rfl, aO, _, rfl, .inl (SqL.of (s45 _ _ (s2 _ _ hO))), rfl, ?_⟩
        have := k _ (s12.trans s45)
        have e9 : decide (V.int (ys.length : Nat) = V.int (ov.length : Nat)) = true := decide_eq_true (by rw [yl, ol]; unfold nodesD; rw [List.length_map])
        rw [e9]
        exact this
end
end Tk
set_option maxHeartbeats 2000000
set_option pp.maxSteps 2500
/-! signs, states, rising ends -/
namespace Tk
open PySem L2
theorem pe_never {X : Cx} {e : Expr} : PE X e (fun _ _ _ => False) := ⟨fun _ _ _ _ _ _ h => h.elim⟩
theorem le_one (a b : Nat) : (!decide ((sgS b).cps.toList < (sgS a).cps.toList)) = decide (a ≤ b) := by
  show (!decide ([b] < [a])) = decide (a ≤ b)
  have e : ([b] < [a]) ↔ b < a := by
    rw [List.cons_lt_cons_iff]
    exact ⟨fun h => h.elim id fun h => absurd h.2 (List.not_lt_nil _), .inl⟩
  by_cases h : a ≤ b
  · rw [decide_eq_true h, decide_eq_false (fun q => by have := e.mp q; omega)]; rfl
  · rw [decide_eq_false h, decide_eq_true (e.mpr (by omega))]; rfl
section
variable {P : Program} {w : World} {K : PySem.W.Frag} {mg : Str → Option Value} {base : Heap}
def spIssign : Sp := fun vs H Q _ => ∃ c : Nat, vs = [.str (sgS c)] ∧ okSign c = true ∧ Q (.bl true) H
theorem ok_issign (T : Fx K mg) : FnOk P w K mg base CX0 1 T.a_issign T.d_issign ["sign"] spIssign := by
  refine T.F_issign.ok sc_issign (fun vs H Q E h => ?_) (fun cdv A outer s H vs Q E hr h => ?_)
  · obtain ⟨c, rfl, _⟩ := h; rfl
  obtain ⟨c, rfl, hc, k⟩ := h
  refine ⟨_, (pss_cons (ps_if (PW.pt (pw_or (pt_not (pt_val (pe_callB (cr_is kit_S) (by rfl) T.z_isinstance (by decide +kernel) (pa_cons (pv 0) (pa_cons (pe_bltn (v := .ty "str") (u := .type "str") (by rfl) T.z_str (by decide +kernel) rfl) pa_nil))))) (pw_or1 (pt_cmpR op_ne (pe_callB call_len_str (by rfl) T.z_len (by decide +kernel) (pa_cons (pv 0) pa_nil)) pe_int (nomark _)))))
      (pss_one (ps_ret pe_bl))
      pss_nil)
    (pss_one (ps_ret (pe_or (pe_cmpR op_eq (pv 0) pe_str (nomark _)) (pe_or (pe_chain op_le_str op_le_str pe_str (pv 0) pe_str) (pe_one (pe_chain op_le_str op_le_str pe_str (pv 0) pe_str))))))), ?_⟩
  refine ⟨_, rfl, _, .str (sgS c), rfl, .str _, _, rfl, iteF ⟨_, rfl, _, rfl, szle (by show 1 ≤ _; omega), rfl, _, rfl, iteF ?_⟩⟩
  refine ⟨_, rfl, rfl, _, rfl, ?_⟩
  have e1 : decide (V.str (sgS c) = V.str ".") = decide (c = 46) := by
    by_cases h : c = 46
    · subst h; rfl
    · rw [decide_eq_false h, decide_eq_false (fun e => h (by
        have q := congrArg (fun z : V => match z with | .str x => x.cps.toList | _ => []) e
        have q : [c] = [46] := q
        exact (List.cons.inj q).1))]
  rw [e1]
  by_cases h1 : c = 46
  · rw [decide_eq_true h1]; exact iteT k
  rw [decide_eq_false h1]
  refine iteF ⟨_, rfl, _, _, rfl, rfl, _, rfl, ?_⟩
  have a1 : (!decide ((sgS c).cps.toList < (("A" : Str)).cps.toList)) = decide (65 ≤ c) := le_one 65 c
  have a2 : (!decide ((("Z" : Str)).cps.toList < (sgS c).cps.toList)) = decide (c ≤ 90) := le_one c 90
  have a3 : (!decide ((sgS c).cps.toList < (("a" : Str)).cps.toList)) = decide (97 ≤ c) := le_one 97 c
  have a4 : (!decide ((("z" : Str)).cps.toList < (sgS c).cps.toList)) = decide (c ≤ 122) := le_one c 122
  have lower : ¬ (65 ≤ c ∧ c ≤ 90) → 97 ≤ c ∧ c ≤ 122 := fun h => by
    unfold okSign at hc
    simp only [Bool.or_eq_true, Bool.and_eq_true, decide_eq_true_eq] at hc
    omega
  rw [a1]
  have rest : 97 ≤ c → c ≤ 122 → ∃ i j : Str, V.str "a" = .str i ∧ V.str (sgS c) = .str j ∧ True := fun _ _ => ⟨_, _, rfl, rfl, trivial⟩
  by_cases h2 : 65 ≤ c
  · rw [decide_eq_true h2]
    refine iteT ⟨_, _, rfl, rfl, ?_⟩
    rw [a2]
    by_cases h3 : c ≤ 90
    · rw [decide_eq_true h3]
      exact ⟨_, rfl, iteT k⟩
    · rw [decide_eq_false h3]
      obtain ⟨l1, l2⟩ := lower (fun h => h3 h.2)
      refine ⟨_, rfl, iteF ⟨_, rfl, _, _, rfl, rfl, _, rfl, ?_⟩⟩
      rw [a3, decide_eq_true l1]
      refine iteT ⟨_, _, rfl, rfl, ?_⟩
      rw [a4, decide_eq_true l2]
      exact k
  · obtain ⟨l1, l2⟩ := lower (fun h => h2 h.1)
    omega
def spIsstate : Sp := fun vs H Q _ => ∃ (n : Nat) (v : V) (r : Row), vs = [.int n, v] ∧ Im H v (rowD r) ∧ (r.map (·.1)).Pairwise (· < ·) ∧ (∀ p ∈ r, okSign p.1 = true ∧ p.2 < n) ∧ Q (.bl true) H
theorem ok_isstate (T : Fx K mg) : FnOk P w K mg base CX0 2 T.a_isstate T.d_isstate ["many", "state"] spIsstate := by
  refine T.F_isstate.ok sc_isstate (fun vs H Q E h => ?_) (fun cdv A outer s H vs Q E hr h => ?_)
  · obtain ⟨n, v, r, rfl, _⟩ := h; rfl
  obtain ⟨n, v, r, rfl, hv, rr, hs, k⟩ := h
  refine ⟨_, PSs.nox ((pss_cons (ps_if (pt_not (pt_val (pe_callB (cr_is kit_T) (by rfl) T.z_isinstance (by decide +kernel) (pa_cons (pv 1) (pa_cons (pe_bltn (v := .ty "tuple") (u := .type "tuple") (by rfl) T.z_tuple (by decide +kernel) rfl) pa_nil)))))
      (pss_one (ps_ret pe_bl))
      pss_nil)
    (pss_cons (ps_set (i := 2) sc_isstate.nd rfl (.inl rfl) pe_str)
    (pss_cons (ps_for PassesOwn.never rfl (pi_tup (pv 1)) (pg_name (i := 3) sc_isstate.nd rfl (.inl rfl))
      (pss_cons (ps_if (PW.pt (pw_or (pt_not (pt_val (pe_callB (cr_is kit_T) (by rfl) T.z_isinstance (by decide +kernel) (pa_cons (pv 3) (pa_cons (pe_bltn (v := .ty "tuple") (u := .type "tuple") (by rfl) T.z_tuple (by decide +kernel) rfl) pa_nil))))) (pw_or (pt_cmpR op_ne (pe_callB call_len_seq (by rfl) T.z_len (by decide +kernel) (pa_cons (pv 3) pa_nil)) pe_int (nomark _)) (pw_or1 (pt_not (pt_val (pe_call (ok_issign T) (hr.mono (by decide)) (by rfl) T.g_issign T.F_issign.kp T.b_issign .nil pass0 (pa_cons (pe_ix ix_tup (pv 3) pe_int (fun _ _ => rfl)) pa_nil))))))))
        (pss_one (ps_ret pe_bl))
        pss_nil)
      (pss_cons (ps_if (PW.pt (pw_or (pt_cmpR op_le_str (pe_ix ix_tup (pv 3) pe_int (fun _ _ => rfl)) (pv 2) (nomark _)) (pw_or1 (pt_not (pt_val (pe_call (ok_isint T) (hr.mono (by decide)) (by rfl) T.g_isint T.F_isint.kp T.b_isint .nil pass0 (pa_cons (pe_ix ix_tup (pv 3) pe_int (fun _ _ => rfl)) (pa_cons pe_int (pa_cons (pe_op op_sub (pv 0) pe_int) pa_nil)))))))))
        (pss_one (ps_ret pe_bl))
        pss_nil)
      (pss_one (ps_set (i := 2) sc_isstate.nd rfl (.inl rfl) (pe_ix ix_tup (pv 3) pe_int (fun _ _ => rfl)))))))
    (pss_one (ps_ret pe_bl)))))), ?_⟩
  obtain ⟨a, xs, rfl, ha, hx⟩ := Im.tup_inv hv
  have hx : Ims H xs (r.map fun p => .tuple [sgn p.1, .int p.2]) := hx
  have xl : xs.length = r.length := by rw [hx.len, List.length_map]
  refine ⟨_, rfl, _, rowD r, rfl, hv, _, rfl, iteF ?_⟩
  refine ⟨_, rfl, a, rfl, ⟨_, SqT.of ha⟩, for_it (walk_tup (xs := xs)) (fun i σ H' => ∃ (lv : Str) (o3 : Option V), σ = [some (.int n), some (.ref a), some (.str lv), o3] ∧ H' = H ∧ (lv = "" ∨ ∃ c, lv = sgS c ∧ c ∈ (r.take i).map (·.1)))
    ⟨_, _, rfl, rfl, .inl rfl⟩ (fun i σ H' _ h => ?_) (fun i x σ H' H'' hi h y => ?_) fun σ H' h => ?_⟩
  · obtain ⟨_, _, _, rfl, _⟩ := h
    exact SqT.of ha
  · obtain ⟨lv, o3, rfl, rfl, hlv⟩ := h
    obtain ⟨rfl, hx2⟩ := y
    obtain ⟨d, hd, him⟩ := hx.get hx2
    rw [List.getElem?_map] at hd
    have hir : i < r.length := by rw [← xl]; exact hi
    have hp : r[i]? = some r[i] := List.getElem?_eq_getElem hir
    have hpm := List.getElem_mem hir
    have et : (r.take (i + 1)).map (·.1) = (r.take i).map (·.1) ++ [r[i].1] := by rw [List.take_add_one, hp, List.map_append]; rfl
    have hlt : ∀ c ∈ (r.take i).map (·.1), c < r[i].1 := fun c hc => by
      have : ((r.take (i + 1)).map (·.1)).Pairwise (· < ·) := by rw [List.map_take]; exact rr.sublist (List.take_sublist _ _)
      rw [et, List.pairwise_append] at this
      exact this.2.2 c hc _ (by simp)
    generalize r[i] = p at hp hpm et hlt
    rw [hp] at hd
    cases hd
    obtain ⟨b, u1, u2, rfl, hb, j1, j2⟩ := him.pair_inv
    cases j1.str_inv
    cases j2.int_inv
    have hsp := hs p hpm
    refine ⟨_, rfl, _, _, rfl, him, _, rfl, iteF ⟨_, rfl, b, _, rfl, .inr (SqT.of hb), rfl, _, rfl, iteF ?_⟩⟩
    refine ⟨_, rfl, b, _, 0, _, rfl, rfl, SqT.of hb, atI_nat (j := 0) rfl, p.1, rfl, hsp.1, _, rfl, iteF ?_⟩
    refine ⟨_, rfl, b, _, 0, _, rfl, rfl, SqT.of hb, atI_nat (j := 0) rfl, _, rfl, _, _, rfl, rfl, _, rfl, ?_⟩
    have e1 : (!decide (lv.cps.toList < (sgS p.1).cps.toList)) = false := by
      rcases hlv with rfl | ⟨c, rfl, hc⟩
      · rfl
      · rw [le_one, decide_eq_false (by have := hlt c hc; omega)]
    rw [show (!decide (lv.cps.toList < ({ cps := #[p.fst] } : Str).cps.toList)) = false from e1]
    refine iteF ⟨_, rfl, b, _, 1, _, rfl, rfl, SqT.of hb, atI_nat (j := 1) rfl, _, rfl, _, _, rfl, rfl, _, .int p.2, 0, _, rfl, .int _, ?_⟩
    have e2 : isIn (.int p.2) 0 ((n : Int) - 1) = true := by
      have := hsp.2
      show (decide (0 ≤ (p.2 : Int)) && decide ((p.2 : Int) ≤ (n : Int) - 1)) = true
      rw [decide_eq_true (by omega), decide_eq_true (by omega)]; rfl
    rw [e2]
    refine ⟨_, rfl, iteF ?_⟩
    exact ⟨_, rfl, b, _, 0, _, rfl, rfl, SqT.of hb, atI_nat (j := 0) rfl, _, _, rfl, rfl, .inr ⟨p.1, rfl, by rw [et]; simp⟩⟩
  · obtain ⟨lv, o3, rfl, rfl, hlv⟩ := h
    exact k
def spRising : Sp := fun vs H Q _ => ∃ (v : V) (l : List Nat) (lo hi : Int), vs = [v, .int lo, .int hi] ∧ Im H v (.tuple (l.map fun (i : Nat) => .int i)) ∧ l ≠ [] ∧ l.length ≤ 1000 ∧ l.Pairwise (· < ·) ∧ (∀ i ∈ l, lo ≤ (i : Int) ∧ (i : Int) ≤ hi) ∧ ∀ H', Same H H' → Q (.bl true) H'
theorem ok_rising (T : Fx K mg) : FnOk P w K mg base CX0 2 T.a_rising T.d_rising ["thing", "low", "high"] spRising := by
  refine T.F_rising.ok sc_rising (fun vs H Q E h => ?_) (fun cdv A outer s H vs Q E hr h => ?_)
  · obtain ⟨v, l, lo, hi, rfl, _⟩ := h; rfl
  obtain ⟨v, l, lo, hi, rfl, hv, hne, hll, rr, hb, k⟩ := h
  refine ⟨_, (pss_cons (ps_if (PW.pt (pw_or (pt_not (pt_val (pe_callB (cr_is kit_T) (by rfl) T.z_isinstance (by decide +kernel) (pa_cons (pv 0) (pa_cons (pe_bltn (v := .ty "tuple") (u := .type "tuple") (by rfl) T.z_tuple (by decide +kernel) rfl) pa_nil))))) (pw_or1 (pt_not (pt_val (pe_callB (cr_all rfl) (by rfl) T.z_all (by decide +kernel) (pa_cons (pe_lc (own := [("part", 5)]) (by rfl) sc_rising.nd (pi_tup (pv 0)) (blkOk_by (own := [("part", 5)]) (N := ["thing", "low", "high", "one", "two", "part"]) (sc := defScope (top 13)) (by decide +kernel)) (fun _ _ _ _ _ => (pg_name (i := 5) sc_rising.nd rfl (.inl rfl) (.inr rfl))) (fun _ _ _ _ _ => pts_nil) (fun _ _ _ _ _ => (pe_call (ok_isint T) (hr.mono (by decide)) (by rfl) T.g_isint T.F_isint.kp T.b_isint .nil pass0 (pa_cons (pv 5) (pa_cons (pv 1) (pa_cons (pv 2) pa_nil)))))) pa_nil)))))))
      (pss_one (ps_ret pe_bl))
      pss_nil)
    (pss_one (ps_ret (pe_callB (cr_all rfl) (by rfl) T.z_all (by decide +kernel) (pa_cons (pe_lc (own := [("one", 3), ("two", 4)]) (g := gTup K 2 (gCons (gName 3) (gCons (gName 4) gNil))) (by rfl) sc_rising.nd (RZ.pi_zipA (by rfl) T.z_zip (pa_cons (pv 0) (pa_cons (pe_slice sl_tupA (pv 0) (po_some pe_int) po_none) pa_nil))) (blkOk_by (own := [("one", 3), ("two", 4)]) (N := ["thing", "low", "high", "one", "two", "part"]) (sc := defScope (top 13)) (by decide +kernel)) (fun _ _ _ _ _ => (pg_tup rfl (pgs_cons (pg_name (i := 3) sc_rising.nd rfl (.inl rfl) (.inr rfl)) (pgs_cons (pg_name (i := 4) sc_rising.nd rfl (.inl rfl) (.inr rfl)) pgs_nil)))) (fun _ _ _ _ _ => pts_nil) (fun _ _ _ _ _ => (pe_cmpR op_lt (pv 3) (pv 4) (nomark _)))) pa_nil))))), ?_⟩
  obtain ⟨a, xs, rfl, ha, hx⟩ := Im.tup_inv hv
  have exs : xs = l.map fun (i : Nat) => V.int i := by
    have q : (l.map fun (e : Nat) => PyData.int e) = (l.map fun (e : Nat) => (e : Int)).map PyData.int := by rw [List.map_map]; rfl
    rw [q] at hx
    rw [Ims.ints_inv hx, List.map_map]; rfl
  have xl : xs.length = l.length := by rw [exs, List.length_map]
  refine ⟨_, rfl, _, _, rfl, hv, _, rfl, iteF ?_⟩
  refine ⟨_, rfl, a, rfl, ⟨_, SqT.of ha⟩, fun D nD => lc_it (walk_tup (xs := xs)) (fun i H' => Same H (hide [D] H') ∧ H' D = some (.lst ((List.replicate i true).map V.bl))) ⟨?_, upd_same⟩ (fun i H' _ pv => SqT.of (hide_same _ _ _ _ (pv.1 _ _ ha))) (fun i x H' H'' hi2 pv y => ?_) fun H1 pv => ?_⟩
  · rw [hide_mut (by simp)]
    exact fun z o e => by rw [hide_out (by simpa using ne_of_none e nD)]; exact e
  · obtain ⟨rfl, hx2⟩ := y
    rw [exs, List.getElem?_map] at hx2
    have hil : i < l.length := by omega
    rw [List.getElem?_eq_getElem hil] at hx2
    cases hx2
    have hm := hb _ (List.getElem_mem hil)
    refine ⟨rfl, _, rfl, _, rfl, _, rfl, _, .int (l[i] : Nat), lo, hi, rfl, .int _, ?_⟩
    have e2 : isIn (.int (l[i] : Nat)) lo hi = true := by
      show (decide (lo ≤ (l[i] : Int)) && decide ((l[i] : Int) ≤ hi)) = true
      rw [decide_eq_true hm.1, decide_eq_true hm.2]; rfl
    rw [e2]
    refine ⟨_, pv.2, by rw [List.length_map, List.length_replicate]; exact szlt (by omega), ?_, ?_⟩
    · rw [hide_mut (by simp)]; exact pv.1
    · rw [upd_same, List.replicate_succ', List.map_append]; rfl
  · refine ⟨D, _, rfl, SqL.of pv.2, _, rfl, ?_⟩
    have s1 : Same H H1 := pv.1.trans (hide_same _ _)
    have e3 : (List.replicate xs.length true).all id = true := by simp
    rw [e3]
    refine iteF ?_
    refine ⟨_, rfl, _, rfl, _, rfl, a, xs, rfl, SqT.of (s1 _ _ ha), fun hw => ?_, fun hw q nq => ?_⟩
    · have e1 : HT.sIx xs.length 0 (some 1) = min 1 xs.length := HT.sIx_nat _ _ 1
      have h0 := hw.1
      rw [e1] at h0
      have : 0 < l.length := List.length_pos_iff.mpr hne
      omega
    · have e1 : HT.sIx xs.length 0 (some 1) = min 1 xs.length := HT.sIx_nat _ _ 1
      have hlp : 0 < l.length := List.length_pos_iff.mpr hne
      have ecut : cutV xs (some 1) none = (l.drop 1).map fun (i : Nat) => V.int i := by
        unfold cutV
        rw [e1, HT.sIx_none, show min 1 xs.length = 1 by omega, exs, ← List.map_drop, List.take_of_length_le]
        rw [List.length_map, List.length_drop, List.length_map]
        exact Nat.le_refl _
      rw [ecut]
      have s2 := s1.trans (same_new (o := .tup ((l.drop 1).map fun (i : Nat) => V.int i)) nq)
      have hq : upd H1 q (.tup ((l.drop 1).map fun (i : Nat) => V.int i)) q = some (.tup ((l.drop 1).map fun (i : Nat) => V.int i)) := upd_same
      generalize upd H1 q (.tup ((l.drop 1).map fun (i : Nat) => V.int i)) = H2 at s2 hq
      have nl : l.length - 1 = min xs.length ((l.drop 1).map fun (i : Nat) => V.int i).length := by rw [xl, List.length_map, List.length_drop]; omega
      refine ⟨a, q, xs, _, rfl, .inr ⟨SqT.of (s2 _ _ ha), SqT.of hq, fun D2 nD2 => lc_it (walk_zipT (xs := xs) (ys := (l.drop 1).map fun (i : Nat) => V.int i) (n := l.length - 1) nl) (fun i H' => Same H2 (hide [D2] H') ∧ H' D2 = some (.lst ((List.replicate i true).map V.bl))) ⟨?_, upd_same⟩ (fun i H' _ pv => ⟨SqT.of (hide_same _ _ _ _ (pv.1 _ _ (s2 _ _ ha))), SqT.of (hide_same _ _ _ _ (pv.1 _ _ hq))⟩) (fun i x H' H'' hi2 pv y => ?_) fun H3 pv => ?_⟩⟩
      · rw [hide_mut (by simp)]
        exact fun z o e => by rw [hide_out (by simpa using ne_of_none e nD2)]; exact e
      · obtain ⟨TT, x1, y1, rfl, nT, rfl, g1, g2⟩ := y
        replace g1 : xs[i]? = some x1 := g1
        replace g2 : ((l.drop 1).map fun (i : Nat) => V.int i)[i]? = some y1 := g2
        have hil : i < l.length := by omega
        have hil2 : i + 1 < l.length := by omega
        rw [exs, List.getElem?_map, List.getElem?_eq_getElem hil] at g1
        rw [List.getElem?_map, List.getElem?_drop, Nat.add_comm, List.getElem?_eq_getElem hil2] at g2
        cases g1
        cases g2
        have hlt : l[i] < l[i + 1] := List.pairwise_iff_getElem.mp rr i (i + 1) hil hil2 (Nat.lt_succ_self _)
        have nTD : D2 ≠ TT := fun e => by rw [← e, pv.2] at nT; cases nT
        refine ⟨TT, _, rfl, SqT.of upd_same, rfl, _, _, rfl, _, _, rfl, rfl, rfl, _, rfl, _, rfl, _, _, rfl, rfl, ?_⟩
        have e5 : decide (((l[i] : Nat) : Int) < ((l[i + 1] : Nat) : Int)) = true := decide_eq_true (by omega)
        refine ⟨_, (upd_ne nTD).trans pv.2, by rw [List.length_map, List.length_replicate]; exact szlt (by omega), ?_, ?_⟩
        · rw [hide_mut (by simp)]; exact pv.1.trans (hide_upd nT)
        · rw [upd_same]
          show some (HO.lst (_ ++ [V.bl (decide (((l[i] : Nat) : Int) < ((l[i + 1] : Nat) : Int)))])) = _
          rw [e5, List.replicate_succ', List.map_append]; rfl
      · refine ⟨D2, _, rfl, SqL.of pv.2, ?_⟩
        have e3 : (List.replicate (l.length - 1) true).all id = true := by simp
        rw [e3]
        exact k _ (s2.trans (pv.1.trans (hide_same _ _)))
end
end Tk
set_option maxHeartbeats 4000000
set_option pp.maxSteps 2500
/-! live_states -/
namespace Tk
open PySem L2
theorem putK_le {κ : Type} [DecidableEq κ] {kvs : List (κ × V)} {k : κ} {v : V} : (putK kvs k v).length ≤ kvs.length + 1 := by
  unfold putK
  split
  · simp
  · simp
theorem count_set_true : ∀ {l : List Bool} {i : Nat}, l[i]? = some false → (l.set i true).count false + 1 = l.count false
  | [], i, h => by cases h
  | b :: l, 0, h => by
    cases h
    rw [List.set_cons_zero, List.count_cons, List.count_cons]; rfl
  | b :: l, i + 1, h => by
    have := count_set_true (l := l) (i := i) h
    rw [List.set_cons_succ, List.count_cons, List.count_cons]
    omega
theorem all_live {L : Pl} (okL : L.Ok) {Lv : List Bool} (hl : Lv.length = L.rows.length) (he : ∀ e ∈ L.ends, Lv[e]? = some true) (hc : ∀ (i : Nat) (r : Row) (p : Nat × Nat), L.rows[i]? = some r → p ∈ r → Lv[p.2]? = some true → Lv[i]? = some true) : Lv = List.replicate L.rows.length true := by
  have h : ∀ i, Reach L i → Lv[i]? = some true := fun i hr => by
    induction hr with
    | here h => exact he _ h
    | step h1 h2 _ ih => exact hc _ _ _ h1 h2 ih
  refine List.ext_getElem? fun i => ?_
  by_cases hi : i < L.rows.length
  · rw [h i (okL.live i hi), List.getElem?_replicate, if_pos hi]
  · rw [List.getElem?_eq_none (by omega), List.getElem?_eq_none (by simpa using hi)]
theorem lv_set {Lv : List Bool} {b i : Nat} (hb : b < Lv.length) (h : Lv[i]? = some true) : (Lv.set b true)[i]? = some true := by
  rw [List.getElem?_set]
  by_cases e : b = i
  · rw [if_pos e, if_pos hb]
  · rw [if_neg e]; exact h
theorem truL {K : PySem.W.Frag} {H : Hp} {p : Addr} {xs : List V} (h : SqL K H p xs) : TruV K (.ref p) H (!xs.isEmpty) := .inl ⟨xs, h, rfl⟩
/-- who steps to j -/
def prd (es : List (Nat × Nat)) (j : Nat) : List Nat := (es.filter fun e => decide (e.2 = j)).map (·.1)
theorem prd_snoc (es : List (Nat × Nat)) (e : Nat × Nat) (j : Nat) : prd (es ++ [e]) j = if j = e.2 then prd es j ++ [e.1] else prd es j := by
  unfold prd
  rw [List.filter_append, List.map_append]
  by_cases h : j = e.2
  · rw [if_pos h, List.filter_cons, if_pos (by simpa using h.symm)]; rfl
  · rw [if_neg h, List.filter_cons, if_neg (by simpa using fun e => h e.symm)]; simp
theorem mem_prd {es : List (Nat × Nat)} {i j : Nat} : i ∈ prd es j ↔ (i, j) ∈ es := by
  unfold prd
  rw [List.mem_map]
  constructor
  · rintro ⟨e, he, rfl⟩
    obtain ⟨h1, h2⟩ := List.mem_filter.mp he
    have : e.2 = j := by simpa using h2
    rw [← this]; exact h1
  · intro h
    exact ⟨(i, j), List.mem_filter.mpr ⟨h, by simp⟩, rfl⟩
theorem prd_len (es : List (Nat × Nat)) (j : Nat) : (prd es j).length ≤ es.length := by
  unfold prd
  rw [List.length_map]
  exact List.length_filter_le _ _
def Shut (es : List (Nat × Nat)) (Lv : List Bool) (j : Nat) : Prop := ∀ i ∈ prd es j, Lv[i]? = some true
def kI (j : Nat) : Key := Sum.inl (j : Int)
def nV (l : List Nat) : List V := l.map fun (i : Nat) => V.int i
def Bk (G : Hp) (kvs : List (Key × V)) (f : Nat → List Nat) : Prop := ∀ j : Nat, (f j = [] ∧ valV kvs (kI j) = none) ∨ (f j ≠ [] ∧ ∃ b, valV kvs (kI j) = some (.ref b) ∧ G b = some (.tup (nV (f j))))
theorem Bk.mono {G G' : Hp} {kvs : List (Key × V)} {f : Nat → List Nat} (h : Bk G kvs f) (s : ∀ b xs, G b = some (.tup xs) → G' b = some (.tup xs)) : Bk G' kvs f := fun j => (h j).imp id fun ⟨h1, b, h2, h3⟩ => ⟨h1, b, h2, s _ _ h3⟩
theorem Bk.put {G : Hp} {kvs : List (Key × V)} {es : List (Nat × Nat)} (h : Bk G kvs (prd es)) {i j : Nat} {b : Addr} (hb : G b = some (.tup (nV (prd es j ++ [i])))) : Bk G (putK kvs (kI j) (.ref b)) (prd (es ++ [(i, j)])) := fun j' => by
  rw [prd_snoc, valV_put]
  by_cases e : j' = j
  · subst e
    rw [if_pos rfl, if_pos rfl]
    exact .inr ⟨by simp, b, rfl, hb⟩
  · rw [if_neg e, if_neg (fun q => e (by have := Sum.inl.inj q; omega))]
    exact h j'
def LvH (D D2 : Addr) (L : Pl) (B : Hp) (Lv : List Bool) (Wl : List Nat) (H : Hp) : Prop :=
  Same B (hide [D, D2] H) ∧ H D = some (.lst (Lv.map V.bl)) ∧ H D2 = some (.lst (nV Wl)) ∧ Lv.length = L.rows.length ∧ (∀ x ∈ Wl, x < L.rows.length) ∧ (∀ e ∈ L.ends, Lv[e]? = some true)
def LvW (a f aB D D2 : Addr) (L : Pl) (es : List (Nat × Nat)) (B : Hp) (m : Nat) (σ : St) (H : Hp) : Prop :=
  ∃ (o3 o4 o5 o8 o9 : Option V) (Lv : List Bool) (Wl : List Nat), σ = [some (.ref a), some (.ref f), some (.ref aB), o3, o4, o5, some (.ref D), some (.ref D2), o8, o9] ∧ LvH D D2 L B Lv Wl H ∧
    (∀ j, Lv[j]? = some true → j ∈ Wl ∨ Shut es Lv j) ∧ 2 * Lv.count false + Wl.length = m ∧ m ≤ 1000
theorem ixn_nat {n j : Nat} (hj : j < n) : ixN n (j : Int) = some j := by
  unfold ixN
  simp
  omega
theorem bl_get {Lv : List Bool} {i : Nat} {b : Bool} (h : Lv[i]? = some b) : (Lv.map V.bl)[i]? = some (.bl b) := by rw [List.getElem?_map, h]; rfl
section
variable {P : Program} {w : World} {K : PySem.W.Frag} {mg : Str → Option Value} {base : Heap}
def spLive : Sp := fun vs H Q _ => ∃ (a f : Addr) (ts : List V) (L : Pl), vs = [.ref a, .ref f] ∧ H a = some (.lst ts) ∧ TabsAt H ts L.rows ∧ H f = some (.lst (flagsV L)) ∧ L.Ok ∧ ∀ (H' : Hp) (l : Addr), Same H H' → H l = none → H' l = some (.lst ((List.replicate L.rows.length true).map V.bl)) → Q (.ref l) H'
theorem ok_live (T : Fx K mg) : FnOk P w K mg base CX0 1 T.a_live T.d_live ["tables", "ends"] spLive := by
  refine T.F_live.ok sc_live (fun vs H Q E h => ?_) (fun cdv A outer s H vs Q E hr h => ?_)
  · obtain ⟨a, f, ts, L, rfl, _⟩ := h; rfl
  obtain ⟨a, f, ts, L, rfl, ha, hts, hf, okL, k⟩ := h
  have hu := hu_of hr
  refine ⟨_, PSs.nox ((pss_cons (ps_set (i := 2) sc_live.nd rfl (.inl rfl) pe_dnewK)
    (pss_cons (ps_for PassesOwn.never rfl (pi_enum (by rfl) T.z_enumerate (pa_cons (pv 0) pa_nil)) (pg_tup rfl (pgs_cons (pg_name (i := 3) sc_live.nd rfl (.inl rfl)) (pgs_cons (pg_name (i := 4) sc_live.nd rfl (.inl rfl)) pgs_nil)))
      (pss_one (ps_lock (ps_for PassesOwn.never rfl (pi_keys (pv 4)) (pg_name (i := 5) sc_live.nd rfl (.inl rfl))
        (pss_one (ps_dput hu (pv 2) (pe_dget hu (pv 4) (pv 5) (fun _ _ => rfl)) (pe_op op_catN (pe_dget2 hu (pv 2) (pe_dget hu (pv 4) (pv 5) (fun _ _ => rfl)) (pe_tup pa_nil) ⟨by rfl, by rfl, by rfl, by rfl⟩) (pe_tup (pa_cons (pv 3) pa_nil))) rfl))))))
    (pss_cons (ps_set (i := 6) sc_live.nd rfl (.inr rfl) (pe_lc (own := [("end", 9)]) (by rfl) sc_live.nd (pi_list (pv 1)) (blkOk_by (own := [("end", 9)]) (N := ["tables", "ends", "back", "state", "table", "sign", "live", "waiting", "before", "end"]) (sc := defScope (top 24)) (by decide +kernel)) (fun _ _ _ _ _ => (pg_name (i := 9) sc_live.nd rfl (.inl rfl) (.inr rfl))) (fun _ _ _ _ _ => pts_nil) (fun _ _ _ _ _ => (pe_callTy call_bool1 (by rfl) T.z_bool (by decide +kernel) (pa_cons (pv 9) pa_nil)))))
    (pss_cons (ps_setLc (i := 7) (own := [("state", 3)]) (by rfl) sc_live.nd rfl rfl (sw_true rfl rfl rfl (by decide +kernel)) (pi_range1 (by rfl) T.z_range (pa_cons (pe_callB call_len_seq (by rfl) T.z_len (by decide +kernel) (pa_cons (pv 0) pa_nil)) pa_nil)) (blkOk_by (own := [("state", 3)]) (N := ["tables", "ends", "back", "state", "table", "sign", "live", "waiting", "before", "end"]) (sc := defScope (top 24)) (by decide +kernel)) (fun _ _ _ _ _ => (pg_name (i := 3) sc_live.nd rfl (.inl rfl) (.inr rfl))) (fun _ _ _ _ _ => (pts_one (pt_val (pe_ix ix_lt (pv 6) (pv 3) (fun _ _ => rfl))))) (fun _ _ _ _ _ => (pv 3)))
    (pss_cons (ps_while PassesOwn.never (pt_truth (pv 7) (by intro _; rfl))
      (pss_cons (ps_set (i := 3) sc_live.nd rfl (.inl rfl) (pe_bm0 PySem.F.plainAttrs_list PySem.F.slot_list_pop PySem.F.type_list_pop mt_pop (pv 7)))
      (pss_one (ps_for PassesOwn.never rfl (pi_tup (pe_dget2 hu (pv 2) (pv 3) (pe_tup pa_nil) ⟨by rfl, by rfl, by rfl, by rfl⟩)) (pg_name (i := 8) sc_live.nd rfl (.inl rfl))
        (pss_one (ps_if (pt_not (pt_val (pe_ix ix_list (pv 6) (pv 8) (fun _ _ => rfl))))
          (pss_cons (ps_asg pe_bl (pg_sub (pv 6) (pv 8) set_list))
          (pss_one (ps_expr (pe_bm PySem.F.plainAttrs_list PySem.F.slot_list_append PySem.F.type_list_append mt_append (pv 7) (pa_cons (pv 8) pa_nil)))))
          pss_nil))))))
    (pss_one (ps_ret (pv 6))))))))), ?_⟩
  intro aB nB
  have tl : ts.length = L.rows.length := hts.1
  have sH : Same H (hide [aB] H) := fun z o e => by rw [hide_out (by simpa using ne_of_none e nB)]; exact e
  have g0 : hide [aB] (upd H aB (.dK [])) = hide [aB] H := hide_mut (by simp)
  refine ⟨_, rfl, a, ts, rfl, SqL.of ((upd_ne (ne_of_none ha nB)).trans ha), for_it (walk_enum (xs := ts)) (fun i σ H2 => ∃ (o3 o4 o5 o6 o7 o8 o9 : Option V) (kvs : List (Key × V)) (es : List (Nat × Nat)), σ = [some (.ref a), some (.ref f), some (.ref aB), o3, o4, o5, o6, o7, o8, o9] ∧ Same H (hide [aB] H2) ∧ H2 aB = some (.dK kvs) ∧ Bk (hide [aB] H2) kvs (prd es) ∧
    (∀ i' r p, i' < i → L.rows[i']? = some r → p ∈ r → (i', p.2) ∈ es) ∧ (∀ e ∈ es, e.1 < L.rows.length ∧ e.2 < L.rows.length) ∧ es.length ≤ i * 123 ∧ kvs.length ≤ es.length)
    ⟨_, _, _, _, _, _, _, [], [], rfl, by rw [g0]; exact sH, upd_same, fun j => .inl ⟨rfl, rfl⟩, fun i' r p h => absurd h (Nat.not_lt_zero _), fun e he => (by cases he), Nat.zero_le _, Nat.zero_le _⟩ (fun i σ H2 _ h => ?_) (fun i x σ H2 H3 hi h y => ?_) fun σ H2 h => ?_⟩
  · obtain ⟨_, _, _, _, _, _, _, _, _, _, s, _⟩ := h
    exact SqL.of (hide_same _ _ _ _ (s _ _ ha))
  · obtain ⟨o3, o4, o5, o6, o7, o8, o9, kvs, es, rfl, sB, hB, bk, hin, hes, hel, hkl⟩ := h
    obtain ⟨TT, x1, y1, rfl, nT, rfl, g1, g2⟩ := y
    cases g1
    have hir : i < L.rows.length := by omega
    have hr1 : L.rows[i]? = some L.rows[i] := List.getElem?_eq_getElem hir
    have hrm := List.getElem_mem hir
    generalize L.rows[i] = r at hr1 hrm
    have rr := okL.rise r hrm
    have rs := okL.sign r hrm
    have rfew : r.length ≤ 123 := by
      have := few_below 123 (r.map (·.1)) (rise_nodup rr) fun x hx => by
        obtain ⟨p, hp, rfl⟩ := List.mem_map.mp hx
        exact okSign_lt (rs p hp).1
      simpa using this
    obtain ⟨d, hd1, hd2⟩ := hts.2 i r hr1
    have g2 : ts[i]? = some y1 := g2
    rw [hd1] at g2
    cases g2
    have nTB : TT ≠ aB := (ne_of_none hB nT).symm
    refine ⟨TT, _, rfl, SqT.of upd_same, rfl, _, _, rfl, _, _, rfl, rfl, ?_⟩
    have sT := hide_upd (L := [aB]) (o := .tup [.int (i : Nat), .ref d]) nT
    have hB3 : upd H2 TT (.tup [.int (i : Nat), .ref d]) aB = some (.dK kvs) := (upd_ne nTB.symm).trans hB
    generalize upd H2 TT (.tup [.int (i : Nat), .ref d]) = H3 at sT hB3
    have bk := bk.mono fun b xs e => sT _ _ e
    have sB3 := sB.trans sT
    have hdG := sB3 _ _ hd2
    have hdB : d ≠ aB := by simpa using (hide_some hdG).1
    have hd3 := hide_same _ _ _ _ hdG
    refine ⟨d, _, hd3, True.intro, fun od => ⟨_, rfl, d, od, rfl, .inl ⟨rowKV r, upd_same, ?_⟩⟩⟩
    have bB : hide [aB] (upd H3 d (.frz od (.dK (rowKV r)))) d = some (.frz od (.dK (rowKV r))) := by rw [hide_out (by simpa using hdB)]; exact upd_same
    have bk1 : Bk (hide [aB] (upd H3 d (.frz od (.dK (rowKV r))))) kvs (prd es) := bk.mono fun b xs e => by
      obtain ⟨n1, e⟩ := hide_some e
      have : b ≠ d := fun q => by rw [q, hd3] at e; cases e
      rw [hide_out n1, upd_ne this]; exact e
    have hB1 : upd H3 d (.frz od (.dK (rowKV r))) aB = some (.dK kvs) := (upd_ne hdB.symm).trans hB3
    have hrl : (rowKV r).length = r.length := by simp [rowKV]
    refine for_it (walk_keys (kvs := rowKV r)) (fun t σ' H' => ∃ (o5 : Option V) (kvs' : List (Key × V)), σ' = [some (.ref a), some (.ref f), some (.ref aB), some (.int (i : Nat)), some (.ref d), o5, o6, o7, o8, o9] ∧ Same (hide [aB] (upd H3 d (.frz od (.dK (rowKV r))))) (hide [aB] H') ∧ H' aB = some (.dK kvs') ∧
      Bk (hide [aB] H') kvs' (prd (es ++ (r.take t).map fun p => (i, p.2))) ∧ kvs'.length ≤ es.length + t)
      ⟨_, _, rfl, fun _ _ e => e, hB1, by simpa using bk1, by omega⟩ (fun t σ' H' _ h => ?_) (fun t x σ' H' H'' hit h y => ?_) fun σ' H' h => ?_
    · obtain ⟨_, _, _, s, _⟩ := h
      exact hide_same _ _ _ _ (s _ _ bB)
    · obtain ⟨o5, kvs', rfl, s1, hB', bk', hk'⟩ := h
      obtain ⟨rfl, kk, v, hkk, rfl⟩ := y
      rw [hrl] at hit
      have hp : r[t]? = some r[t] := List.getElem?_eq_getElem hit
      have hpm := List.getElem_mem hit
      have htake : r.take (t + 1) = r.take t ++ [r[t]] := by rw [List.take_succ, hp]; rfl
      generalize r[t] = p at hp hpm htake
      have ek : kk = Sum.inr (sgS p.1) := by
        unfold rowKV at hkk
        rw [List.getElem?_map, hp] at hkk
        cases hkk; rfl
      subst ek
      have lk := lookup_of rr hpm
      have rg : valV (rowKV r) (Sum.inr (sgS p.1) : Key) = some (.int (p.2 : Nat)) := by rw [row_get, lk]; rfl
      have ld : ∀ {G : Hp}, Same (hide [aB] H'') (hide [aB] G) → G d = some (.frz od (.dK (rowKV r))) := fun s => hide_same _ _ _ _ (s _ _ (s1 _ _ bB))
      have kl : kvs'.length < sizeLine := by
        have := okL.few
        rw [sizeLine_eq]; omega
      have get1 : ∀ {G : Hp}, Same (hide [aB] H'') (hide [aB] G) → DGet G d (kV (Sum.inr (sgS p.1))) (some (.int (p.2 : Nat))) := fun s => .inl ⟨_, Sum.inr (sgS p.1), .inr ⟨od, ld s⟩, rfl, rg.symm⟩
      refine ⟨_, rfl, aB, rfl, (.inl ⟨_, .inl hB'⟩), ?_⟩
      refine ⟨_, rfl, _, rfl, d, _, rfl, get1 (fun _ _ e => e), szle (by decide), fun t0 nt0 => ?_⟩
      have s2 := hide_upd (L := [aB]) (o := .tup []) nt0
      have hB2 : upd H'' t0 (.tup []) aB = some (.dK kvs') := (upd_ne (ne_of_none hB' nt0)).trans hB'
      have l0 : upd H'' t0 (.tup []) t0 = some (.tup []) := upd_same
      generalize upd H'' t0 (.tup []) = G1 at s2 hB2 l0
      have s02 := s1.trans s2
      have bk2 := bk'.mono fun b xs e => s2 _ _ e
      have hab : ∃ (b : Addr), (valV kvs' (kI p.2)).getD (.ref t0) = .ref b ∧ G1 b = some (.tup (nV (prd (es ++ (r.take t).map fun p => (i, p.2)) p.2))) := by
        rcases bk2 p.2 with ⟨e1, e2⟩ | ⟨e1, b, e2, e3⟩
        · rw [e1, e2]; exact ⟨t0, rfl, l0⟩
        · rw [e2]; exact ⟨b, rfl, hide_same _ _ _ _ e3⟩
      obtain ⟨b, hb1, hb2⟩ := hab
      refine ⟨_, DGet.k (k := kI p.2) hB2, ?_⟩
      refine ⟨_, rfl, szle (Nat.le_trans (Nat.le_refl 1) (by decide)), fun t1 nt1 => ?_⟩
      have s3 := hide_upd (L := [aB]) (o := .tup [.int (i : Nat)]) nt1
      have hB3 : upd G1 t1 (.tup [.int (i : Nat)]) aB = some (.dK kvs') := (upd_ne (ne_of_none hB2 nt1)).trans hB2
      have l1 : upd G1 t1 (.tup [.int (i : Nat)]) t1 = some (.tup [.int (i : Nat)]) := upd_same
      have hb3 : upd G1 t1 (.tup [.int (i : Nat)]) b = some (.tup (nV (prd (es ++ (r.take t).map fun p => (i, p.2)) p.2))) := (upd_ne (ne_of_none hb2 nt1)).trans hb2
      generalize upd G1 t1 (.tup [.int (i : Nat)]) = G2 at s3 hB3 l1 hb3
      have s03 := s02.trans s3
      have bk3 := bk2.mono fun b xs e => s3 _ _ e
      have hlen : (nV (prd (es ++ (r.take t).map fun p => (i, p.2)) p.2)).length + 1 ≤ 1000000 := by
        have h1 := prd_len (es ++ (r.take t).map fun p => (i, p.2)) p.2
        have h2 : (es ++ (r.take t).map fun p => (i, p.2)).length ≤ es.length + r.length := by simp; omega
        have := okL.few
        have h3 : (nV (prd (es ++ (r.take t).map fun p => (i, p.2)) p.2)).length = (prd (es ++ (r.take t).map fun p => (i, p.2)) p.2).length := by unfold nV; rw [List.length_map]
        omega
      refine ⟨b, t1, _, _, hb1, rfl, hb3, l1, hlen, by simp, fun t2 G3 s4 hl2 => ?_⟩
      have hB4 := s4 _ _ hB3
      have s4 := hide_mono (L := [aB]) s4
      have bk4 := bk3.mono fun b xs e => s4 _ _ e
      have ht2 : t2 ≠ aB := fun e => by rw [e, hB4] at hl2; cases hl2
      refine ⟨_, rfl, _, rfl, _, rfl, d, _, rfl, get1 ((s2.trans s3).trans s4), aB, _, rfl, DPut.k (k := kI p.2) hB4 kl, _, _, rfl, ?_, upd_same, ?_, ?_⟩
      · rw [hide_mut (p := aB) (by simp)]; exact s03.trans s4
      · rw [hide_mut (p := aB) (by simp), htake, List.map_append, ← List.append_assoc]
        refine bk4.put (i := i) (j := p.2) ?_
        rw [hide_out (by simpa using ht2), hl2]
        simp [nV]
      · have := putK_le (kvs := kvs') (k := kI p.2) (v := .ref t2)
        omega
    · obtain ⟨o5, kvs', rfl, s1, hB', bk', hk'⟩ := h
      rw [hrl] at hk'
      rw [hrl, List.take_length] at bk'
      have hdl := hide_same _ _ _ _ (s1 _ _ bB)
      have e1 : hide [aB] (upd H3 d (.frz od (.dK (rowKV r)))) = upd (hide [aB] H3) d (.frz od (.dK (rowKV r))) := hide_new (by simpa using hdB)
      have e2 : hide [aB] (upd H' d (.dK (rowKV r))) = upd (hide [aB] H') d (.dK (rowKV r)) := hide_new (by simpa using hdB)
      have sL : Same (hide [aB] H3) (hide [aB] (upd H' d (.dK (rowKV r)))) := by
        rw [e2]; exact lock_same hdG (by rw [← e1]; exact s1)
      refine ⟨hdl, _, _, _, _, _, _, _, kvs', es ++ r.map fun p => (i, p.2), rfl, sB3.trans sL, (upd_ne hdB.symm).trans hB', bk'.mono fun b xs e => ?_, fun i' r' p' hi' hr' hp' => ?_, fun e he => ?_, ?_, ?_⟩
      · have : b ≠ d := fun q => by rw [q] at e; rw [(hide_some e).2] at hdl; cases hdl
        rw [e2, upd_ne this]; exact e
      · by_cases q : i' = i
        · subst q
          rw [hr1] at hr'
          cases hr'
          exact List.mem_append_right _ (List.mem_map.mpr ⟨p', hp', rfl⟩)
        · exact List.mem_append_left _ (hin i' r' p' (by omega) hr' hp')
      · rcases List.mem_append.mp he with q | q
        · exact hes e q
        · obtain ⟨p', hp', rfl⟩ := List.mem_map.mp q
          exact ⟨hir, (rs p' hp').2⟩
      · rw [List.length_append, List.length_map]; omega
      · rw [List.length_append, List.length_map]; omega
  · obtain ⟨o3, o4, o5, o6, o7, o8, o9, kvs, es, rfl, sB, hB, bk, hin, hes, hel, hkl⟩ := h
    have hf2 := hide_same _ _ _ _ (sB _ _ hf)
    have fl : (flagsV L).length = L.rows.length := by simp [flagsV]
    have few := okL.few
    refine ⟨_, rfl, f, rfl, ⟨_, SqL.of hf2⟩, fun D nD => lc_it (walk_list (xs := flagsV L)) (fun i H' => Same H2 (hide [D] H') ∧ H' D = some (.lst ((flagsV L).take i))) ⟨?_, upd_same⟩ (fun i H' _ pv => SqL.of (hide_same _ _ _ _ (pv.1 _ _ hf2))) (fun i x H' H'' hi pv y => ?_) fun H3 pv => ?_⟩
    · rw [hide_mut (by simp)]
      exact fun z o e => by rw [hide_out (by simpa using ne_of_none e nD)]; exact e
    · obtain ⟨rfl, hx⟩ := y
      rw [fl] at hi
      have hx2 : x = .bl (decide (i ∈ L.ends)) := by
        unfold flagsV at hx
        rw [List.getElem?_map, List.getElem?_range hi] at hx
        cases hx; rfl
      subst hx2
      refine ⟨rfl, _, rfl, .inr ⟨_, rfl, _, pv.2, ?_, ?_, ?_⟩⟩
      · rw [List.length_take]; exact szlt (by omega)
      · rw [hide_mut (by simp)]; exact pv.1
      · rw [upd_same, List.take_add_one, hx]; rfl
    obtain ⟨s3, hD⟩ := pv
    rw [List.take_length] at hD
    have eF : flagsV L = ((List.range L.rows.length).map fun i => decide (i ∈ L.ends)).map V.bl := by unfold flagsV; rw [List.map_map]; rfl
    have hB3 := hide_same _ _ _ _ (s3 _ _ hB)
    have ha3 := hide_same _ _ _ _ (s3 _ _ (hide_same _ _ _ _ (sB _ _ ha)))
    refine ⟨_, rfl, a, ts, rfl, .inl (SqL.of ha3), _, rfl, by omega, by omega, fun D2 nD2 => lc_it walk_range (fun i H' => Same H3 (hide [D2] H') ∧ H' D2 = some (.lst (nV ((List.range i).filter fun i => decide (i ∈ L.ends))))) ⟨?_, upd_same⟩ (fun i H' _ pv => True.intro) (fun i x H' H'' hi pv y => ?_) fun H4 pv => ?_⟩
    · rw [hide_mut (by simp)]
      exact fun z o e => by rw [hide_out (by simpa using ne_of_none e nD2)]; exact e
    · obtain ⟨rfl, rfl⟩ := y
      have hi : i < L.rows.length := by rw [tl] at hi; exact hi
      have hDi := hide_same _ _ _ _ (pv.1 _ _ hD)
      have hx : (flagsV L)[i]? = some (.bl (decide (i ∈ L.ends))) := by
        unfold flagsV
        rw [List.getElem?_map, List.getElem?_range hi]; rfl
      have eR : List.range (i + 1) = List.range i ++ [i] := List.range_succ
      refine ⟨rfl, _, rfl, _, rfl, D, _, _, _, rfl, rfl, .inl hDi, (by rw [show (0 : Int) + (i : Nat) = ((i : Nat) : Int) by omega]; exact atI_nat hx), _, rfl, ?_⟩
      refine ite2 (fun c => ?_) fun c => ?_
      · refine ⟨_, rfl, _, pv.2, ?_, ?_, ?_⟩
        · have : (nV ((List.range i).filter fun i => decide (i ∈ L.ends))).length ≤ i := by
            unfold nV
            rw [List.length_map]
            exact Nat.le_trans (List.length_filter_le _ _) (by simp)
          exact szlt (by omega)
        · rw [hide_mut (by simp)]; exact pv.1
        · rw [upd_same, eR, List.filter_append, List.filter_cons, if_pos c]
          simp [nV]
      · refine ⟨pv.1, ?_⟩
        rw [pv.2, eR, List.filter_append, List.filter_cons, if_neg c]
        simp
    obtain ⟨s4, hW⟩ := pv
    have nD4 : D ≠ D2 := ne_of_none hD nD2
    have hD4 := hide_same _ _ _ _ (s4 _ _ hD)
    have s24 : Same H2 (hide [D, D2] H4) := fun b o e => by
      obtain ⟨n1, e1⟩ := hide_some (s3 _ _ e)
      obtain ⟨n2, e2⟩ := hide_some (s4 _ _ e1)
      rw [hide_out (by simp at n1 n2 ⊢; exact ⟨n1, n2⟩)]; exact e2
    have sH2 : Same H H2 := sB.trans (hide_same _ _)
    have hDn : H D = none := by
      cases e : H D with
      | none => rfl
      | some o => rw [sH2 _ _ e] at nD; cases nD
    have hD2n : H2 D2 = none := by
      cases e : H2 D2 with
      | none => rfl
      | some o => rw [hide_same _ _ _ _ (s3 _ _ e)] at nD2; cases nD2
    have bk4 : Bk (hide [D, D2] H4) kvs (prd es) := bk.mono fun b xs e => s24 _ _ (hide_same _ _ _ _ e)
    have hB4 := s24 _ _ hB
    rw [eF] at hD4
    refine ⟨LvW a f aB D D2 L es (hide [D, D2] H4), ⟨_, _, _, _, _, _, _, _, rfl, ⟨fun _ _ e => e, hD4, hW, by simp, fun x hx => ?_, fun e he => ?_⟩, fun j hj => .inl ?_, rfl, ?_⟩, fun m σ H' h => ?_⟩
    · have := (List.mem_filter.mp hx).1
      have := List.mem_range.mp this
      omega
    · have := okL.elt e he
      rw [List.getElem?_map, List.getElem?_range this]
      simpa using he
    · rw [List.getElem?_map] at hj
      by_cases hjn : j < L.rows.length
      · rw [List.getElem?_range hjn] at hj
        refine List.mem_filter.mpr ⟨List.mem_range.mpr (by omega), ?_⟩
        simpa using hj
      · rw [List.getElem?_eq_none (by simpa using hjn)] at hj; cases hj
    · have h1 : (((List.range L.rows.length).map fun i => decide (i ∈ L.ends)).count false) ≤ L.rows.length := by
        refine Nat.le_trans List.count_le_length ?_
        simp
      have h2 : ((List.range ts.length).filter fun i => decide (i ∈ L.ends)).length ≤ ts.length := Nat.le_trans (List.length_filter_le _ _) (by simp)
      exact (by omega : 2 * (((List.range L.rows.length).map fun i => decide (i ∈ L.ends)).count false) + ((List.range ts.length).filter fun i => decide (i ∈ L.ends)).length ≤ 1000)
    · obtain ⟨o3, o4, o5, o8, o9, Lv, Wl, rfl, ⟨s5, hD5, hW5, lv, lw, le⟩, lc, hm, hm2⟩ := h
      refine ⟨_, rfl, _, truL (SqL.of hW5), ?_⟩
      rcases List.eq_nil_or_concat Wl with rfl | ⟨W1, j, rfl⟩
      · refine iteF ?_
        refine ⟨_, rfl, ?_⟩
        have := all_live okL lv le fun i r p h1 h2 h3 => (lc _ h3).elim (fun q => by cases q) fun q => q _ (mem_prd.mpr (hin i r p (by rw [tl]; exact (List.getElem?_eq_some_iff.mp h1).1) h1 h2))
        rw [this] at hD5
        refine k _ _ (fun b o e => ?_) hDn hD5
        exact hide_same _ _ _ _ (s5 _ _ (s24 _ _ (sH2 _ _ e)))
      · have hne : (!(nV (W1.concat j)).isEmpty) = true := by simp [nV]
        refine (if_pos hne).mpr ?_
        rw [List.concat_eq_append] at hW5 lw lc hm
        have hj : j < L.rows.length := lw j (by simp)
        have eW : nV (W1 ++ [j]) = nV W1 ++ [.int (j : Nat)] := by simp [nV]
        rw [eW] at hW5
        refine ⟨fun σ' H'' => ∃ m', m' < m ∧ LvW a f aB D D2 L es (hide [D, D2] H4) m' σ' H'', fun σ' H'' h => h, ?_⟩
        refine ⟨_, rfl, .inl ⟨rfl, _, SqL.of hW5⟩, D2, _, .int (j : Nat), rfl, rfl, hW5, by simp, ?_⟩
        rw [List.dropLast_concat]
        have s6 : Same (hide [D, D2] H4) (hide [D, D2] (upd H' D2 (.lst (nV W1)))) := by rw [hide_mut (by simp)]; exact s5
        have hD6 : upd H' D2 (.lst (nV W1)) D = some (.lst (Lv.map V.bl)) := (upd_ne nD4).trans hD5
        have hW6 : upd H' D2 (.lst (nV W1)) D2 = some (.lst (nV W1)) := upd_same
        generalize upd H' D2 (.lst (nV W1)) = H6 at s6 hD6 hW6
        have hB6 := hide_same _ _ _ _ (s6 _ _ (s24 _ _ hB))
        refine ⟨_, rfl, aB, rfl, .inl ⟨_, .inl hB6⟩, _, rfl, szle (by decide), fun t0 nt0 => ?_⟩
        have s7 := hide_upd (L := [D, D2]) (o := .tup []) nt0
        have hB7 : upd H6 t0 (.tup []) aB = some (.dK kvs) := (upd_ne (ne_of_none hB6 nt0)).trans hB6
        have hD7 : upd H6 t0 (.tup []) D = some (.lst (Lv.map V.bl)) := (upd_ne (ne_of_none hD6 nt0)).trans hD6
        have hW7 : upd H6 t0 (.tup []) D2 = some (.lst (nV W1)) := (upd_ne (ne_of_none hW6 nt0)).trans hW6
        have l0 : hide [D, D2] (upd H6 t0 (.tup [])) t0 = some (.tup []) := by
          rw [hide_out (by simp; exact ⟨(ne_of_none hD6 nt0).symm, (ne_of_none hW6 nt0).symm⟩)]; exact upd_same
        generalize upd H6 t0 (.tup []) = H7 at s7 hB7 hD7 hW7 l0
        have s47 := s6.trans s7
        have hab : ∃ (b : Addr), (valV kvs (kI j)).getD (.ref t0) = .ref b ∧ hide [D, D2] H7 b = some (.tup (nV (prd es j))) := by
          rcases bk4 j with ⟨e1, e2⟩ | ⟨e1, b, e2, e3⟩
          · rw [e1, e2]; exact ⟨t0, rfl, l0⟩
          · rw [e2]; exact ⟨b, rfl, s47 _ _ e3⟩
        obtain ⟨b, hb1, hb2⟩ := hab
        have pl : (nV (prd es j)).length = (prd es j).length := by unfold nV; rw [List.length_map]
        refine ⟨_, DGet.k (k := kI j) hB7, b, hb1, ⟨_, SqT.of (hide_same _ _ _ _ hb2)⟩, for_it (walk_tup (xs := nV (prd es j))) (fun t σ' H'' => ∃ (o8 : Option V) (Lv' : List Bool) (Wl' : List Nat), σ' = [some (.ref a), some (.ref f), some (.ref aB), some (.int (j : Nat)), o4, o5, some (.ref D), some (.ref D2), o8, o9] ∧ LvH D D2 L (hide [D, D2] H7) Lv' Wl' H'' ∧
          (∀ j', Lv'[j']? = some true → j' = j ∨ j' ∈ Wl' ∨ Shut es Lv' j') ∧ (∀ x ∈ (prd es j).take t, Lv'[x]? = some true) ∧ 2 * Lv'.count false + Wl'.length + 1 ≤ m)
          ⟨_, Lv, W1, rfl, ⟨fun _ _ e => e, hD7, hW7, lv, fun x hx => lw x (by simp [hx]), le⟩, fun j' hj' => ?_, fun x hx => ?_, ?_⟩ (fun t σ' H'' _ h => ?_) (fun t x σ' H8 H9 hi h y => ?_) fun σ' H8 h => ?_⟩
        · rcases lc j' hj' with q | q
          · rcases List.mem_append.mp q with q | q
            · exact .inr (.inl q)
            · exact .inl (by simpa using q)
          · exact .inr (.inr q)
        · cases hx
        · rw [List.length_append, List.length_singleton] at hm; omega
        · obtain ⟨_, _, _, _, hh, _⟩ := h
          exact SqT.of (hide_same _ _ _ _ (hh.1 _ _ hb2))
        · obtain ⟨o8, Lv', Wl', rfl, ⟨q1, q2, q3, q4, q5, q6⟩, q7, q8, q9⟩ := h
          obtain ⟨rfl, hx⟩ := y
          rw [pl] at hi
          have hz : (prd es j)[t]? = some (prd es j)[t] := List.getElem?_eq_getElem hi
          have hzm := List.getElem_mem hi
          have et : (prd es j).take (t + 1) = (prd es j).take t ++ [(prd es j)[t]] := by rw [List.take_add_one, hz]; rfl
          generalize (prd es j)[t] = z at hz hzm et
          have hx2 : x = .int (z : Nat) := by
            unfold nV at hx
            rw [List.getElem?_map, hz] at hx
            cases hx; rfl
          subst hx2
          have hzn : z < L.rows.length := (hes _ (mem_prd.mp hzm)).1
          have hlz : Lv'[z]? = some Lv'[z] := List.getElem?_eq_getElem (by omega)
          generalize Lv'[z]'(by omega) = bz at hlz
          refine ⟨_, rfl, _, rfl, D, _, _, _, rfl, rfl, SqL.of q2, atI_nat (bl_get hlz), _, rfl, ?_⟩
          cases bz with
          | true =>
            refine iteF ⟨_, Lv', Wl', rfl, ⟨q1, q2, q3, q4, q5, q6⟩, q7, fun x hx => ?_, q9⟩
            rw [et] at hx
            rcases List.mem_append.mp hx with q | q
            · exact q8 x q
            · rw [List.mem_singleton.mp q]; exact hlz
          | false =>
            have hzl : z < Lv'.length := by omega
            refine iteT ⟨_, rfl, _, rfl, D, _, _, z, rfl, rfl, q2, ixn_nat (by rw [List.length_map]; exact hzl), ?_⟩
            have hc := count_set_true hlz
            have r1 : Same (hide [D, D2] H7) (hide [D, D2] (upd H9 D (.lst ((Lv'.map V.bl).set z (.bl true))))) := by rw [hide_mut (by simp)]; exact q1
            have r2 : upd H9 D (.lst ((Lv'.map V.bl).set z (.bl true))) D = some (.lst ((Lv'.set z true).map V.bl)) := by rw [upd_same, List.map_set]
            have r3 : upd H9 D (.lst ((Lv'.map V.bl).set z (.bl true))) D2 = some (.lst (nV Wl')) := (upd_ne nD4.symm).trans q3
            generalize upd H9 D (.lst ((Lv'.map V.bl).set z (.bl true))) = H10 at r1 r2 r3
            have wlen : (nV Wl').length < sizeLine := by unfold nV; rw [List.length_map]; exact szlt (by omega)
            refine ⟨_, rfl, .inl ⟨rfl, _, SqL.of r3⟩, _, rfl, D2, _, _, rfl, rfl, r3, wlen, _, Lv'.set z true, Wl' ++ [z], rfl, ⟨?_, ?_, ?_, by rw [List.length_set]; exact q4, fun x hx => ?_, fun e he => lv_set hzl (q6 e he)⟩, fun j' hj' => ?_, fun x hx => ?_, ?_⟩
            · rw [hide_mut (by simp)]; exact r1
            · exact (upd_ne nD4).trans r2
            · rw [upd_same]; simp [nV]
            · rcases List.mem_append.mp hx with q | q
              · exact q5 x q
              · rw [List.mem_singleton.mp q]; exact hzn
            · by_cases e : j' = z
              · rw [e]; exact .inr (.inl (by simp))
              · rw [List.getElem?_set_ne (fun q => e q.symm)] at hj'
                rcases q7 j' hj' with q | q | q
                · exact .inl q
                · exact .inr (.inl (List.mem_append_left _ q))
                · exact .inr (.inr fun i hi => lv_set hzl (q i hi))
            · rw [et] at hx
              rcases List.mem_append.mp hx with q | q
              · exact lv_set hzl (q8 x q)
              · rw [List.mem_singleton.mp q, List.getElem?_set, if_pos rfl, if_pos hzl]
            · rw [List.length_append, List.length_singleton]; omega
        · obtain ⟨o8, Lv', Wl', rfl, ⟨q1, q2, q3, q4, q5, q6⟩, q7, q8, q9⟩ := h
          rw [pl, List.take_length] at q8
          refine ⟨_, Nat.lt_of_succ_le q9, _, _, _, _, _, _, _, rfl, ⟨s47.trans q1, q2, q3, q4, q5, q6⟩, fun j' hj' => ?_, rfl, by omega⟩
          rcases q7 j' hj' with q | q
          · rw [q]; exact .inr q8
          · exact q
end
end Tk
set_option maxHeartbeats 4000000
set_option pp.maxSteps 2500
/-! step_rows_of -/
namespace Tk
open PySem L2
def WD (ds : List PyData) : Prop := ∀ d ∈ ds, ∃ (s : Str) (i : Int), d = .tuple [.str s, .int i]
theorem WD.alike {ds : List PyData} (h : WD ds) : PySem.W.AllAlike ds := fun d hd e he => by
  obtain ⟨s, i, rfl⟩ := h d hd
  obtain ⟨s', i', rfl⟩ := h e he
  rfl
theorem WD.sortable {ds : List PyData} (h : WD ds) : PySem.W.Sortable ds := .inl fun d hd => by
  obtain ⟨s, i, rfl⟩ := h d hd
  exact ⟨_, _, rfl⟩
theorem WD.depth {ds : List PyData} (h : WD ds) : ∀ d ∈ ds, d.depth ≤ 40 := fun d hd => by
  obtain ⟨s, i, rfl⟩ := h d hd
  simp [PyData.depth, PyData.depthAll]
theorem WD.sort {ds : List PyData} (h : WD ds) : WD (ds.mergeSort (PySem.W.dataLe false id)) := fun d hd => h d (List.mem_mergeSort.mp hd)
theorem WD.noL {ds : List PyData} (h : WD ds) : noLs ds = true := noLs_all fun d hd => by
  obtain ⟨s, i, rfl⟩ := h d hd
  rfl
theorem wd_row (r : Row) : WD (r.map fun p => .tuple [sgn p.1, .int p.2]) := fun d hd => by
  obtain ⟨p, _, rfl⟩ := List.mem_map.mp hd
  exact ⟨_, _, rfl⟩
theorem wd_row1 (r : Row) (s : Str) (i : Int) : WD ((r.map fun p => .tuple [sgn p.1, .int p.2]) ++ [.tuple [.str s, .int i]]) := fun d hd => by
  rcases List.mem_append.mp hd with hd | hd
  · exact wd_row r d hd
  · rw [List.mem_singleton.mp hd]; exact ⟨_, _, rfl⟩
theorem Pl.Ok.fewR {L : Pl} (okL : L.Ok) {r : Row} (h : r ∈ L.rows) : r.length ≤ 123 := by
  have := few_below 123 (r.map (·.1)) (rise_nodup (okL.rise r h)) fun x hx => by
    obtain ⟨p, hp, rfl⟩ := List.mem_map.mp hx
    exact okSign_lt (okL.sign r h p hp).1
  simpa using this
section
variable {P : Program} {w : World} {K : PySem.W.Frag} {mg : Str → Option Value} {base : Heap}
/-- the steps of 0 stand in the table -/
def Z0 (G : Hp) (kvs : List (Key × V)) : Prop := ∃ (q : Addr) (ys : List V) (ds : List PyData), valV kvs (kI 0) = some (.ref q) ∧ G q = some (.tup ys) ∧ Ims G ys ds ∧ WD ds ∧ ys.length ≤ 200
theorem Z0.mono {G G' : Hp} {kvs : List (Key × V)} (h : Z0 G kvs) (s : Same G G') : Z0 G' kvs := by
  obtain ⟨q, ys, ds, h1, h2, h3, h4⟩ := h
  exact ⟨q, ys, ds, h1, s _ _ h2, h3.mono s, h4⟩
theorem Z0.put {G : Hp} {kvs : List (Key × V)} (h : Z0 G kvs) {k : Key} {v : V} (hk : kI 0 ≠ k) : Z0 G (putK kvs k v) := by
  obtain ⟨q, ys, ds, h1, h⟩ := h
  exact ⟨q, ys, ds, by rw [valV_put, if_neg hk]; exact h1, h⟩
theorem Z0.put0 {G : Hp} {kvs : List (Key × V)} {q : Addr} {ys : List V} {ds : List PyData} (h2 : G q = some (.tup ys)) (h3 : Ims G ys ds) (h4 : WD ds) (h5 : ys.length ≤ 200) : Z0 G (putK kvs (kI 0) (.ref q)) := ⟨q, ys, ds, by rw [valV_put, if_pos rfl], h2, h3, h4, h5⟩
/-- if flags[state]: ways.append((".", -1)) -/
def tWays : TS := fun D σ H => ∃ (s0 s2 s4 : Option V) (f l : Addr) (i : Nat) (b : Bool) (fs ys : List V), σ = [s0, some (.ref f), s2, some (.int i), s4, some (.ref l)] ∧ H f = some (.lst fs) ∧ fs[i]? = some (.bl b) ∧ H l = some (.lst ys) ∧ ys.length ≤ 123 ∧
  ∀ (H' : Hp) (ys' : List V), H' l = some (.lst ys') → (∀ z o, z ≠ l → H z = some o → H' z = some o) → (ys' = ys ∨ ∃ t, ys' = ys ++ [.ref t] ∧ H' t = some (.tup [.str ".", .int (-1)])) → D.nx σ H'
def spSrows : Sp := fun vs H Q _ => ∃ (v : V) (f : Addr) (L : Pl), vs = [v, .ref f] ∧ Im H v L.st ∧ H f = some (.lst (flagsV L)) ∧ L.Ok ∧ ∀ (H' : Hp) (l : Addr), Same H H' → H l = none → Q (.ref l) H'
theorem ok_srows (T : Fx K mg) : FnOk P w K mg base CX0 1 T.a_srows T.d_srows ["rows", "flags"] spSrows := by
  refine T.F_srows.ok sc_srows (fun vs H Q E h => ?_) (fun cdv A outer s H vs Q E hr h => ?_)
  · obtain ⟨v, f, L, rfl, _⟩ := h; rfl
  obtain ⟨v, f, L, rfl, hv, hf, okL, k⟩ := h
  have hu := hu_of hr
  obtain ⟨a, xs, rfl, ha, hxs⟩ := hv.tup_inv
  have xl : xs.length = L.rows.length := by rw [hxs.len, List.length_map]
  have few := okL.few
  have pos := okL.pos
  refine ⟨_, PSs.nox ((pss_cons (ps_set (i := 2) sc_srows.nd rfl (.inl rfl) pe_dnewK)
    (pss_cons (ps_for PassesOwn.never rfl (pi_enumT (by rfl) T.z_enumerate (pa_cons (pv 0) pa_nil)) (pg_tup rfl (pgs_cons (pg_name (i := 3) sc_srows.nd rfl (.inl rfl)) (pgs_cons (pg_name (i := 4) sc_srows.nd rfl (.inl rfl)) pgs_nil)))
      (pss_cons (ps_set (i := 5) sc_srows.nd rfl (.inl rfl) (pe_callTy call_list_of (by rfl) T.z_list (by decide +kernel) (pa_cons (pv 4) pa_nil)))
      (pss_cons (ps_imp (t' := tWays) (ps_if (pt_val (pe_ix ix_list (pv 1) (pv 3) (fun _ _ => rfl)))
        (pss_one (ps_expr (pe_bm PySem.F.plainAttrs_list PySem.F.slot_list_append PySem.F.type_list_append mt_append (pv 5) (pa_cons (pe_tup (pa_cons pe_str (pa_cons (pe_un un_neg pe_int) pa_nil))) pa_nil))))
        pss_nil) ?I1)
      (pss_one (ps_dput hu (pv 2) (pv 3) (pe_callTy call_tuple_of (by rfl) T.z_tuple (by decide +kernel) (pa_cons (pe_callB (cr_sortedD hr.units) (by rfl) T.z_sorted (by decide +kernel) (pa_cons (pv 5) pa_nil)) pa_nil)) rfl)))))
    (pss_cons (ps_dput hu (pv 2) (pe_un un_neg pe_int) (pe_tup (pa_cons (pe_tup (pa_cons pe_str (pa_cons (pe_un un_neg pe_int) pa_nil))) pa_nil)) rfl)
    (pss_cons (ps_dput hu (pv 2) (pe_un un_neg pe_int) (pe_callTy call_tuple_of (by rfl) T.z_tuple (by decide +kernel) (pa_cons (pe_callB (cr_sortedD hr.units) (by rfl) T.z_sorted (by decide +kernel) (pa_cons (pe_op op_cat (pe_callTy call_list_of (by rfl) T.z_list (by decide +kernel) (pa_cons (pe_dget hu (pv 2) pe_int (fun _ _ => rfl)) pa_nil)) (pe_lst (pa_cons (pe_tup (pa_cons pe_str (pa_cons (pe_un un_neg pe_int) pa_nil))) pa_nil))) pa_nil)) pa_nil)) rfl)
    (pss_one (ps_ret (pv 2)))))))), ?_⟩
  case I1 =>
    clear k hxs hv ha hf
    intro D σ H h
    obtain ⟨s0, s2, s4, f, l, i, b, fs, ys, rfl, hf, hb, hl, hyl, k⟩ := h
    refine ⟨_, rfl, _, rfl, f, _, _, _, rfl, rfl, SqL.of hf, atI_nat hb, _, rfl, ?_⟩
    cases b with
    | true =>
      refine iteT ⟨_, rfl, .inl ⟨rfl, _, SqL.of hl⟩, _, rfl, szle (Nat.le_trans (Nat.le_refl 2) (by decide)), fun t nt => ?_⟩
      refine ⟨l, ys, _, rfl, rfl, (upd_ne (ne_of_none hl nt)).trans hl, szlt (by omega), k _ _ upd_same (fun z o hz e => ?_) (.inr ⟨t, rfl, ?_⟩)⟩
      · rw [upd_ne hz, upd_ne (ne_of_none e nt)]; exact e
      · rw [upd_ne (ne_of_none hl nt).symm]; exact upd_same
    | false => exact iteF (k _ _ hl (fun _ _ _ e => e) (.inl rfl))
  intro aD nD
  have sH : Same H (hide [aD] H) := fun z o e => by rw [hide_out (by simpa using ne_of_none e nD)]; exact e
  have g0 : hide [aD] (upd H aD (.dK [])) = hide [aD] H := hide_mut (by simp)
  refine ⟨_, rfl, a, xs, rfl, SqT.of ((upd_ne (ne_of_none ha nD)).trans ha), for_it (walk_enumT (xs := xs)) (fun i σ H2 => ∃ (o3 o4 o5 : Option V) (kvs : List (Key × V)), σ = [some (.ref a), some (.ref f), some (.ref aD), o3, o4, o5] ∧ Same H (hide [aD] H2) ∧ H2 aD = some (.dK kvs) ∧ kvs.length ≤ i ∧ (0 < i → Z0 (hide [aD] H2) kvs))
    ⟨_, _, _, [], rfl, by rw [g0]; exact sH, upd_same, Nat.zero_le _, fun h => absurd h (Nat.lt_irrefl _)⟩ (fun i σ H2 _ h => ?_) (fun i x σ H2 H3 hi h y => ?_) fun σ H2 h => ?_⟩
  · obtain ⟨_, _, _, _, _, s, _⟩ := h
    exact SqT.of (hide_same _ _ _ _ (s _ _ ha))
  · obtain ⟨o3, o4, o5, kvs, rfl, sB, hB, kl, z0⟩ := h
    obtain ⟨TT, x1, y1, rfl, nT, rfl, g1, g2⟩ := y
    cases g1
    have hir : i < L.rows.length := by omega
    have g2 : xs[i]? = some y1 := g2
    obtain ⟨dd, hd, im⟩ := hxs.get g2
    rw [List.getElem?_map, List.getElem?_eq_getElem hir] at hd
    have hrm := List.getElem_mem hir
    generalize L.rows[i] = r at hd hrm
    cases hd
    have rfew := okL.fewR hrm
    have nTB : TT ≠ aD := (ne_of_none hB nT).symm
    refine ⟨TT, _, rfl, SqT.of upd_same, rfl, _, _, rfl, _, _, rfl, rfl, ?_⟩
    have sT := hide_upd (L := [aD]) (o := .tup [.int (i : Nat), y1]) nT
    have hB3 : upd H2 TT (.tup [.int (i : Nat), y1]) aD = some (.dK kvs) := (upd_ne nTB.symm).trans hB
    generalize upd H2 TT (.tup [.int (i : Nat), y1]) = H3 at sT hB3
    have sB3 := sB.trans sT
    have z3 := fun h => (z0 h).mono sT
    have im3 := im.mono sB3
    obtain ⟨b, ys, rfl, hb, hys⟩ := im3.tup_inv
    have yl : ys.length = r.length := by rw [hys.len, List.length_map]
    refine ⟨_, rfl, b, ys, rfl, .inr (SqT.of (hide_same _ _ _ _ hb)), fun l nl => ?_⟩
    have hbl : (flagsV L)[i]? = some (.bl (decide (i ∈ L.ends))) := by
      unfold flagsV
      rw [List.getElem?_map, List.getElem?_range hir]; rfl
    have hf3 := hide_same _ _ _ _ (sB3 _ _ hf)
    refine ⟨_, _, _, f, l, i, _, _, ys, rfl, (upd_ne (ne_of_none hf3 nl)).trans hf3, hbl, upd_same, by omega, fun H5 ys' hl5 sl hor => ?_⟩
    have s35 : Same H3 H5 := fun z o e => sl z o (ne_of_none e nl) ((upd_ne (ne_of_none e nl)).trans e)
    have hB5 := s35 _ _ hB3
    have s35 := hide_mono (L := [aD]) s35
    have hds : ∃ ds, Ims (hide [aD] H5) ys' ds ∧ WD ds ∧ ys'.length ≤ 200 := by
      rcases hor with rfl | ⟨t, rfl, ht⟩
      · exact ⟨_, hys.mono s35, wd_row r, by omega⟩
      · refine ⟨_, (hys.mono s35).snoc (d := .tuple [.str ".", .int (-1)]) (Im.pair (x := .str ".") (y := .int (-1)) ?_ (.str _) (.int _)), wd_row1 r _ _, by rw [List.length_append, List.length_singleton]; omega⟩
        rw [hide_out (by simp; intro e; rw [e, hB5] at ht; cases ht)]; exact ht
    obtain ⟨ds, hi5, wd, wl⟩ := hds
    have s05 := sB3.trans s35
    refine ⟨_, rfl, l, ys', ds, rfl, SqL.of hl5, hi5.mono (hide_same _ _), wd.alike, wd.sortable, wd.depth, fun pp ws np hws => ?_⟩
    refine ⟨pp, ws, rfl, .inl ⟨SqL.of upd_same, fun q nq => ?_⟩⟩
    have hB6 : upd H5 pp (.lst ws) aD = some (.dK kvs) := (upd_ne (ne_of_none hB5 np)).trans hB5
    have s56 := same_new (o := .lst ws) np
    have hws := hws.mono s56
    generalize upd H5 pp (.lst ws) = H6 at hB6 nq s56 hws
    have hB7 : upd H6 q (.tup ws) aD = some (.dK kvs) := (upd_ne (ne_of_none hB6 nq)).trans hB6
    have s67 := same_new (o := .tup ws) nq
    have hws := hws.mono s67
    have hq7 : upd H6 q (.tup ws) q = some (.tup ws) := upd_same
    generalize upd H6 q (.tup ws) = H7 at hB7 s67 hws hq7
    have s07 : Same H (hide [aD] H7) := s05.trans (hide_mono (s56.trans s67))
    have s37 := s35.trans (hide_mono (L := [aD]) (s56.trans s67))
    have hqh : hide [aD] H7 q = some (.tup ws) := by
      rw [hide_out (by simp; intro e; rw [e, hB7] at hq7; cases hq7)]; exact hq7
    have hwh : Ims (hide [aD] H7) ws (ds.mergeSort (PySem.W.dataLe false id)) := Ims.hid (fun p hp xs e => by rw [List.mem_singleton.mp hp, hB7] at e; cases e) hws wd.sort.noL
    refine ⟨_, rfl, _, rfl, aD, _, rfl, DPut.k (k := kI i) hB7 (szlt (by omega)), _, _, _, _, rfl, ?_, upd_same, ?_, fun _ => ?_⟩
    · rw [hide_mut (by simp)]; exact s07
    · have := putK_le (kvs := kvs) (k := kI i) (v := .ref q)
      omega
    · rw [hide_mut (by simp)]
      by_cases e : i = 0
      · subst e
        exact Z0.put0 hqh hwh wd.sort (by rw [hws.len, List.length_mergeSort, ← hi5.len]; exact wl)
      · exact ((z3 (by omega)).mono s37).put (fun q => e (by have := Sum.inl.inj q; omega))
  · obtain ⟨o3, o4, o5, kvs, rfl, sB, hB, kl, z0⟩ := h
    have z0 := z0 (by omega)
    have one : (1 : Nat) ≤ 1000000 := by decide
    have two : (2 : Nat) ≤ 1000000 := by decide
    refine ⟨_, rfl, szle two, fun t1 nt1 => ⟨szle one, fun t2 nt2 => ?_⟩⟩
    have s3 := same_new (o := .tup [.str ".", .int (-1)]) nt1
    have hB3 := s3 _ _ hB
    generalize upd H2 t1 (.tup [.str ".", .int (-1)]) = H3 at s3 hB3 nt2
    have s4 := same_new (o := .tup [.ref t1]) nt2
    have hB4 := s4 _ _ hB3
    refine ⟨_, rfl, _, rfl, aD, _, rfl, DPut.k (k := Sum.inl (-1)) hB4 (szlt (by omega)), ?_⟩
    have z4 := (z0.mono (hide_mono (L := [aD]) (s3.trans s4))).put (k := Sum.inl (-1)) (v := .ref t2) (fun q => by have := Sum.inl.inj q; omega)
    have sB4 := sB.trans (hide_mono (L := [aD]) (s3.trans s4))
    have kl4 : (putK kvs (Sum.inl (-1) : Key) (.ref t2)).length ≤ 61 := by
      have := putK_le (kvs := kvs) (k := (Sum.inl (-1) : Key)) (v := .ref t2)
      omega
    generalize upd H3 t2 (.tup [.ref t1]) = H4 at s4 hB4 z4 sB4
    have m5 : hide [aD] (upd H4 aD (.dK (putK kvs (Sum.inl (-1)) (.ref t2)))) = hide [aD] H4 := hide_mut (by simp)
    rw [← m5] at z4 sB4
    have hB5 : upd H4 aD (.dK (putK kvs (Sum.inl (-1)) (.ref t2))) aD = some (.dK (putK kvs (Sum.inl (-1)) (.ref t2))) := upd_same
    generalize upd H4 aD (.dK (putK kvs (Sum.inl (-1)) (.ref t2))) = H5 at hB5 z4 sB4
    generalize putK kvs (Sum.inl (-1) : Key) (.ref t2) = kv5 at hB5 z4 kl4
    obtain ⟨q, ys, ds, v0, hq, hys, wd, wl⟩ := z4
    refine ⟨_, rfl, aD, .ref q, rfl, by rw [← v0]; exact DGet.k (k := kI 0) hB5, q, ys, rfl, .inr (SqT.of (hide_same _ _ _ _ hq)), fun l1 nl1 => ?_⟩
    have s6 := same_new (o := .lst ys) nl1
    have hB6 := s6 _ _ hB5
    have hl1 : upd H5 l1 (.lst ys) l1 = some (.lst ys) := upd_same
    generalize upd H5 l1 (.lst ys) = H6 at s6 hB6 hl1
    refine ⟨_, rfl, szle two, fun t3 nt3 => ⟨szle one, fun l2 nl2 => ?_⟩⟩
    have s7 := same_new (o := .tup [.str ".", .int (-2)]) nt3
    have hB7 := s7 _ _ hB6
    have hl7 := s7 _ _ hl1
    have ht7 : upd H6 t3 (.tup [.str ".", .int (-2)]) t3 = some (.tup [.str ".", .int (-2)]) := upd_same
    generalize upd H6 t3 (.tup [.str ".", .int (-2)]) = H7 at s7 hB7 hl7 nl2 ht7
    have s8 := same_new (o := .lst [.ref t3]) nl2
    have hB8 := s8 _ _ hB7
    have hl8 := s8 _ _ hl7
    have ht8 := s8 _ _ ht7
    have hm8 : upd H7 l2 (.lst [.ref t3]) l2 = some (.lst [.ref t3]) := upd_same
    generalize upd H7 l2 (.lst [.ref t3]) = H8 at s8 hB8 hl8 ht8 hm8
    refine ⟨l1, l2, ys, [.ref t3], rfl, rfl, hl8, hm8, szle (by rw [List.length_singleton]; omega), fun l3 nl3 => ?_⟩
    have s9 := same_new (o := .lst (ys ++ [.ref t3])) nl3
    have hB9 := s9 _ _ hB8
    have ht9 := s9 _ _ ht8
    have hl9 : upd H8 l3 (.lst (ys ++ [.ref t3])) l3 = some (.lst (ys ++ [.ref t3])) := upd_same
    generalize upd H8 l3 (.lst (ys ++ [.ref t3])) = H9 at s9 hB9 ht9 hl9
    have s59 := (((s6.trans s7).trans s8).trans s9)
    have wd2 : WD (ds ++ [.tuple [.str ".", .int (-2)]]) := fun d hd => by
      rcases List.mem_append.mp hd with hd | hd
      · exact wd d hd
      · rw [List.mem_singleton.mp hd]; exact ⟨_, _, rfl⟩
    have hi9 : Ims H9 (ys ++ [.ref t3]) (ds ++ [.tuple [.str ".", .int (-2)]]) := (hys.mono ((hide_same _ _).trans s59)).snoc (Im.pair (x := .str ".") (y := .int (-2)) ht9 (.str _) (.int _))
    refine ⟨l3, _, _, rfl, SqL.of hl9, hi9, wd2.alike, wd2.sortable, wd2.depth, fun pp ws np hws => ?_⟩
    refine ⟨pp, ws, rfl, .inl ⟨SqL.of upd_same, fun q2 nq2 => ?_⟩⟩
    have s10 := same_new (o := .lst ws) np
    have hB10 := s10 _ _ hB9
    generalize upd H9 pp (.lst ws) = H10 at s10 hB10 nq2
    have s11 := same_new (o := .tup ws) nq2
    have hB11 := s11 _ _ hB10
    generalize upd H10 q2 (.tup ws) = H11 at s11 hB11
    have sF := sB4.trans (hide_mono (L := [aD]) ((s59.trans s10).trans s11))
    refine ⟨_, rfl, _, rfl, aD, _, rfl, DPut.k (k := Sum.inl (-2)) hB11 (szlt (by omega)), ?_⟩
    refine ⟨_, rfl, k _ _ ?_ nD⟩
    have m12 : hide [aD] (upd H11 aD (.dK (putK kv5 (Sum.inl (-2)) (.ref q2)))) = hide [aD] H11 := hide_mut (by simp)
    rw [← m12] at sF
    exact sF.trans (hide_same _ _)
end
end Tk
set_option maxHeartbeats 4000000
set_option pp.maxSteps 2500
/-! Plan.__init__ -/
namespace Tk
open PySem L2
theorem sgS_inj {a b : Nat} (h : sgS a = sgS b) : a = b := by
  have := congrArg Str.cps h
  have := congrArg Array.toList this
  simpa [sgS] using this
theorem Pl.noL_st (L : Pl) : noL L.st = true := by
  refine noLs_all fun d hd => ?_
  obtain ⟨r, _, rfl⟩ := List.mem_map.mp hd
  refine noLs_all fun d hd => ?_
  obtain ⟨p, _, rfl⟩ := List.mem_map.mp hd
  rfl
theorem Im.non_data {H : Hp} {d : PyData} (h : Im H .non d) : d = .none := by cases h; rfl
section
variable {P : Program} {w : World} {K : PySem.W.Frag} {mg : Str → Option Value} {base : Heap}
def spPInit (C : Addr) : Sp := fun vs H Q _ => ∃ (H0 : Hp) (p dx : Addr) (v1 v2 : V) (d1 d2 : PyData) (L : Pl), vs = [.ref p, v1, v2] ∧ Same H0 H ∧ H0 p = none ∧ H p = some (.ins C dx []) ∧ Im H0 v1 d1 ∧ Im H0 v2 d2 ∧ d1.depth ≤ 3 ∧ d2.depth ≤ 3 ∧ sm d1 = true ∧ sm d2 = true ∧ tupd d1 = L.st ∧ tupd d2 = L.en ∧ L.Ok ∧ L.ends ≠ [] ∧
  ∀ H', Same H0 H' → PlanO C H' p L → Q .non H'
theorem ok_pInit (T : Fx K mg) : FnOk P w K mg base CX0 5 T.a_pInit T.d_pInit ["self", "states", "ends"] (spPInit T.cP) := by
  refine T.F_pInit.ok sc_pInit (fun vs H Q E h => ?_) (fun cdv A outer s H vs Q E hr h => ?_)
  · obtain ⟨H0, p, dx, v1, v2, d1, d2, L, rfl, _⟩ := h; rfl
  obtain ⟨H0, p, dx, v1, v2, d1, d2, L, rfl, s0, np, hp, im1, im2, dp1, dp2, sm1, sm2, e1, e2, okL, hne, k⟩ := h
  have hu := hu_of hr
  obtain ⟨bds_, hds_, bb⟩ := b_deep1 T
  have few := okL.few
  have pos := okL.pos
  refine ⟨_, PSs.nox ((pss_cons (ps_set (i := 3) sc_pInit.nd rfl (.inl rfl) (pe_call (ok_deep T) (hr.mono (by decide)) (by rfl) T.g_deep T.F_deep.kp bb hds_ pass0 (pa_cons (pv 1) pa_nil)))
    (pss_cons (ps_if (PW.pt (pw_or (pt_not (pt_val (pe_callB (cr_is kit_T) (by rfl) T.z_isinstance (by decide +kernel) (pa_cons (pv 3) (pa_cons (pe_bltn (v := .ty "tuple") (u := .type "tuple") (by rfl) T.z_tuple (by decide +kernel) rfl) pa_nil))))) (pw_or1 (pt_not (pt_chain op_le op_le pe_int (pe_callB call_len_seq (by rfl) T.z_len (by decide +kernel) (pa_cons (pv 3) pa_nil)) pe_int)))))
      (pss_one ps_never)
      pss_nil)
    (pss_cons (ps_set (i := 4) sc_pInit.nd rfl (.inr rfl) (pe_ifExp (pt_cmpR op_isN (pv 2) pe_non (nomark _)) pe_never (pe_call (ok_deep T) (hr.mono (by decide)) (by rfl) T.g_deep T.F_deep.kp bb hds_ pass0 (pa_cons (pv 2) pa_nil))))
    (pss_cons (ps_if (PW.pt (pw_or (pt_not (pt_val (pe_call (ok_rising T) (hr.mono (by decide)) (by rfl) T.g_rising T.F_rising.kp T.b_rising .nil pass0 (pa_cons (pv 4) (pa_cons pe_int (pa_cons (pe_op op_sub (pe_callB call_len_seq (by rfl) T.z_len (by decide +kernel) (pa_cons (pv 3) pa_nil)) pe_int) pa_nil)))))) (pw_or1 (pt_cmpR op_eq (pe_callB call_len_seq (by rfl) T.z_len (by decide +kernel) (pa_cons (pv 4) pa_nil)) pe_int (nomark _)))))
      (pss_one ps_never)
      pss_nil)
    (pss_cons (ps_set (i := 5) sc_pInit.nd rfl (.inl rfl) (pe_lst pa_nil))
    (pss_cons (ps_for PassesOwn.never rfl (pi_enumT (by rfl) T.z_enumerate (pa_cons (pv 3) pa_nil)) (pg_tup rfl (pgs_cons (pg_name (i := 6) sc_pInit.nd rfl (.inl rfl)) (pgs_cons (pg_name (i := 7) sc_pInit.nd rfl (.inl rfl)) pgs_nil)))
      (pss_cons (ps_if (pt_not (pt_val (pe_call (ok_isstate T) (hr.mono (by decide)) (by rfl) T.g_isstate T.F_isstate.kp T.b_isstate .nil pass0 (pa_cons (pe_callB call_len_seq (by rfl) T.z_len (by decide +kernel) (pa_cons (pv 3) pa_nil)) (pa_cons (pv 7) pa_nil)))))
        (pss_one ps_never)
        pss_nil)
      (pss_cons (ps_set (i := 8) sc_pInit.nd rfl (.inl rfl) pe_dnewK)
      (pss_cons (ps_for PassesOwn.never rfl (pi_tup (pv 7)) (pg_tup rfl (pgs_cons (pg_name (i := 9) sc_pInit.nd rfl (.inl rfl)) (pgs_cons (pg_name (i := 10) sc_pInit.nd rfl (.inl rfl)) pgs_nil)))
        (pss_one (ps_dput hu (pv 8) (pv 9) (pv 10) rfl)))
      (pss_one (ps_expr (pe_bm PySem.F.plainAttrs_list PySem.F.slot_list_append PySem.F.type_list_append mt_append (pv 5) (pa_cons (pv 8) pa_nil))))))))
    (pss_cons (ps_setLc (i := 11) (own := [("number", 6)]) (by rfl) sc_pInit.nd rfl rfl (sw_true rfl rfl rfl (by decide +kernel)) (pi_range1 (by rfl) T.z_range (pa_cons (pe_callB call_len_seq (by rfl) T.z_len (by decide +kernel) (pa_cons (pv 3) pa_nil)) pa_nil)) (blkOk_by (own := [("number", 6)]) (N := ["self", "states", "ends", "rows", "finals", "table", "number", "state", "row", "sign", "after", "flags", "live"]) (sc := defScope (inClass (top 30) 0)) (by decide +kernel)) (fun _ _ _ _ _ => (pg_name (i := 6) sc_pInit.nd rfl (.inl rfl) (.inr rfl))) (fun _ _ _ _ _ => pts_nil) (fun _ _ _ _ _ => (pe_cmpR op_inS (pv 6) (pv 4) (by rfl))))
    (pss_cons (ps_for PassesOwn.never rfl (pi_enum (by rfl) T.z_enumerate (pa_cons (pe_call (ok_live T) (hr.mono (by decide)) (by rfl) T.g_live T.F_live.kp T.b_live .nil pass0 (pa_cons (pv 5) (pa_cons (pv 11) pa_nil))) pa_nil)) (pg_tup rfl (pgs_cons (pg_name (i := 6) sc_pInit.nd rfl (.inl rfl)) (pgs_cons (pg_name (i := 12) sc_pInit.nd rfl (.inl rfl)) pgs_nil)))
      (pss_one (ps_if (pt_not (pt_val (pv 12)))
        (pss_one ps_never)
        pss_nil)))
    (pss_cons (ps_fld (pv 0) (pv 3) rfl)
    (pss_cons (ps_fld (pv 0) (pv 4) rfl)
    (pss_cons (ps_fld (pv 0) (pe_callTy call_tuple_of (by rfl) T.z_tuple (by decide +kernel) (pa_cons (pv 5) pa_nil)) rfl)
    (pss_cons (ps_fld (pv 0) (pe_callTy call_tuple_of (by rfl) T.z_tuple (by decide +kernel) (pa_cons (pv 11) pa_nil)) rfl)
    (pss_one (ps_fld (pv 0) (pe_call (ok_srows T) (hr.mono (by decide)) (by rfl) T.g_srows T.F_srows.kp T.b_srows .nil pass0 (pa_cons (pv 3) (pa_cons (pv 11) pa_nil))) rfl))))))))))))))), ?_⟩
  refine ⟨_, rfl, v1, d1, 12, rfl, im1.mono s0, by omega, by omega, sm1, fun H1 w1 s1 i1 => ?_⟩
  rw [e1] at i1
  have hp1 := s1 _ _ hp
  have i1' := i1
  obtain ⟨a1, xs, rfl, ha1, hxs⟩ := i1.tup_inv
  have xl : xs.length = L.rows.length := by rw [hxs.len, List.length_map]
  refine ⟨_, rfl, _, L.st, rfl, i1', _, rfl, iteF ?_⟩
  have dc1 : decide ((1 : Int) ≤ ((xs.length : Nat) : Int)) = true := decide_eq_true (by omega)
  have dc2 : decide (((xs.length : Nat) : Int) ≤ (60 : Int)) = true := decide_eq_true (by omega)
  refine ⟨_, rfl, a1, xs, rfl, .inr (SqT.of ha1), _, _, rfl, rfl, true, congrArg V.bl dc1, iteT ⟨_, _, rfl, rfl, true, congrArg V.bl dc2, iteF ?_⟩⟩
  have hv2 : decide (v2 = .non) = false := by
    refine decide_eq_false fun e => ?_
    subst e
    cases im2.non_data
    cases e2
  refine ⟨_, rfl, rfl, _, congrArg V.bl hv2, iteF ?_⟩
  refine ⟨_, rfl, v2, d2, 12, rfl, im2.mono (s0.trans s1), by omega, by omega, sm2, fun H2 w2 s2 i2 => ?_⟩
  rw [e2] at i2
  have i2' := i2
  obtain ⟨a2, fs2, rfl, ha2, hfs⟩ := i2.tup_inv
  have efs : fs2 = L.ends.map fun (i : Nat) => V.int i := by
    have : (L.ends.map fun (e : Nat) => PyData.int e) = (L.ends.map fun (i : Nat) => (i : Int)).map PyData.int := by rw [List.map_map]; rfl
    rw [this] at hfs
    rw [Ims.ints_inv hfs, List.map_map]; rfl
  have fl2 : fs2.length = L.ends.length := by rw [efs, List.length_map]
  have enl : L.ends.length ≤ 60 := by
    have := few_below L.rows.length L.ends (rise_nodup okL.erise) okL.elt
    omega
  have ha12 := s2 _ _ ha1
  have hp2 := s2 _ _ hp1
  refine ⟨_, rfl, _, rfl, a1, xs, rfl, .inr (SqT.of ha12), _, _, rfl, rfl, _, L.ends, _, _, rfl, i2', hne, by omega, okL.erise, fun i hi => ?_, fun H3 s3 => ?_⟩
  · have := okL.elt i hi
    omega
  have ha23 := s3 _ _ ha2
  refine ⟨_, rfl, iteF ?_⟩
  have dc3 : decide (V.int ((fs2.length : Nat) : Int) = V.int 0) = false := decide_eq_false fun e => by
    have := V.int.inj e
    have : L.ends.length ≠ 0 := by simpa using hne
    omega
  refine ⟨_, rfl, a2, fs2, rfl, .inr (SqT.of ha23), rfl, _, congrArg V.bl dc3, iteF ?_⟩
  refine ⟨Nat.zero_le _, fun aT nT => ?_⟩
  have s03 := ((s0.trans s1).trans s2).trans s3
  have i13 : Im H3 (.ref a1) L.st := (i1'.mono s2).mono s3
  have ha13 := s3 _ _ ha12
  have hx3 := (hxs.mono s2).mono s3
  have i23 := i2'.mono s3
  have hp3 := s3 _ _ hp2
  have sT : Same H3 (hide [aT] H3) := fun z o e => by rw [hide_out (by simpa using ne_of_none e nT)]; exact e
  have g0 : hide [aT] (upd H3 aT (.lst [])) = hide [aT] H3 := hide_mut (by simp)
  refine ⟨_, rfl, a1, xs, rfl, SqT.of ((upd_ne (ne_of_none ha13 nT)).trans ha13), for_it (walk_enumT (xs := xs)) (fun i σ H4 => ∃ (o6 o7 o8 o9 o10 o11 o12 : Option V) (ts : List V), σ = [some (.ref p), some v1, some v2, some (.ref a1), some (.ref a2), some (.ref aT), o6, o7, o8, o9, o10, o11, o12] ∧ Same H3 (hide [aT] H4) ∧ H4 aT = some (.lst ts) ∧ ts.length = i ∧
    ∀ (j : Nat) (r : Row), j < i → L.rows[j]? = some r → ∃ d : Addr, ts[j]? = some (.ref d) ∧ hide [aT] H4 d = some (.dK (rowKV r)))
    ⟨_, _, _, _, _, _, _, [], rfl, by rw [g0]; exact sT, upd_same, rfl, fun j r h => absurd h (Nat.not_lt_zero _)⟩ (fun i σ H4 _ h => ?_) (fun i x σ H4 H5 hi h y => ?_) fun σ H4 h => ?_⟩
  · obtain ⟨_, _, _, _, _, _, _, _, _, s, _⟩ := h
    exact SqT.of (hide_same _ _ _ _ (s _ _ ha13))
  · obtain ⟨o6, o7, o8, o9, o10, o11, o12, ts, rfl, sB, hT, tl, tt⟩ := h
    obtain ⟨TT, x1, y1, rfl, nTT, rfl, g1, g2⟩ := y
    cases g1
    have hir : i < L.rows.length := by omega
    have g2 : xs[i]? = some y1 := g2
    obtain ⟨dd, hd, im⟩ := hx3.get g2
    rw [List.getElem?_map, List.getElem?_eq_getElem hir] at hd
    have hir2 : L.rows[i]? = some L.rows[i] := List.getElem?_eq_getElem hir
    have hrm := List.getElem_mem hir
    generalize L.rows[i] = r at hd hrm hir2
    cases hd
    have rfew := okL.fewR hrm
    have rr := okL.rise r hrm
    have nTB : TT ≠ aT := (ne_of_none hT nTT).symm
    refine ⟨TT, _, rfl, SqT.of upd_same, rfl, _, _, rfl, _, _, rfl, rfl, ?_⟩
    have sTT := hide_upd (L := [aT]) (o := .tup [.int (i : Nat), y1]) nTT
    have hT5 : upd H4 TT (.tup [.int (i : Nat), y1]) aT = some (.lst ts) := (upd_ne nTB.symm).trans hT
    generalize upd H4 TT (.tup [.int (i : Nat), y1]) = H5 at sTT hT5
    have sB5 := sB.trans sTT
    have ha15 := hide_same _ _ _ _ (sB5 _ _ ha13)
    have im5 := im.mono (sB5.trans (hide_same _ _))
    have im5' := im5
    obtain ⟨b, ys, rfl, hb, hys⟩ := im5.tup_inv
    have yl : ys.length = r.length := by rw [hys.len, List.length_map]
    refine ⟨_, rfl, a1, xs, rfl, .inr (SqT.of ha15), _, rfl, L.rows.length, .ref b, r, by rw [xl]; rfl, im5', rr, okL.sign r hrm, _, rfl, iteF ?_⟩
    intro ad nad
    have hT6 : upd H5 ad (.dK []) aT = some (.lst ts) := (upd_ne (ne_of_none hT5 nad)).trans hT5
    have had : ad ≠ aT := (ne_of_none hT5 nad).symm
    have s56 : Same H5 (hide [ad] (upd H5 ad (.dK []))) := by
      rw [hide_mut (by simp)]
      exact fun z o e => by rw [hide_out (by simpa using ne_of_none e nad)]; exact e
    have had6 : upd H5 ad (.dK []) ad = some (.dK []) := upd_same
    generalize upd H5 ad (.dK []) = H6 at hT6 s56 had6
    refine ⟨_, rfl, b, rfl, ⟨_, SqT.of (hide_same _ _ _ _ (s56 _ _ hb))⟩, for_it (walk_tup (xs := ys)) (fun t σ H' => ∃ (o9 o10 : Option V), σ = [some (.ref p), some v1, some v2, some (.ref a1), some (.ref a2), some (.ref aT), some (.int (i : Nat)), some (.ref b), some (.ref ad), o9, o10, o11, o12] ∧ Same H5 (hide [ad] H') ∧ H' ad = some (.dK (rowKV (r.take t))))
      ⟨_, _, rfl, s56, had6⟩ (fun t σ H' _ h => ?_) (fun t x σ H' H'' ht h y => ?_) fun σ H' h => ?_⟩
    · obtain ⟨_, _, _, s, _⟩ := h
      exact SqT.of (hide_same _ _ _ _ (s _ _ hb))
    · obtain ⟨o9, o10, rfl, s, hd⟩ := h
      obtain ⟨rfl, hx⟩ := y
      obtain ⟨d, hdd, him⟩ := hys.get hx
      rw [List.getElem?_map] at hdd
      have htr : t < r.length := by rw [← yl]; exact ht
      have hpt : r[t]? = some r[t] := List.getElem?_eq_getElem htr
      have et : r.take (t + 1) = r.take t ++ [r[t]] := by rw [List.take_add_one, hpt]; rfl
      have hno : r[t].1 ∉ (r.take t).map (·.1) := by
        have : ((r.take (t + 1)).map (·.1)).Nodup := by rw [List.map_take]; exact (rise_nodup rr).sublist (List.take_sublist _ _)
        rw [et, List.map_append, List.nodup_append] at this
        exact fun h => this.2.2 _ h _ (by simp) rfl
      generalize r[t] = q at hpt et hno
      rw [hpt] at hdd
      cases hdd
      obtain ⟨c, u1, u2, rfl, hc, j1, j2⟩ := him.pair_inv
      cases j1.str_inv
      cases j2.int_inv
      have hc' := hide_same _ _ _ _ (s _ _ hc)
      refine ⟨c, _, rfl, SqT.of hc', rfl, _, _, rfl, _, _, rfl, rfl, ?_⟩
      have hk : (Sum.inr (sgS q.1) : Key) ∉ (rowKV (r.take t)).map (·.1) := fun h => by
        obtain ⟨kv, h1, h2⟩ := List.mem_map.mp h
        obtain ⟨q', h3, rfl⟩ := List.mem_map.mp h1
        have := sgS_inj (Sum.inr.inj h2)
        exact hno (by rw [← this]; exact List.mem_map.mpr ⟨q', h3, rfl⟩)
      refine ⟨_, rfl, _, rfl, _, rfl, ad, _, rfl, DPut.k (k := Sum.inr (sgS q.1)) hd (szlt (by unfold rowKV; rw [List.length_map, List.length_take]; omega)), _, _, rfl, ?_, ?_⟩
      · rw [hide_mut (by simp)]; exact s
      · rw [upd_same, putK_new hk, et]
        unfold rowKV
        rw [List.map_append]; rfl
    · obtain ⟨o9, o10, rfl, s, hd⟩ := h
      rw [yl, List.take_length] at hd
      have hT7 := hide_same _ _ _ _ (s _ _ hT5)
      refine ⟨_, rfl, .inl ⟨rfl, _, SqL.of hT7⟩, _, rfl, aT, ts, _, rfl, rfl, hT7, szlt (by omega), _, _, _, _, _, _, _, ts ++ [.ref ad], rfl, ?_, upd_same, by rw [List.length_append, List.length_singleton]; omega, fun j r' hj hr' => ?_⟩
      · rw [hide_mut (by simp)]
        exact sB5.trans (hide_mono (s.trans (hide_same _ _)))
      · rw [hide_mut (by simp)]
        by_cases e : j = i
        · subst e
          rw [hir2] at hr'
          cases hr'
          refine ⟨ad, ?_, ?_⟩
          · rw [← tl, List.getElem?_append_right (Nat.le_refl _)]; simp
          · rw [hide_out (by simpa using had)]; exact hd
        · obtain ⟨d, h1, h2⟩ := tt j r' (by omega) hr'
          refine ⟨d, ?_, ?_⟩
          · rw [List.getElem?_append_left (by omega)]; exact h1
          · exact hide_mono (s.trans (hide_same _ _)) _ _ (sTT _ _ h2)
  · obtain ⟨o6, o7, o8, o9, o10, o11, o12, ts, rfl, sB, hT, tl, tt⟩ := h
    have s34 := sB.trans (hide_same _ _)
    have tabs : TabsAt H4 ts L.rows := ⟨by rw [tl, xl], fun j r hr => by
      obtain ⟨d, h1, h2⟩ := tt j r (by rw [xl]; exact (List.getElem?_eq_some_iff.mp hr).1) hr
      exact ⟨d, h1, hide_same _ _ _ _ h2⟩⟩
    have ha14 := s34 _ _ ha13
    have ha24 := s34 _ _ ha23
    have i14 := i13.mono s34
    have hp4 := s34 _ _ hp3
    have s04 := s03.trans s34
    refine ⟨_, rfl, a1, xs, rfl, .inr (SqT.of ha14), _, rfl, by omega, by omega, fun D nD => lc_it walk_range (fun i H' => Same H4 (hide [D] H') ∧ H' D = some (.lst ((flagsV L).take i))) ⟨?_, upd_same⟩ (fun i H' _ pv => True.intro) (fun i x H' H'' hi pv y => ?_) fun H5 pv => ?_⟩
    · rw [hide_mut (by simp)]
      exact fun z o e => by rw [hide_out (by simpa using ne_of_none e nD)]; exact e
    · obtain ⟨rfl, rfl⟩ := y
      have hi : i < L.rows.length := by rw [← xl]; exact hi
      have ha2i := hide_same _ _ _ _ (pv.1 _ _ ha24)
      have hx : (flagsV L)[i]? = some (.bl (decide (i ∈ L.ends))) := by
        unfold flagsV
        rw [List.getElem?_map, List.getElem?_range hi]; rfl
      have ein : inV (.int (0 + (i : Nat))) fs2 = decide (i ∈ L.ends) := by
        rw [efs, show (0 : Int) + (i : Nat) = ((i : Nat) : Int) by omega, inV_ends _ _ (by omega)]; rfl
      have ef : (if false = true then !inV (.int (0 + (i : Nat))) fs2 else inV (.int (0 + (i : Nat))) fs2) = decide (i ∈ L.ends) := by rw [if_neg Bool.false_ne_true, ein]
      refine ⟨rfl, _, rfl, _, rfl, a2, fs2, rfl, .inr ha2i, rfl, by rw [efs, List.all_map]; exact List.all_eq_true.mpr fun _ _ => rfl, _, pv.2, ?_, ?_, ?_⟩
      · rw [List.length_take]; exact szlt (by omega)
      · rw [hide_mut (by simp)]; exact pv.1
      · rw [ef, upd_same, List.take_add_one, hx]; rfl
    obtain ⟨sD, hD⟩ := pv
    have fl : (flagsV L).length = L.rows.length := by simp [flagsV]
    rw [Int.toNat_natCast, xl, ← fl, List.take_length] at hD
    have s45 := sD.trans (hide_same _ _)
    have hT5 := s45 _ _ hT
    have tabs5 := tabs.ext (LamX.ExtN.of s45)
    refine ⟨_, rfl, _, rfl, aT, D, ts, L, rfl, hT5, tabs5, hD, okL, fun H6 l s56 nl hl => ?_⟩
    have rl : ((List.replicate L.rows.length true).map V.bl).length = L.rows.length := by simp
    refine ⟨l, _, rfl, SqL.of hl, for_it (walk_enum (xs := (List.replicate L.rows.length true).map V.bl)) (fun i σ H' => ∃ (o6 o12 : Option V), σ = [some (.ref p), some v1, some v2, some (.ref a1), some (.ref a2), some (.ref aT), o6, o7, o8, o9, o10, some (.ref D), o12] ∧ Same H6 H')
      ⟨_, _, rfl, fun _ _ e => e⟩ (fun i σ H' _ h => ?_) (fun i x σ H' H'' hi h y => ?_) fun σ H7 h => ?_⟩
    · obtain ⟨_, _, _, s⟩ := h
      exact SqL.of (s _ _ hl)
    · obtain ⟨_, _, rfl, s⟩ := h
      obtain ⟨TT, x1, y1, rfl, nTT, rfl, g1, g2⟩ := y
      cases g1
      have g2 : ((List.replicate L.rows.length true).map V.bl)[i]? = some y1 := g2
      have : y1 = .bl true := by
        rw [List.getElem?_map, List.getElem?_replicate, if_pos (by omega)] at g2
        cases g2; rfl
      subst this
      refine ⟨TT, _, rfl, SqT.of upd_same, rfl, _, _, rfl, _, _, rfl, rfl, ?_⟩
      exact ⟨_, rfl, _, rfl, iteF ⟨_, _, rfl, s.trans (same_new nTT)⟩⟩
    obtain ⟨o6, o12, rfl, s67⟩ := h
    have s47 := (s45.trans s56).trans s67
    have hp7 := s47 _ _ hp4
    have i17 := i14.mono s47
    have hT7 := s47 _ _ hT
    have hD7 := s67 _ _ (s56 _ _ hD)
    have tabs7 := tabs.ext (LamX.ExtN.of s47)
    have s07 := s04.trans s47
    have pl : ∀ {f : Str} {v : V} {fs : List (Str × V)} {n : Nat}, fs.length ≤ n → (putF f v fs).length ≤ n + 1 := fun {f v fs n} h => Nat.le_trans (length_putF f v fs) (by omega)
    have z0 : ([] : List (Str × V)).length ≤ 0 := Nat.le_refl _
    refine ⟨_, rfl, _, rfl, p, T.cP, dx, _, rfl, hp7, T.clP, T.nP_states, by decide, ?_⟩
    refine ⟨_, rfl, _, rfl, p, T.cP, dx, _, rfl, upd_same, T.clP, T.nP_ends, Nat.lt_of_le_of_lt (pl z0) (by decide), ?_⟩
    rw [upd_upd]
    have nP7 : ∀ q ∈ [p], ∀ xs, H7 q ≠ some (.tup xs) := fun q hq xs e => by
      rw [List.mem_singleton.mp hq, hp7] at e; cases e
    have hiP : ∀ {z : Addr} {o : HO}, H7 z = some o → (∀ dx fs, o ≠ .ins T.cP dx fs) → hide [p] H7 z = some o := fun {z o} e n => by
      rw [hide_out (by simp; intro e2; rw [e2, hp7] at e; cases e; exact n _ _ rfl)]; exact e
    have b1 : Im (hide [p] H7) (.ref a1) L.st := i17.hid nP7 L.noL_st
    have b2 := hiP hT7 (fun _ _ z => nomatch z)
    have b3 := hiP hD7 (fun _ _ z => nomatch z)
    have b4 : TabsAt (hide [p] H7) ts L.rows := ⟨tabs7.1, fun j r hr => by
      obtain ⟨d, h1, h2⟩ := tabs7.2 j r hr
      exact ⟨d, h1, hiP h2 (fun _ _ z => nomatch z)⟩⟩
    have b5 : Same H0 (hide [p] H7) := hide_base s07 fun q hq => by rw [List.mem_singleton.mp hq]; exact np
    have m8 : ∀ {o : HO}, hide [p] (upd H7 p o) = hide [p] H7 := fun {o} => hide_mut (by simp)
    have hp8 : ∀ {o : HO}, upd H7 p o p = some o := fun {o} => upd_same
    have l2 : (putF ("ends" : Str) (.ref a2) (putF "states" (.ref a1) [])).length ≤ 2 := pl (pl z0)
    have k1 : (putF ("ends" : Str) (.ref a2) (putF "states" (.ref a1) [])).lookup ("states" : Str) = some (.ref a1) := by rw [look_ne (by decide +kernel), look_same]
    generalize putF ("ends" : Str) (.ref a2) (putF "states" (.ref a1) []) = fs8 at l2 k1
    have hp8 := hp8 (o := .ins T.cP dx fs8)
    have m8 := m8 (o := .ins T.cP dx fs8)
    generalize upd H7 p (.ins T.cP dx fs8) = H8 at hp8 m8
    rw [← m8] at b1 b2 b3 b4 b5
    refine ⟨_, rfl, aT, ts, rfl, .inl ⟨SqL.of (hide_same _ _ _ _ b2), fun tt nt => ?_⟩⟩
    have s9 := hide_upd (L := [p]) (o := .tup ts) nt
    have hp9 : upd H8 tt (.tup ts) p = some (.ins T.cP dx fs8) := (upd_ne (ne_of_none hp8 nt)).trans hp8
    have htt : hide [p] (upd H8 tt (.tup ts)) tt = some (.tup ts) := by rw [hide_out (by simpa using (ne_of_none hp8 nt).symm)]; exact upd_same
    generalize upd H8 tt (.tup ts) = H9 at s9 hp9 htt
    have c1 := b1.mono s9
    have c3 := s9 _ _ b3
    have c4 := b4.ext (LamX.ExtN.of s9)
    have c5 := b5.trans s9
    refine ⟨_, rfl, p, T.cP, dx, fs8, rfl, hp9, T.clP, T.nP_table, by omega, ?_⟩
    have m10 : hide [p] (upd H9 p (.ins T.cP dx (putF "table" (.ref tt) fs8))) = hide [p] H9 := hide_mut (by simp)
    have hp10 : upd H9 p (.ins T.cP dx (putF "table" (.ref tt) fs8)) p = some (.ins T.cP dx (putF "table" (.ref tt) fs8)) := upd_same
    generalize upd H9 p (.ins T.cP dx (putF "table" (.ref tt) fs8)) = H10 at m10 hp10
    rw [← m10] at c1 c3 c4 c5 htt
    refine ⟨_, rfl, D, flagsV L, rfl, .inl ⟨SqL.of (hide_same _ _ _ _ c3), fun et net => ?_⟩⟩
    have s11 := hide_upd (L := [p]) (o := .tup (flagsV L)) net
    have hp11 : upd H10 et (.tup (flagsV L)) p = some (.ins T.cP dx (putF "table" (.ref tt) fs8)) := (upd_ne (ne_of_none hp10 net)).trans hp10
    have het : hide [p] (upd H10 et (.tup (flagsV L))) et = some (.tup (flagsV L)) := by rw [hide_out (by simpa using (ne_of_none hp10 net).symm)]; exact upd_same
    generalize upd H10 et (.tup (flagsV L)) = H11 at s11 hp11 het
    have c1 := c1.mono s11
    have c2 := s11 _ _ htt
    have c3 := s11 _ _ c3
    have c4 := c4.ext (LamX.ExtN.of s11)
    have c5 := c5.trans s11
    refine ⟨_, rfl, p, T.cP, dx, _, rfl, hp11, T.clP, T.nP_is_end, Nat.lt_of_le_of_lt (pl l2) (by decide), ?_⟩
    have m12 : hide [p] (upd H11 p (.ins T.cP dx (putF "is_end" (.ref et) (putF "table" (.ref tt) fs8)))) = hide [p] H11 := hide_mut (by simp)
    have hp12 : upd H11 p (.ins T.cP dx (putF "is_end" (.ref et) (putF "table" (.ref tt) fs8))) p = some (.ins T.cP dx (putF "is_end" (.ref et) (putF "table" (.ref tt) fs8))) := upd_same
    have k2 : (putF ("is_end" : Str) (.ref et) (putF "table" (.ref tt) fs8)).lookup ("states" : Str) = some (.ref a1) := by rw [look_ne (by decide +kernel), look_ne (by decide +kernel)]; exact k1
    have k3 : (putF ("is_end" : Str) (.ref et) (putF "table" (.ref tt) fs8)).lookup ("table" : Str) = some (.ref tt) := by rw [look_ne (by decide +kernel), look_same]
    have k4 : (putF ("is_end" : Str) (.ref et) (putF "table" (.ref tt) fs8)).lookup ("is_end" : Str) = some (.ref et) := look_same _ _
    have l4 : (putF ("is_end" : Str) (.ref et) (putF "table" (.ref tt) fs8)).length ≤ 4 := pl (pl l2)
    generalize putF ("is_end" : Str) (.ref et) (putF "table" (.ref tt) fs8) = fs12 at m12 hp12 k2 k3 k4 l4
    generalize upd H11 p (.ins T.cP dx fs12) = H12 at m12 hp12
    rw [← m12] at c1 c2 c3 c4 c5 het
    refine ⟨_, rfl, _, rfl, .ref a1, D, L, rfl, c1.mono (hide_same _ _), hide_same _ _ _ _ c3, okL, fun H13 sr s13 nsr => ?_⟩
    have hp13 := s13 _ _ hp12
    have s13 := hide_mono (L := [p]) s13
    have c1 := c1.mono s13
    have c2 := s13 _ _ c2
    have ce := s13 _ _ het
    have c4 := c4.ext (LamX.ExtN.of s13)
    have c5 := c5.trans s13
    refine ⟨_, rfl, p, T.cP, dx, fs12, rfl, hp13, T.clP, T.nP_step_rows, by omega, ?_⟩
    have m14 : hide [p] (upd H13 p (.ins T.cP dx (putF "step_rows" (.ref sr) fs12))) = hide [p] H13 := hide_mut (by simp)
    rw [← m14] at c1 c2 ce c4 c5
    refine k _ (c5.trans (hide_same _ _)) ⟨dx, _, .ref a1, tt, et, ts, upd_same, ?_, ?_, ?_, c1.mono (hide_same _ _), hide_same _ _ _ _ c2, c4.ext (LamX.ExtN.of (hide_same _ _)), hide_same _ _ _ _ ce⟩
    · rw [look_ne (by decide +kernel)]; exact k2
    · rw [look_ne (by decide +kernel)]; exact k3
    · rw [look_ne (by decide +kernel)]; exact k4
end
end Tk
set_option maxHeartbeats 4000000
set_option pp.maxSteps 2500
/-! the draws: _law_draw, _law_mix, _law_pick -/
namespace Tk
open PySem L2
def DrawO (c : Addr) (cells : List Int) (H : Hp) (D : Addr) : Prop := ∃ (a1 a2 a3 a4 a5 : Int), H D = some (.lst [.ref c, .int a1, .int a2, .int a3, .int a4, .int a5]) ∧ H c = some (.lst (cells.map V.int)) ∧ c ≠ D ∧ 0 ≤ a1 ∧ 0 ≤ a2
theorem DrawO.mono {c : Addr} {cells : List Int} {H H' : Hp} {D : Addr} (h : DrawO c cells H D) (s : Same H H') : DrawO c cells H' D := by
  obtain ⟨a1, a2, a3, a4, a5, h1, h2, h3⟩ := h
  exact ⟨a1, a2, a3, a4, a5, s _ _ h1, s _ _ h2, h3⟩
theorem DrawO.hid {c : Addr} {cells : List Int} {H H' : Hp} {D : Addr} {L : List Addr} (h0 : DrawO c cells (hide L H) D) (h : DrawO c cells H' D) : DrawO c cells (hide L H') D := by
  obtain ⟨_, _, _, _, _, g1, g2, _⟩ := h0
  obtain ⟨a1, a2, a3, a4, a5, h1, h2, h3⟩ := h
  have n1 := (hide_some g1).1
  have n2 := (hide_some g2).1
  exact ⟨a1, a2, a3, a4, a5, (hide_out n1).trans h1, (hide_out n2).trans h2, h3⟩
theorem DrawO.turn {H : Hp} {D c : Addr} {cells : List Int} (e2 : H c = some (.lst (cells.map V.int))) (e3 : c ≠ D) {a1 a2 a3 a4 a5 : Int} (h1 : 0 ≤ a1) (h2 : 0 ≤ a2) : DrawO c cells (upd H D (.lst [.ref c, .int a1, .int a2, .int a3, .int a4, .int a5])) D :=
  ⟨a1, a2, a3, a4, a5, upd_same, (upd_ne e3).trans e2, e3, h1, h2⟩
theorem hide_turn {H : Hp} {D : Addr} {o : HO} : Same (hide [D] H) (hide [D] (upd H D o)) := by rw [hide_mut (by simp)]; exact fun _ _ e => e
section
variable {P : Program} {w : World} {K : PySem.W.Frag} {mg : Str → Option Value} {base : Heap}
def spMix : Sp := fun vs H Q _ => ∃ i j : Int, vs = [.int i, .int j] ∧ ∀ k : Int, Q (.int k) H
theorem ok_mix (T : Fx K mg) : FnOk P w K mg base CX0 1 T.a_mix T.d_mix ["_law_cell", "_law_turn"] spMix := by
  refine T.F_mix.ok sc_mix (fun vs H Q E h => ?_) (fun cdv A outer s H vs Q E hr h => ?_)
  · obtain ⟨i, j, rfl, _⟩ := h; rfl
  obtain ⟨i, j, rfl, k⟩ := h
  have hu := hu_of hr
  refine ⟨_, (pss_cons (ps_set (i := 2) sc_mix.nd rfl (.inl rfl) (pe_op op_modN (pe_callTy call_int1 (by rfl) T.z_int (by decide +kernel) (pa_cons (pe_op op_add (pe_op op_add (pe_op op_mul (pv 0) pe_int) (pe_op op_mul (pv 1) pe_int)) pe_int) pa_nil)) pe_int))
    (pss_cons (ps_set (i := 3) sc_mix.nd rfl (.inl rfl) (pe_op op_modN (pe_callTy call_int1 (by rfl) T.z_int (by decide +kernel) (pa_cons (pe_op op_add (pe_op op_add (pe_op op_mul (pv 2) (pv 2)) (pe_op op_mul (pv 1) pe_int)) (pv 0)) pa_nil)) pe_int))
    (pss_cons (ps_set (i := 3) sc_mix.nd rfl (.inl rfl) (pe_op op_modN (pe_callTy call_int1 (by rfl) T.z_int (by decide +kernel) (pa_cons (pe_op op_add (pe_op op_mul (pv 3) (pv 3)) (pv 2)) pa_nil)) pe_int))
    (pss_one (ps_ret (pe_op op_fdiv (pv 3) pe_int)))))), ?_⟩
  have c0 : ∀ (x : Int) (c : Int), -(2 ^ 64) < c → c < 2 ^ 64 → CMul x c := fun x c h1 h2 => .inr ⟨h1, h2⟩
  have fm : ∀ (x c : Int), 0 < c → 0 ≤ x.fmod c ∧ x.fmod c < c := fun x c h => ⟨Int.fmod_nonneg_of_pos _ h, Int.fmod_lt_of_pos _ h⟩
  have cm : ∀ (x c y : Int), 0 < c → c ≤ 2147483647 → CMul (x.fmod c) y := fun x c y h h2 => .inl ⟨by have := fm x c h; omega, by have := fm x c h; omega⟩
  have n1 : (2147483647 : Int) ≠ 0 := by decide
  have n2 : (998244353 : Int) ≠ 0 := by decide
  have n3 : (1000000007 : Int) ≠ 0 := by decide
  refine ⟨_, rfl, _, _, rfl, rfl, c0 _ _ (by decide) (by decide), _, rfl, _, _, rfl, rfl, c0 _ _ (by decide) (by decide), _, _, rfl, rfl, _, _, rfl, rfl, .inl ⟨_, rfl, _, _, rfl, rfl, n1, ?_⟩⟩
  refine ⟨_, rfl, _, rfl, _, _, rfl, rfl, cm _ _ _ (by decide) (by decide), _, rfl, _, _, rfl, rfl, c0 _ _ (by decide) (by decide), _, _, rfl, rfl, _, rfl, _, _, rfl, rfl, .inl ⟨_, rfl, _, _, rfl, rfl, n2, ?_⟩⟩
  refine ⟨_, rfl, _, rfl, _, _, rfl, rfl, cm _ _ _ (by decide) (by decide), _, rfl, _, _, rfl, rfl, .inl ⟨_, rfl, _, _, rfl, rfl, n3, ?_⟩⟩
  exact ⟨_, rfl, _, _, rfl, rfl, ⟨by decide, by decide⟩, k _⟩
/-- a great cell is taken -/
def tBig : TS := fun D σ H => ∃ (c : Addr) (cells : List Int) (a : Addr) (s1 s3 s4 : Option V) (v2 : Option V), σ = [some (.ref a), s1, v2, s3, s4] ∧ DrawO c cells H a ∧ ∀ (v2 : Option V) H', Same (hide [a] H) (hide [a] H') → DrawO c cells H' a → D.nx [some (.ref a), s1, v2, s3, s4] H'
/-- a draw: some number below many -/
def spPick : Sp := fun vs H Q _ => ∃ (c : Addr) (cells : List Int) (D : Addr) (n : Nat), vs = [.ref D, .int n] ∧ DrawO c cells H D ∧ 1 ≤ n ∧ n < 1073741824 ∧ ∀ (r : Nat) H', r < n → Same (hide [D] H) (hide [D] H') → DrawO c cells H' D → Q (.int r) H'
theorem ok_pick (T : Fx K mg) : FnOk P w K mg base CX0 2 T.a_pick T.d_pick ["_law_draw_here", "_law_many"] spPick := by
  refine T.F_pick.ok sc_pick (fun vs H Q E h => ?_) (fun cdv A outer s H vs Q E hr h => ?_)
  · obtain ⟨_, _, D, n, rfl, _⟩ := h; rfl
  obtain ⟨ca, cells, D, n, rfl, hD, h1, hn, k⟩ := h
  have hu := hu_of hr
  refine ⟨_, (pss_cons (ps_if (pt_cmpR op_lt (pv 1) pe_int (nomark _))
      (pss_one (ps_ret pe_int))
      pss_nil)
    (pss_cons (ps_imp (t' := tBig) (ps_if (PW.pt (pw_and (pt_cmpR op_eq (pe_ix ix_list (pv 0) pe_int (fun _ _ => rfl)) pe_int (nomark _)) (pw_and (pt_cmpR op_lt (pe_ix ix_list (pv 0) pe_int (fun _ _ => rfl)) (pe_callB call_len_seq (by rfl) T.z_len (by decide +kernel) (pa_cons (pe_ix ix_list (pv 0) pe_int (fun _ _ => rfl)) pa_nil)) (nomark _)) (pw_and1 (pt_cmpR op_eq (pe_ix ix_list (pv 0) pe_int (fun _ _ => rfl)) pe_int (nomark _))))))
      (pss_cons (ps_set (i := 2) sc_pick.nd rfl (.inl rfl) (pe_ix ix_list (pe_ix ix_list (pv 0) pe_int (fun _ _ => rfl)) (pe_ix ix_list (pv 0) pe_int (fun _ _ => rfl)) (fun _ _ => rfl)))
      (pss_one (ps_if (PW.pt (pw_or (pt_cmpR op_ge (pv 2) (pe_op op_powB pe_int pe_int) (nomark _)) (pw_or1 (pt_cmpR op_le (pv 2) (pe_un un_neg (pe_op op_powB pe_int pe_int)) (nomark _)))))
        (pss_cons (ps_asg (pe_op op_modN (pe_callTy call_int1 (by rfl) T.z_int (by decide +kernel) (pa_cons (pe_callB call_abs (by rfl) T.z_abs (by decide +kernel) (pa_cons (pv 2) pa_nil)) pa_nil)) (pe_op op_powB (pe_op op_powB pe_int pe_int) pe_int)) (pg_sub (pv 0) pe_int set_list))
        (pss_one (ps_asg (pe_op op_add (pe_ix ix_list (pv 0) pe_int (fun _ _ => rfl)) pe_int) (pg_sub (pv 0) pe_int set_list))))
        pss_nil)))
      pss_nil) ?I2)
    (pss_cons (ps_if (pt_cmpR op_gt (pe_ix ix_list (pv 0) pe_int (fun _ _ => rfl)) pe_int (nomark _))
      (pss_cons (ps_set (i := 3) sc_pick.nd rfl (.inl rfl) (pe_op op_modN (pe_callTy call_int1 (by rfl) T.z_int (by decide +kernel) (pa_cons (pe_ix ix_list (pv 0) pe_int (fun _ _ => rfl)) pa_nil)) (pv 1)))
      (pss_cons (ps_asg (pe_op op_fdiv (pe_ix ix_list (pv 0) pe_int (fun _ _ => rfl)) (pv 1)) (pg_sub (pv 0) pe_int set_list))
      (pss_one (ps_ret (pv 3)))))
      pss_nil)
    (pss_cons (ps_if (pt_cmpR op_lt (pe_ix ix_list (pv 0) pe_int (fun _ _ => rfl)) (pe_callB call_len_seq (by rfl) T.z_len (by decide +kernel) (pa_cons (pe_ix ix_list (pv 0) pe_int (fun _ _ => rfl)) pa_nil)) (nomark _))
      (pss_cons (ps_set (i := 2) sc_pick.nd rfl (.inl rfl) (pe_ix ix_list (pe_ix ix_list (pv 0) pe_int (fun _ _ => rfl)) (pe_ix ix_list (pv 0) pe_int (fun _ _ => rfl)) (fun _ _ => rfl)))
      (pss_cons (ps_asg (pe_op op_add (pe_ix ix_list (pv 0) pe_int (fun _ _ => rfl)) pe_int) (pg_sub (pv 0) pe_int set_list))
      (pss_cons (ps_set (i := 4) sc_pick.nd rfl (.inl rfl) (pe_op op_modN (pe_callTy call_int1 (by rfl) T.z_int (by decide +kernel) (pa_cons (pe_call (ok_mix T) (hr.mono (by decide)) (by rfl) T.g_mix T.F_mix.kp T.b_mix .nil pass0 (pa_cons (pe_op op_add (pv 2) (pe_op op_mul pe_int (pe_ix ix_list (pv 0) pe_int (fun _ _ => rfl)))) (pa_cons (pe_ix ix_list (pv 0) pe_int (fun _ _ => rfl)) pa_nil))) pa_nil)) (pv 1)))
      (pss_cons (ps_if (pt_cmpR op_eq (pe_ix ix_list (pv 0) pe_int (fun _ _ => rfl)) pe_int (nomark _))
        (pss_cons (ps_asg pe_int (pg_sub (pv 0) pe_int set_list))
        (pss_one (ps_asg (pe_op op_add (pe_ix ix_list (pv 0) pe_int (fun _ _ => rfl)) pe_int) (pg_sub (pv 0) pe_int set_list))))
        pss_nil)
      (pss_one (ps_ret (pv 4)))))))
      pss_nil)
    (pss_cons (ps_asg (pe_op op_add (pe_ix ix_list (pv 0) pe_int (fun _ _ => rfl)) pe_int) (pg_sub (pv 0) pe_int set_list))
    (pss_one (ps_ret (pe_op op_modN (pe_callTy call_int1 (by rfl) T.z_int (by decide +kernel) (pa_cons (pe_call (ok_mix T) (hr.mono (by decide)) (by rfl) T.g_mix T.F_mix.kp T.b_mix .nil pass0 (pa_cons (pe_ix ix_list (pv 0) pe_int (fun _ _ => rfl)) (pa_cons (pe_op op_add (pe_ix ix_list (pv 0) pe_int (fun _ _ => rfl)) pe_int) pa_nil))) pa_nil)) (pv 1))))))))), ?_⟩
  case I2 =>
    clear k hD
    intro E' σ H h
    obtain ⟨c, cells, D, s1, s3, s4, v2, rfl, hD, k⟩ := h
    have hD' := hD
    obtain ⟨a1, a2, a3, a4, a5, e1, e2, e3, e4, e5⟩ := hD
    refine ⟨_, rfl, D, _, 2, _, rfl, rfl, SqL.of e1, atI_nat (j := 2) rfl, rfl, _, rfl, ite2 (fun c1 => ?_) (fun c1 => iteF (k _ _ (fun _ _ e => e) hD'))⟩
    refine ⟨_, rfl, D, _, 1, _, rfl, rfl, SqL.of e1, atI_nat (j := 1) rfl, _, rfl, D, _, 0, _, rfl, rfl, SqL.of e1, atI_nat (j := 0) rfl, c, _, rfl, .inl (SqL.of e2), _, _, rfl, rfl, _, rfl, ite2 (fun c2 => ?_) (fun c2 => iteF (k _ _ (fun _ _ e => e) hD'))⟩
    refine ⟨_, rfl, D, _, 3, _, rfl, rfl, SqL.of e1, atI_nat (j := 3) rfl, rfl, _, rfl, ite2 (fun c3 => ?_) (fun c3 => k _ _ (fun _ _ e => e) hD')⟩
    have c2 : a1 < ((cells.map V.int).length : Nat) := by simpa using c2
    obtain ⟨m, rfl⟩ := Int.eq_ofNat_of_zero_le e4
    have c2 : m < cells.length := by rw [List.length_map] at c2; omega
    have hx : (cells.map V.int)[m]? = some (.int cells[m]) := by rw [List.getElem?_map, List.getElem?_eq_getElem c2]; rfl
    generalize cells[m] = cell at hx
    have p1 : (0 : Int) ≤ 18 ∧ (Builtin.Int.intBits 10 : Int) * 18 ≤ 2 ^ 27 := by decide +kernel
    have p2 : (0 : Int) ≤ 60 ∧ (Builtin.Int.intBits 10 : Int) * 60 ≤ 2 ^ 27 := by decide +kernel
    have p3 : (0 : Int) ≤ 64 ∧ (Builtin.Int.intBits (10 ^ (60 : Int).toNat) : Int) * 64 ≤ 2 ^ 27 := by decide +kernel
    have p4 : ((10 : Int) ^ (60 : Int).toNat) ^ (64 : Int).toNat ≠ 0 := by decide +kernel
    refine ⟨_, rfl, D, _, 0, _, rfl, rfl, SqL.of e1, atI_nat (j := 0) rfl, _, rfl, D, _, 1, _, rfl, rfl, SqL.of e1, atI_nat (j := 1) rfl, c, _, _, _, rfl, rfl, SqL.of e2, atI_nat hx, ?_⟩
    refine ⟨_, rfl, _, _, rfl, rfl, p1, _, _, rfl, rfl, _, rfl, ite2 (fun c4 => ?_) (fun c4 => ⟨_, rfl, _, _, rfl, rfl, p1, _, rfl, _, _, rfl, rfl, _, rfl, ite2 (fun c5 => ?_) (fun c5 => k _ _ (fun _ _ e => e) hD')⟩)⟩
    all_goals
      refine ⟨_, rfl, _, rfl, .inl ⟨_, rfl, _, _, rfl, rfl, p2, _, _, rfl, rfl, p3, _, _, rfl, rfl, p4, ?_⟩⟩
      refine ⟨_, rfl, D, _, _, 2, rfl, rfl, e1, rfl, ?_⟩
      refine ⟨_, rfl, D, _, 1, _, rfl, rfl, SqL.of upd_same, atI_nat (j := 1) rfl, _, _, rfl, rfl, _, rfl, D, _, _, 1, rfl, rfl, upd_same, rfl, ?_⟩
      rw [upd_upd]
      exact k _ _ hide_turn (DrawO.turn e2 e3 (by omega) (Int.fmod_nonneg_of_pos _ (by decide +kernel)))
  have fmn : ∀ x : Int, (2 : Int) ≤ n → ∃ r : Nat, r < n ∧ x.fmod n = (r : Int) := fun x h => by
    have q1 := Int.fmod_nonneg_of_pos x (by omega : (0 : Int) < n)
    have q2 := Int.fmod_lt_of_pos x (by omega : (0 : Int) < n)
    obtain ⟨r, hr⟩ := Int.eq_ofNat_of_zero_le q1
    exact ⟨r, by omega, hr⟩
  refine ⟨_, rfl, _, _, rfl, rfl, _, rfl, ite2 (fun c => k 0 H (by omega) (fun _ _ e => e) hD) (fun c => ?_)⟩
  have c : (2 : Int) ≤ n := by simpa using c
  have n0 : (n : Int) ≠ 0 := by omega
  refine ⟨ca, cells, D, _, _, _, _, rfl, hD, fun v2 H1 s1 hD1 => ?_⟩
  clear hD
  obtain ⟨a1, a2, a3, a4, a5, e1, e2, e3, e4, e5⟩ := hD1
  refine ⟨_, rfl, D, _, 2, _, rfl, rfl, SqL.of e1, atI_nat (j := 2) rfl, _, _, rfl, rfl, _, rfl, ite2 (fun c1 => ?_) (fun c1 => ?_)⟩
  · obtain ⟨r, hr1, hr2⟩ := fmn a2 c
    refine ⟨_, rfl, D, _, 2, _, rfl, rfl, SqL.of e1, atI_nat (j := 2) rfl, .inl ⟨_, rfl, _, rfl, _, _, rfl, rfl, n0, ?_⟩⟩
    refine ⟨_, rfl, D, _, 2, _, rfl, rfl, SqL.of e1, atI_nat (j := 2) rfl, _, rfl, _, _, rfl, rfl, ⟨by omega, by omega⟩, ?_⟩
    refine ⟨_, rfl, D, _, _, 2, rfl, rfl, e1, rfl, ?_⟩
    refine ⟨_, rfl, ?_⟩
    have := k r _ hr1 (s1.trans hide_turn) (DrawO.turn (a1 := a1) (a2 := a2 / n) (a3 := a3) (a4 := a4) (a5 := a5) e2 e3 e4 (Int.ediv_nonneg e5 (by omega)))
    rw [← hr2] at this
    exact this
  refine ⟨_, rfl, D, _, 1, _, rfl, rfl, SqL.of e1, atI_nat (j := 1) rfl, _, rfl, D, _, 0, _, rfl, rfl, SqL.of e1, atI_nat (j := 0) rfl, ca, _, rfl, .inl (SqL.of e2), _, _, rfl, rfl, _, rfl, ite2 (fun c2 => ?_) (fun c2 => ?_)⟩
  · have c2 : a1 < ((cells.map V.int).length : Nat) := by simpa using c2
    obtain ⟨m, rfl⟩ := Int.eq_ofNat_of_zero_le e4
    have c2 : m < cells.length := by rw [List.length_map] at c2; omega
    have hx : (cells.map V.int)[m]? = some (.int cells[m]) := by rw [List.getElem?_map, List.getElem?_eq_getElem c2]; rfl
    generalize cells[m] = cell at hx
    refine ⟨_, rfl, D, _, 0, _, rfl, rfl, SqL.of e1, atI_nat (j := 0) rfl, _, rfl, D, _, 1, _, rfl, rfl, SqL.of e1, atI_nat (j := 1) rfl, ca, _, _, _, rfl, rfl, SqL.of e2, atI_nat hx, ?_⟩
    refine ⟨_, rfl, D, _, 3, _, rfl, rfl, SqL.of e1, atI_nat (j := 3) rfl, _, _, rfl, rfl, _, rfl, D, _, _, 3, rfl, rfl, e1, rfl, ?_⟩
    have e1' : upd H1 D (.lst ([V.ref ca, .int m, .int a2, .int a3, .int a4, .int a5].set 3 (.int (a3 + 1)))) D = _ := upd_same
    refine ⟨_, rfl, _, rfl, D, _, 1, _, rfl, rfl, SqL.of e1', atI_nat (j := 1) rfl, _, _, rfl, rfl, .inl ⟨by decide, by decide⟩, _, _, rfl, rfl, ?_⟩
    refine ⟨_, rfl, D, _, 3, _, rfl, rfl, SqL.of e1', atI_nat (j := 3) rfl, _, _, rfl, fun kk => ?_⟩
    obtain ⟨r, hr1, hr2⟩ := fmn kk c
    refine .inl ⟨_, rfl, _, rfl, _, _, rfl, rfl, n0, ?_⟩
    refine ⟨_, rfl, D, _, 3, _, rfl, rfl, SqL.of e1', atI_nat (j := 3) rfl, rfl, _, rfl, ite2 (fun c3 => ?_) (fun c3 => ?_)⟩
    · refine ⟨_, rfl, D, _, _, 3, rfl, rfl, e1', rfl, ?_⟩
      rw [upd_upd]
      refine ⟨_, rfl, D, _, 1, _, rfl, rfl, SqL.of upd_same, atI_nat (j := 1) rfl, _, _, rfl, rfl, _, rfl, D, _, _, 1, rfl, rfl, upd_same, rfl, ?_⟩
      rw [upd_upd]
      refine ⟨_, rfl, ?_⟩
      have := k r _ hr1 (s1.trans hide_turn) (DrawO.turn (a1 := (m : Int) + 1) (a2 := a2) (a3 := 0) (a4 := a4) (a5 := a5) e2 e3 (by omega) e5)
      rw [← hr2] at this
      exact this
    · refine ⟨_, rfl, ?_⟩
      have := k r _ hr1 (s1.trans hide_turn) (DrawO.turn (a1 := (m : Int)) (a2 := a2) (a3 := a3 + 1) (a4 := a4) (a5 := a5) e2 e3 (by omega) e5)
      rw [← hr2] at this
      exact this
  · refine ⟨_, rfl, D, _, 4, _, rfl, rfl, SqL.of e1, atI_nat (j := 4) rfl, _, _, rfl, rfl, _, rfl, D, _, _, 4, rfl, rfl, e1, rfl, ?_⟩
    have e1' : upd H1 D (.lst ([V.ref ca, .int a1, .int a2, .int a3, .int a4, .int a5].set 4 (.int (a4 + 1)))) D = _ := upd_same
    refine ⟨_, rfl, D, _, 5, _, rfl, rfl, SqL.of e1', atI_nat (j := 5) rfl, _, rfl, D, _, 4, _, rfl, rfl, SqL.of e1', atI_nat (j := 4) rfl, _, _, rfl, rfl, _, _, rfl, fun kk => ?_⟩
    obtain ⟨r, hr1, hr2⟩ := fmn kk c
    refine .inl ⟨_, rfl, _, rfl, _, _, rfl, rfl, n0, ?_⟩
    have := k r _ hr1 (s1.trans hide_turn) (DrawO.turn (a1 := a1) (a2 := a2) (a3 := a3) (a4 := a4 + 1) (a5 := a5) e2 e3 e4 e5)
    rw [← hr2] at this
    exact this
/-- a fresh draw -/
def spDraw : Sp := fun vs H Q _ => ∃ (a : Addr) (cells : List Int), vs = [.ref a] ∧ H a = some (.lst (cells.map V.int)) ∧ cells.length ≤ 1000000 ∧ ∀ (c D : Addr) H', H c = none → H D = none → Same H H' → DrawO c cells H' D → Q (.ref D) H'
theorem ok_draw (T : Fx K mg) : FnOk P w K mg base CX0 1 T.a_draw T.d_draw ["_law_script"] spDraw := by
  refine T.F_draw.ok sc_draw (fun vs H Q E h => ?_) (fun cdv A outer s H vs Q E hr h => ?_)
  · obtain ⟨a, cells, rfl, _⟩ := h; rfl
  obtain ⟨a, cells, rfl, ha, hl, k⟩ := h
  have hu := hu_of hr
  refine ⟨_, (pss_cons (ps_setLc (i := 1) (own := [("_law_cell", 2)]) (by rfl) sc_draw.nd rfl rfl (sw_true rfl rfl rfl (by decide +kernel)) (pi_list (pv 0)) (blkOk_by (own := [("_law_cell", 2)]) (N := ["_law_script", "_law_cells", "_law_cell"]) (sc := defScope (top 32)) (by decide +kernel)) (fun _ _ _ _ _ => (pg_name (i := 2) sc_draw.nd rfl (.inl rfl) (.inr rfl))) (fun _ _ _ _ _ => pts_nil) (fun _ _ _ _ _ => (pv 2)))
    (pss_one (ps_ret (pe_lst (pa_cons (pv 1) (pa_cons pe_int (pa_cons pe_int (pa_cons pe_int (pa_cons pe_int (pa_cons (pe_op op_add (pe_op op_modN (pe_callTy call_int1 (by rfl) T.z_int (by decide +kernel) (pa_cons (pe_callB (cr_sum rfl) (by rfl) T.z_sum (by decide +kernel) (pa_cons (pv 1) pa_nil)) pa_nil)) pe_int) (pe_op op_mul pe_int (pe_callB call_len_seq (by rfl) T.z_len (by decide +kernel) (pa_cons (pv 1) pa_nil)))) pa_nil)))))))))), ?_⟩
  refine ⟨_, rfl, a, rfl, ⟨_, SqL.of ha⟩, fun c nc => lc_it (walk_list (xs := cells.map V.int)) (fun i H' => Same H (hide [c] H') ∧ H' c = some (.lst ((cells.map V.int).take i))) ⟨?_, upd_same⟩ (fun i H' _ pv => SqL.of (hide_same _ _ _ _ (pv.1 _ _ ha))) (fun i x H' H'' hi pv y => ?_) fun H1 pv => ?_⟩
  · rw [hide_mut (by simp)]
    exact fun z o e => by rw [hide_out (by simpa using ne_of_none e nc)]; exact e
  · obtain ⟨rfl, hx⟩ := y
    rw [List.length_map] at hi
    refine ⟨rfl, _, rfl, _, pv.2, ?_, ?_, ?_⟩
    · rw [List.length_take]; exact szlt (by omega)
    · rw [hide_mut (by simp)]; exact pv.1
    · rw [upd_same, List.take_add_one, hx]; rfl
  obtain ⟨s1, hc⟩ := pv
  rw [List.take_length] at hc
  have s1 := s1.trans (hide_same _ _)
  have n1 : (1000003 : Int) ≠ 0 := by decide
  refine ⟨_, rfl, _, rfl, c, cells, rfl, SqL.of hc, .inl ⟨_, rfl, _, _, rfl, rfl, n1, ?_⟩⟩
  refine ⟨_, rfl, c, _, rfl, .inl (SqL.of hc), _, _, rfl, rfl, .inl ⟨by decide, by decide⟩, _, _, rfl, rfl, szle (Nat.le_trans (Nat.le_refl 6) (by decide)), fun D nD => ?_⟩
  have hDn : H D = none := by
    cases e : H D with
    | none => rfl
    | some o => rw [s1 _ _ e] at nD; cases nD
  exact k c D _ nc hDn (s1.trans (same_new nD)) (DrawO.turn hc (ne_of_none hc nD) (Int.le_refl 0) (Int.le_refl 0))
end
end Tk
set_option maxHeartbeats 4000000
set_option pp.maxSteps 2500
/-! _law_reaches -/
namespace Tk
open PySem L2
/-- a machine being built -/
structure RowsOk (rows : List Row) (n : Nat) : Prop where
  few : rows.length ≤ 60
  small : ∀ r ∈ rows, r.length ≤ 60
  to_ : ∀ r ∈ rows, ∀ p ∈ r, p.2 < n
theorem walk_rng {n : Nat} : Walk (Itr 0 n) n (fun _ => True) (YFn fun i => .int (i : Nat)) := walk_range.mono (fun _ h => h) fun i H x H' _ _ y => ⟨y.1, by
  rw [y.2]
  show V.int (0 + (i : Nat)) = _
  congr 1
  omega⟩
section
variable {P : Program} {w : World} {K : PySem.W.Frag} {mg : Str → Option Value} {base : Heap}
def spReaches : Sp := fun vs H Q _ => ∃ (a e : Addr) (b : Nat) (ss : List V) (rows : List Row) (ends : List Nat), vs = [.ref a, .ref e, .int b] ∧ H a = some (.lst ss) ∧ Ims H ss (rows.map rowD) ∧ H e = some (.lst (nV ends)) ∧ RowsOk rows rows.length ∧ b < rows.length ∧ ends.length ≤ 1000 ∧
  ∀ (res : Bool) H', Same H H' → (res = true → Reach ⟨rows, ends⟩ b) → (b ∈ ends → res = true) → Q (.bl res) H'
theorem ok_reaches (T : Fx K mg) : FnOk P w K mg base CX0 1 T.a_reaches T.d_reaches ["_law_states", "_law_ends", "_law_begin"] spReaches := by
  refine T.F_reaches.ok sc_reaches (fun vs H Q E h => ?_) (fun cdv A outer s H vs Q E hr h => ?_)
  · obtain ⟨a, e, b, ss, rows, ends, rfl, _⟩ := h; rfl
  obtain ⟨a, e, b, ss, rows, ends, rfl, ha, iss, he, ok, hb, el, k⟩ := h
  have hu := hu_of hr
  have few := ok.few
  have sl : ss.length = rows.length := by rw [iss.len, List.length_map]
  refine ⟨_, PSs.nox ((pss_cons (ps_set (i := 3) sc_reaches.nd rfl (.inl rfl) (pe_disp (pps_cons (pv 2) pe_bl pps_nil) (by rfl) (by rfl) (fun z => by cases z) (by decide)))
    (pss_cons (ps_set (i := 4) sc_reaches.nd rfl (.inl rfl) (pe_lst (pa_cons (pv 2) pa_nil)))
    (pss_cons (ps_for PassesOwn.never rfl (pi_range1 (by rfl) T.z_range (pa_cons (pe_callB call_len_seq (by rfl) T.z_len (by decide +kernel) (pa_cons (pv 0) pa_nil)) pa_nil)) (pg_name (i := 5) sc_reaches.nd rfl (.inl rfl))
      (pss_one (ps_if (pt_cmpR op_lt (pv 5) (pe_callB call_len_seq (by rfl) T.z_len (by decide +kernel) (pa_cons (pv 4) pa_nil)) (nomark _))
        (pss_cons (ps_if (pt_cmpR op_in_seq (pe_ix ix_list (pv 4) (pv 5) (fun _ _ => rfl)) (pv 1) (by rfl))
          (pss_one (ps_ret pe_bl))
          pss_nil)
        (pss_one (ps_for PassesOwn.never rfl (pi_tup (pe_ix ix_list (pv 0) (pe_ix ix_list (pv 4) (pv 5) (fun _ _ => rfl)) (fun _ _ => rfl))) (pg_tup rfl (pgs_cons (pg_name (i := 6) sc_reaches.nd rfl (.inl rfl)) (pgs_cons (pg_name (i := 7) sc_reaches.nd rfl (.inl rfl)) pgs_nil)))
          (pss_one (ps_if (pt_cmp (pc_dnotin hu (pv 7) (pv 3)))
            (pss_cons (ps_dput hu (pv 3) (pv 7) pe_bl rfl)
            (pss_one (ps_expr (pe_bm PySem.F.plainAttrs_list PySem.F.slot_list_append PySem.F.type_list_append mt_append (pv 4) (pa_cons (pv 7) pa_nil)))))
            pss_nil)))))
        pss_nil)))
    (pss_one (ps_ret pe_bl)))))), ?_⟩
  intro aT nT
  refine ⟨_, rfl, upd_same, [(kI b, .bl true)], rfl, Nat.le_trans (Nat.le_refl 1) (by decide), ?_⟩
  rw [upd_upd]
  have e1 : mergeK ([] : List (Key × V)) [(kI b, .bl true)] = [(kI b, .bl true)] := rfl
  rw [e1]
  have s1 : Same H (hide [aT] (upd H aT (.dK [(kI b, .bl true)]))) := by
    rw [hide_mut (by simp)]
    exact fun z o e => by rw [hide_out (by simpa using ne_of_none e nT)]; exact e
  have hT1 : upd H aT (.dK [(kI b, .bl true)]) aT = some (.dK [(kI b, .bl true)]) := upd_same
  generalize upd H aT (.dK [(kI b, .bl true)]) = H1 at s1 hT1
  refine ⟨_, rfl, szle (Nat.le_trans (Nat.le_refl 1) (by decide)), fun aO nO => ?_⟩
  have hTO : aT ≠ aO := ne_of_none hT1 nO
  have s2 : Same H (hide [aO, aT] (upd H1 aO (.lst (nV [b])))) := s1.trans (hide_grow nO)
  have hT2 : upd H1 aO (.lst (nV [b])) aT = some (.dK [(kI b, .bl true)]) := (upd_ne hTO).trans hT1
  have hO2 : upd H1 aO (.lst (nV [b])) aO = some (.lst (nV [b])) := upd_same
  rw [show ([V.int (b : Nat)] : List V) = nV [b] from rfl]
  generalize upd H1 aO (.lst (nV [b])) = H2 at s2 hT2 hO2
  refine ⟨_, rfl, a, ss, rfl, .inl (SqL.of (hide_same _ _ _ _ (s2 _ _ ha))), _, rfl, by omega, by omega, for_it walk_rng (fun i σ H3 => ∃ (o5 o6 o7 : Option V) (kvs : List (Key × V)) (os : List Nat), σ = [some (.ref a), some (.ref e), some (.int b), some (.ref aT), some (.ref aO), o5, o6, o7] ∧ Same H (hide [aO, aT] H3) ∧ H3 aT = some (.dK kvs) ∧ H3 aO = some (.lst (nV os)) ∧
    kvs.length ≤ 1 + i * 60 ∧ os.length ≤ 1 + i * 60 ∧ os[0]? = some b ∧ (∀ o ∈ os, o < rows.length ∧ (Reach ⟨rows, ends⟩ o → Reach ⟨rows, ends⟩ b)) ∧ (0 < i → b ∉ ends))
    ⟨_, _, _, _, [b], rfl, s2, hT2, hO2, by simp, by simp, rfl, fun o ho => by rw [List.mem_singleton.mp ho]; exact ⟨hb, id⟩, fun h => absurd h (Nat.lt_irrefl _)⟩ (fun i σ H3 _ h => True.intro) (fun i x σ H3 H4 hi h y => ?_) fun σ H3 h => ?_⟩
  · obtain ⟨o5, o6, o7, kvs, os, rfl, sB, hT, hO, kl, ol, oz, oo, nb⟩ := h
    obtain ⟨rfl, rfl⟩ := y
    have hi : i < rows.length := by rw [← sl]; exact hi
    have nvl : (nV os).length = os.length := by unfold nV; rw [List.length_map]
    refine ⟨_, rfl, _, rfl, aO, _, rfl, .inl (SqL.of hO), _, _, rfl, rfl, _, rfl, ite2 (fun c => ?_) (fun c => ?_)⟩
    · have c : i < os.length := by
        have : (i : Int) < ((nV os).length : Nat) := by simpa using c
        omega
      have hoz : os[i]? = some os[i] := List.getElem?_eq_getElem c
      have hom := List.getElem_mem c
      generalize hog : os[i] = o at hoz hom
      have hox : (nV os)[i]? = some (.int (o : Nat)) := by unfold nV; rw [List.getElem?_map, hoz]; rfl
      have hon := oo o hom
      have he4 := hide_same _ _ _ _ (sB _ _ he)
      have ha4 := hide_same _ _ _ _ (sB _ _ ha)
      have ein : (if false = true then !inV (.int (o : Nat)) (nV ends) else inV (.int (o : Nat)) (nV ends)) = decide (o ∈ ends) := by
        rw [if_neg Bool.false_ne_true]
        show inV (.int (o : Nat)) (ends.map fun (i : Nat) => V.int i) = _
        rw [inV_ends _ _ (by omega)]; rfl
      refine ⟨_, rfl, _, rfl, aO, _, i, _, rfl, rfl, SqL.of hO, atI_nat hox, _, rfl, e, _, rfl, .inl (SqL.of he4), rfl, by unfold nV; rw [List.all_map]; exact List.all_eq_true.mpr fun _ _ => rfl, _, congrArg V.bl ein, ite2 (fun c2 => ?_) (fun c2 => ?_)⟩
      · have c2 : o ∈ ends := by simpa using c2
        exact k true _ (sB.trans (hide_same _ _)) (fun _ => hon.2 (.here c2)) (fun _ => rfl)
      · have c2 : o ∉ ends := by simpa using c2
        have hr0 : rows[o]? = some rows[o] := List.getElem?_eq_getElem hon.1
        have hrm := List.getElem_mem hon.1
        obtain ⟨v, hv1, hv2⟩ := iss.at_ (i := o) (d := rowD rows[o]) (by rw [List.getElem?_map, hr0]; rfl)
        generalize rows[o] = r at hr0 hrm hv2
        have rs := ok.small r hrm
        have rt := ok.to_ r hrm
        obtain ⟨q, ys, rfl, hq, hys⟩ := hv2.tup_inv
        have yl : ys.length = r.length := by rw [hys.len, List.length_map]
        have nb' : b ∉ ends := by
          by_cases e0 : i = 0
          · subst e0
            rw [hoz] at oz
            cases oz
            exact c2
          · exact nb (by omega)
        refine ⟨_, rfl, _, rfl, _, rfl, aO, _, i, _, rfl, rfl, SqL.of hO, atI_nat hox, a, _, o, _, rfl, rfl, SqL.of ha4, atI_nat hv1, q, rfl, ⟨_, SqT.of (hide_same _ _ _ _ (sB _ _ hq))⟩, for_it (walk_tup (xs := ys)) (fun t σ H5 => ∃ (o6 o7 : Option V) (kvs : List (Key × V)) (os : List Nat), σ = [some (.ref a), some (.ref e), some (.int b), some (.ref aT), some (.ref aO), some (.int (i : Nat)), o6, o7] ∧ Same H (hide [aO, aT] H5) ∧ H5 aT = some (.dK kvs) ∧ H5 aO = some (.lst (nV os)) ∧
          kvs.length ≤ 1 + i * 60 + t ∧ os.length ≤ 1 + i * 60 + t ∧ os[0]? = some b ∧ (∀ o ∈ os, o < rows.length ∧ (Reach ⟨rows, ends⟩ o → Reach ⟨rows, ends⟩ b)))
          ⟨_, _, kvs, os, rfl, sB, hT, hO, kl, ol, oz, oo⟩ (fun t σ H5 _ h => ?_) (fun t x σ H5 H6 ht h y => ?_) fun σ H5 h => ?_⟩
        · obtain ⟨_, _, _, _, _, s, _⟩ := h
          exact SqT.of (hide_same _ _ _ _ (s _ _ hq))
        · clear sB hT hO kl ol oz oo
          obtain ⟨o6, o7, kvs, os, rfl, sB, hT, hO, kl, ol, oz, oo⟩ := h
          obtain ⟨rfl, hx⟩ := y
          obtain ⟨d, hdd, him⟩ := hys.get hx
          rw [List.getElem?_map] at hdd
          have htr : t < r.length := by rw [← yl]; exact ht
          have hpt : r[t]? = some r[t] := List.getElem?_eq_getElem htr
          have hpm := List.getElem_mem htr
          generalize r[t] = p at hpt hpm
          rw [hpt] at hdd
          cases hdd
          obtain ⟨c, u1, u2, rfl, hc, j1, j2⟩ := him.pair_inv
          cases j1.str_inv
          cases j2.int_inv
          have hc' := hide_same _ _ _ _ (sB _ _ hc)
          have nvl : (nV os).length = os.length := by unfold nV; rw [List.length_map]
          refine ⟨c, _, rfl, SqT.of hc', rfl, _, _, rfl, _, _, rfl, rfl, ?_⟩
          refine ⟨_, rfl, _, rfl, aT, _, rfl, DGet.k (k := kI p.2) hT, _, rfl, ite2 (fun c3 => ?_) (fun c3 => ⟨_, _, kvs, os, rfl, sB, hT, hO, by omega, by omega, oz, oo⟩)⟩
          have hO7 : upd H6 aT (.dK (putK kvs (kI p.2) (.bl true))) aO = some (.lst (nV os)) := (upd_ne hTO.symm).trans hO
          refine ⟨_, rfl, _, rfl, aT, _, rfl, DPut.k (k := kI p.2) hT (szlt (by omega)), ?_⟩
          refine ⟨_, rfl, .inl ⟨rfl, _, SqL.of hO7⟩, _, rfl, aO, _, _, rfl, rfl, hO7, szlt (by omega), _, _, putK kvs (kI p.2) (.bl true), os ++ [p.2], rfl, ?_, ?_, ?_, ?_, ?_, ?_, fun o' ho' => ?_⟩
          · rw [hide_mut (by simp), hide_mut (by simp)]; exact sB
          · exact (upd_ne hTO).trans upd_same
          · rw [upd_same]; simp [nV]
          · have := putK_le (kvs := kvs) (k := kI p.2) (v := .bl true)
            omega
          · rw [List.length_append, List.length_singleton]; omega
          · rw [List.getElem?_append_left (by
              have := (List.getElem?_eq_some_iff.mp oz).1
              exact this)]; exact oz
          · rcases List.mem_append.mp ho' with q | q
            · exact oo o' q
            · rw [List.mem_singleton.mp q]
              exact ⟨rt p hpm, fun h => hon.2 (.step (s := p.1) hr0 hpm h)⟩
        · clear sB hT hO kl ol oz oo
          obtain ⟨o6, o7, kvs, os, rfl, sB, hT, hO, kl, ol, oz, oo⟩ := h
          exact ⟨_, _, _, kvs, os, rfl, sB, hT, hO, by omega, by omega, oz, oo, fun _ => nb'⟩
    · refine ⟨_, _, _, kvs, os, rfl, sB, hT, hO, by omega, by omega, oz, oo, fun _ => ?_⟩
      refine nb ?_
      have : 0 < os.length := (List.getElem?_eq_some_iff.mp oz).1
      have : ¬ i < os.length := fun h => c (by rw [nvl]; simpa using h)
      omega
  · obtain ⟨o5, o6, o7, kvs, os, rfl, sB, hT, hO, kl, ol, oz, oo, nb⟩ := h
    refine k false _ (sB.trans (hide_same _ _)) (fun h => by cases h) (fun h => absurd h (nb (by omega)))
end
end Tk
set_option maxHeartbeats 4000000
set_option pp.maxSteps 2500
/-! _law_plan -/
namespace Tk
open PySem L2
theorem hide_wide {L M : List Addr} {H H' : Hp} (s : Same (hide L H) (hide L H')) (h : ∀ x ∈ L, x ∈ M) : Same (hide M H) (hide M H') := fun b o e => by
  obtain ⟨n, e⟩ := hide_some e
  have := s b o (by rw [hide_out (fun q => n (h _ q))]; exact e)
  rw [hide_out n]; exact (hide_some this).2
def pairD (p : Nat × Nat) : PyData := .tuple [sgn p.1, .int p.2]
/-- what a turn did to the row -/
def Grown (G : Hp) (rs rs' : List V) (f : Nat → Nat → Prop) : Prop := rs' = rs ∨ ∃ (t : Addr) (ch k : Nat), f ch k ∧ rs' = rs ++ [.ref t] ∧ G t = some (.tup [.str (sgS ch), .int k])
/-- if pick(draw, 3) > 0: row.append((sign, pick(draw, many))) -/
def tPut : TS := fun E σ H => ∃ (c : Addr) (cells : List Int) (D aR : Addr) (n ch : Nat) (rs : List V) (s1 s3 s4 s7 s8 : Option V), σ = [some (.ref D), s1, some (.int n), s3, s4, some (.ref aR), some (.str (sgS ch)), s7, s8] ∧ 1 ≤ n ∧ n ≤ 1000 ∧ DrawO c cells (hide [aR] H) D ∧ H aR = some (.lst rs) ∧ rs.length ≤ 1000 ∧
  ∀ H' rs', Same (hide [D, aR] H) (hide [D, aR] H') → DrawO c cells (hide [aR] H') D → H' aR = some (.lst rs') → Grown (hide [D, aR] H') rs rs' (fun ch' k => ch' = ch ∧ k < n) → E.nx σ H'
/-- if state + 1 < many and not row: row.append(..) -/
def tEns : TS := fun E σ H => ∃ (c : Addr) (cells : List Int) (D aR : Addr) (n i : Nat) (cs : List Nat) (rs : List V) (s3 s6 s7 s8 : Option V), σ = [some (.ref D), some (.str ⟨cs.toArray⟩), some (.int n), s3, some (.int i), some (.ref aR), s6, s7, s8] ∧ cs ≠ [] ∧ cs.length ≤ 100 ∧ DrawO c cells (hide [aR] H) D ∧ H aR = some (.lst rs) ∧
  ∀ H' rs', Same (hide [D, aR] H) (hide [D, aR] H') → DrawO c cells (hide [aR] H') D → H' aR = some (.lst rs') → Grown (hide [D, aR] H') rs rs' (fun ch k => rs = [] ∧ ch ∈ cs ∧ k = i + 1 ∧ k < n) → E.nx σ H'
def RowG (n : Nat) (r : Row) : Prop := (r.map (·.1)).Pairwise (· < ·) ∧ (∀ p ∈ r, okSign p.1 = true ∧ p.2 < n) ∧ r.length ≤ 11
theorem Reach.wide {rows : List Row} {es es' : List Nat} (h : ∀ e ∈ es, e ∈ es') {j : Nat} (r : Reach ⟨rows, es⟩ j) : Reach ⟨rows, es'⟩ j := by
  induction r with
  | here q => exact .here (h _ q)
  | step q1 q2 _ ih => exact .step q1 q2 ih
theorem sort_ints (l : List Nat) : (l.map fun (e : Nat) => PyData.int e).mergeSort (PySem.W.dataLe false id) = (l.mergeSort leN).map fun (e : Nat) => PyData.int e :=
  (List.map_mergeSort fun a _ b _ => by
    show leN a b = !PySem.W.dataLt (.int b) (.int a)
    rw [PySem.W.dataLt_int]
    unfold leN
    by_cases h : a ≤ b
    · rw [decide_eq_true h, decide_eq_false (by omega)]; rfl
    · rw [decide_eq_false h, decide_eq_true (by omega)]; rfl).symm
section
variable {P : Program} {w : World} {K : PySem.W.Frag} {mg : Str → Option Value} {base : Heap}
def spPlan : Sp := fun vs H Q _ => ∃ (c : Addr) (cells : List Int) (D : Addr) (cs : List Nat) (n : Nat), vs = [.ref D, .str ⟨cs.toArray⟩, .int n] ∧ DrawO c cells H D ∧ cs.Nodup ∧ (∀ c ∈ cs, okSign c = true) ∧ cs.length ≤ 10 ∧ cs ≠ [] ∧ 1 ≤ n ∧ n ≤ 6 ∧
  ∀ (L : Pl) (v : V) H', L.Ok → L.rows.length = n → (∀ r ∈ L.rows, r.length ≤ 11) → Same (hide [D] H) (hide [D] H') → DrawO c cells H' D → Im (hide [D] H') v L.d → Q v H'
theorem ok_plan (T : Fx K mg) : FnOk P w K mg base CX0 3 T.a_plan T.d_plan ["_law_draw_here", "_law_signs", "_law_many"] spPlan := by
  refine T.F_plan.ok sc_plan (fun vs H Q E h => ?_) (fun cdv A outer s H vs Q E hr h => ?_)
  · obtain ⟨_, _, D, cs, n, rfl, _⟩ := h; rfl
  obtain ⟨c, cells, D, cs, n, rfl, hD, nd, oks, cl, cne, n1, n6, k⟩ := h
  have hu := hu_of hr
  refine ⟨_, PSs.nox ((pss_cons (ps_set (i := 3) sc_plan.nd rfl (.inl rfl) (pe_lst pa_nil))
    (pss_cons (ps_for PassesOwn.never rfl (pi_range1 (by rfl) T.z_range (pa_cons (pv 2) pa_nil)) (pg_name (i := 4) sc_plan.nd rfl (.inl rfl))
      (pss_cons (ps_set (i := 5) sc_plan.nd rfl (.inl rfl) (pe_lst pa_nil))
      (pss_cons (ps_for PassesOwn.never rfl (pi_list (pe_callB (cr_sortedS rfl hr.units) (by rfl) T.z_sorted (by decide +kernel) (pa_cons (pv 1) pa_nil))) (pg_name (i := 6) sc_plan.nd rfl (.inl rfl))
        (pss_one (ps_imp (t' := tPut) (ps_if (pt_cmpR op_gt (pe_call (ok_pick T) (hr.mono (by decide)) (by rfl) T.g_pick T.F_pick.kp T.b_pick .nil pass0 (pa_cons (pv 0) (pa_cons pe_int pa_nil))) pe_int (nomark _))
          (pss_one (ps_expr (pe_bm PySem.F.plainAttrs_list PySem.F.slot_list_append PySem.F.type_list_append mt_append (pv 5) (pa_cons (pe_tup (pa_cons (pv 6) (pa_cons (pe_call (ok_pick T) (hr.mono (by decide)) (by rfl) T.g_pick T.F_pick.kp T.b_pick .nil pass0 (pa_cons (pv 0) (pa_cons (pv 2) pa_nil))) pa_nil))) pa_nil))))
          pss_nil) ?I1)))
      (pss_cons (ps_imp (t' := tEns) (ps_if (PW.pt (pw_and (pt_cmpR op_lt (pe_op op_add (pv 4) pe_int) (pv 2) (nomark _)) (pw_and1 (pt_not (pt_truth (pv 5) (by intro _; rfl))))))
        (pss_one (ps_expr (pe_bm PySem.F.plainAttrs_list PySem.F.slot_list_append PySem.F.type_list_append mt_append (pv 5) (pa_cons (pe_tup (pa_cons (pe_item_str (pv 1) (pe_call (ok_pick T) (hr.mono (by decide)) (by rfl) T.g_pick T.F_pick.kp T.b_pick .nil pass0 (pa_cons (pv 0) (pa_cons (pe_callB call_len_str (by rfl) T.z_len (by decide +kernel) (pa_cons (pv 1) pa_nil)) pa_nil))) (fun _ _ => rfl)) (pa_cons (pe_op op_add (pv 4) pe_int) pa_nil))) pa_nil))))
        pss_nil) ?I2)
      (pss_one (ps_expr (pe_bm PySem.F.plainAttrs_list PySem.F.slot_list_append PySem.F.type_list_append mt_append (pv 3) (pa_cons (pe_callTy call_tuple_of (by rfl) T.z_tuple (by decide +kernel) (pa_cons (pv 5) pa_nil)) pa_nil))))))))
    (pss_cons (ps_set (i := 7) sc_plan.nd rfl (.inr rfl) (pe_call (ok_pick T) (hr.mono (by decide)) (by rfl) T.g_pick T.F_pick.kp T.b_pick .nil pass0 (pa_cons (pv 0) (pa_cons pe_int pa_nil))))
    (pss_cons (ps_setLc (i := 8) (own := [("_law_state", 4)]) (by rfl) sc_plan.nd rfl rfl (sw_true rfl rfl rfl (by decide +kernel)) (pi_range1 (by rfl) T.z_range (pa_cons (pv 2) pa_nil)) (blkOk_by (own := [("_law_state", 4)]) (N := ["_law_draw_here", "_law_signs", "_law_many", "_law_states", "_law_state", "_law_row", "_law_sign", "_law_kind", "_law_ends"]) (sc := defScope (top 36)) (by decide +kernel)) (fun _ _ _ _ _ => (pg_name (i := 4) sc_plan.nd rfl (.inl rfl) (.inr rfl))) (fun _ _ _ _ _ => (pts_one (PW.pt (pw_or (pt_cmpR op_eq (pv 7) pe_int (nomark _)) (pw_or1 (pt_cmpR op_eq (pe_call (ok_pick T) (hr.mono (by decide)) (by rfl) T.g_pick T.F_pick.kp T.b_pick .nil pass0 (pa_cons (pv 0) (pa_cons pe_int pa_nil))) pe_int (nomark _))))))) (fun _ _ _ _ _ => (pv 4)))
    (pss_cons (ps_for PassesOwn.never rfl (pi_range1 (by rfl) T.z_range (pa_cons (pv 2) pa_nil)) (pg_name (i := 4) sc_plan.nd rfl (.inl rfl))
      (pss_one (ps_if (pt_not (pt_val (pe_call (ok_reaches T) (hr.mono (by decide)) (by rfl) T.g_reaches T.F_reaches.kp T.b_reaches .nil pass0 (pa_cons (pv 3) (pa_cons (pv 8) (pa_cons (pv 4) pa_nil))))))
        (pss_one (ps_expr (pe_bm PySem.F.plainAttrs_list PySem.F.slot_list_append PySem.F.type_list_append mt_append (pv 8) (pa_cons (pv 4) pa_nil))))
        pss_nil)))
    (pss_one (ps_ret (pe_tup (pa_cons (pe_callTy call_tuple_of (by rfl) T.z_tuple (by decide +kernel) (pa_cons (pv 3) pa_nil)) (pa_cons (pe_callTy call_tuple_of (by rfl) T.z_tuple (by decide +kernel) (pa_cons (pe_callB (cr_sortedD hr.units) (by rfl) T.z_sorted (by decide +kernel) (pa_cons (pv 8) pa_nil)) pa_nil)) pa_nil))))))))))), ?_⟩
  case I1 =>
    clear k hD nd oks cl cne n1 n6
    intro E' σ H h
    obtain ⟨c, cells, D, aR, n, ch, rs, s1, s3, s4, s7, s8, rfl, n1, n6, hD, hR, hl, k⟩ := h
    refine ⟨_, rfl, c, cells, D, 3, rfl, hD.mono (hide_same _ _), by decide, by decide, fun r H1 hr1 s1' hD1 => ?_⟩
    have hD1 := hD.hid hD1
    have nDR : aR ≠ D := by
      obtain ⟨_, _, _, _, _, g1, _⟩ := hD
      have := (hide_some g1).1
      simpa using fun e => this (by simp [e])
    have hR1 : H1 aR = some (.lst rs) := hide_same _ _ _ _ (s1' _ _ (by rw [hide_out (by simpa using nDR)]; exact hR))
    have s01 := hide_wide (M := [D, aR]) s1' (by simp)
    refine ⟨_, _, rfl, rfl, _, rfl, ite2 (fun c1 => ?_) (fun c1 => k _ _ s01 hD1 hR1 (.inl rfl))⟩
    refine ⟨_, rfl, .inl ⟨rfl, _, SqL.of hR1⟩, _, rfl, _, rfl, _, rfl, c, cells, D, n, rfl, hD1.mono (hide_same _ _), n1, by omega, fun r2 H2 hr2 s2 hD2 => ?_⟩
    have hD2 := hD1.hid hD2
    have hR2 : H2 aR = some (.lst rs) := hide_same _ _ _ _ (s2 _ _ (by rw [hide_out (by simpa using nDR)]; exact hR1))
    have s02 := s01.trans (hide_wide (M := [D, aR]) s2 (by simp))
    refine ⟨szle (Nat.le_trans (Nat.le_refl 2) (by decide)), fun t nt => ?_⟩
    have s3' := same_new (o := .tup [.str (sgS ch), .int (r2 : Nat)]) nt
    have hR3 := s3' _ _ hR2
    have ht : upd H2 t (.tup [.str (sgS ch), .int (r2 : Nat)]) t = some (.tup [.str (sgS ch), .int (r2 : Nat)]) := upd_same
    have hD3 := hD2.mono (hide_mono (L := [aR]) s3')
    generalize upd H2 t (.tup [.str (sgS ch), .int (r2 : Nat)]) = H3 at s3' hR3 ht hD3
    refine ⟨aR, rs, _, rfl, rfl, hR3, szlt (by omega), ?_⟩
    have m4 : ∀ o, hide [aR] (upd H3 aR o) = hide [aR] H3 := fun o => hide_mut (by simp)
    have m5 : ∀ o, hide [D, aR] (upd H3 aR o) = hide [D, aR] H3 := fun o => hide_mut (by simp)
    refine k _ (rs ++ [.ref t]) ?_ ?_ upd_same (.inr ⟨t, ch, r2, ⟨rfl, hr2⟩, rfl, ?_⟩)
    · rw [m5]; exact s02.trans (hide_mono s3')
    · rw [m4]; exact hD3
    · rw [m5, hide_out (by
        simp only [List.mem_cons, List.not_mem_nil, or_false, not_or]
        refine ⟨fun e => ?_, fun e => ?_⟩
        · obtain ⟨_, _, _, _, _, g1, _⟩ := hD3
          have := hide_same _ _ _ _ g1
          rw [← e, ht] at this; cases this
        · rw [e, hR3] at ht; cases ht)]
      exact ht
  case I2 =>
    clear k hD nd oks cl cne n1 n6
    intro E' σ H h
    obtain ⟨c, cells, D, aR, n, i, cs, rs, s3, s6, s7, s8, rfl, cne, cl, hD, hR, k⟩ := h
    have ei : ((i : Nat) : Int) + 1 = ((i + 1 : Nat) : Int) := by omega
    refine ⟨_, rfl, _, _, rfl, rfl, _, rfl, _, _, rfl, rfl, _, rfl, ite2 (fun c1 => ?_) (fun c1 => iteF (k _ _ (fun _ _ e => e) hD hR (.inl rfl)))⟩
    have c1 : i + 1 < n := by
      have : ((i : Nat) : Int) + 1 < ((n : Nat) : Int) := by simpa using c1
      omega
    refine ⟨_, rfl, _, truL (SqL.of hR), ?_⟩
    cases rs with
    | cons x rs => exact iteF (k _ _ (fun _ _ e => e) hD hR (.inl rfl))
    | nil =>
      have csz : (⟨cs.toArray⟩ : Str).length = cs.length := rfl
      have cpos : 0 < cs.length := List.length_pos_iff.mpr cne
      refine iteT ⟨_, rfl, .inl ⟨rfl, _, SqL.of hR⟩, _, rfl, _, rfl, _, rfl, _, rfl, szle (by rw [csz]; omega), ?_⟩
      refine ⟨c, cells, D, cs.length, rfl, hD.mono (hide_same _ _), by omega, by omega, fun r H1 hr1 s1' hD1 => ?_⟩
      have hD1 := hD.hid hD1
      have nDR : aR ≠ D := by
        obtain ⟨_, _, _, _, _, g1, _⟩ := hD
        have := (hide_some g1).1
        simpa using fun e => this (by simp [e])
      have hR1 : H1 aR = some (.lst []) := hide_same _ _ _ _ (s1' _ _ (by rw [hide_out (by simpa using nDR)]; exact hR))
      have s01 := hide_wide (M := [D, aR]) s1' (by simp)
      refine ⟨_, _, cs[r], rfl, rfl, by omega, by omega, by rw [csz]; omega, by simp, ?_⟩
      refine ⟨_, rfl, _, _, rfl, rfl, szle (Nat.le_trans (Nat.le_refl 2) (by decide)), fun t nt => ?_⟩
      have s3' := same_new (o := .tup [.str (sgS cs[r]), .int ((i : Nat) + 1)]) nt
      have hR3 := s3' _ _ hR1
      have ht : upd H1 t (.tup [.str (sgS cs[r]), .int ((i : Nat) + 1)]) t = some (.tup [.str (sgS cs[r]), .int ((i : Nat) + 1)]) := upd_same
      have hD3 := hD1.mono (hide_mono (L := [aR]) s3')
      refine ⟨aR, [], _, rfl, rfl, hR3, szlt (by decide), ?_⟩
      have m4 : ∀ o, hide [aR] (upd (upd H1 t (.tup [.str (sgS cs[r]), .int ((i : Nat) + 1)])) aR o) = hide [aR] (upd H1 t (.tup [.str (sgS cs[r]), .int ((i : Nat) + 1)])) := fun o => hide_mut (by simp)
      have m5 : ∀ o, hide [D, aR] (upd (upd H1 t (.tup [.str (sgS cs[r]), .int ((i : Nat) + 1)])) aR o) = hide [D, aR] (upd H1 t (.tup [.str (sgS cs[r]), .int ((i : Nat) + 1)])) := fun o => hide_mut (by simp)
      have q4 : ∀ o, Same (hide [aR] (upd H1 t (.tup [.str (sgS cs[r]), .int ((i : Nat) + 1)]))) (hide [aR] (upd (upd H1 t (.tup [.str (sgS cs[r]), .int ((i : Nat) + 1)])) aR o)) := fun o => by rw [m4]; exact fun _ _ e => e
      have q5 : ∀ o, Same (hide [D, aR] (upd H1 t (.tup [.str (sgS cs[r]), .int ((i : Nat) + 1)]))) (hide [D, aR] (upd (upd H1 t (.tup [.str (sgS cs[r]), .int ((i : Nat) + 1)])) aR o)) := fun o => by rw [m5]; exact fun _ _ e => e
      refine k _ [.ref t] ?_ ?_ upd_same (.inr ⟨t, cs[r], i + 1, ⟨rfl, List.getElem_mem hr1, rfl, c1⟩, rfl, ?_⟩)
      · exact (s01.trans (hide_mono s3')).trans (q5 _)
      · exact hD3.mono (q4 _)
      · refine q5 _ _ _ ?_
        rw [← ei, hide_out (by
          simp only [List.mem_cons, List.not_mem_nil, or_false, not_or]
          refine ⟨fun e => ?_, fun e => ?_⟩
          · obtain ⟨_, _, _, _, _, g1, _⟩ := hD3
            have := hide_same _ _ _ _ g1
            rw [← e, ht] at this; cases this
          · rw [← e] at hR3; rw [hR3] at ht; cases ht)]
        exact ht
  have nDS : ∀ {aS : Addr}, H aS = none → aS ≠ D := fun {aS} h e => by
    obtain ⟨_, _, _, _, _, g1, _⟩ := hD
    rw [← e, h] at g1; cases g1
  refine ⟨Nat.zero_le _, fun aS nS => ?_⟩
  have nDS := nDS nS
  have hD0 : DrawO c cells (hide [aS] (upd H aS (.lst []))) D := by
    rw [hide_mut (by simp)]
    exact hD.mono fun z o e => by rw [hide_out (by simpa using ne_of_none e nS)]; exact e
  have s0 : Same (hide [D] H) (hide [D, aS] (upd H aS (.lst []))) := fun z o e => by
    obtain ⟨q1, q2⟩ := hide_some e
    have := ne_of_none q2 nS
    rw [hide_out (by simp at q1 ⊢; exact ⟨q1, this⟩), upd_ne this]; exact q2
  have hrise : (cs.mergeSort leN).Pairwise (· < ·) := strict_of (List.pairwise_mergeSort leN_trans leN_total _) ((List.mergeSort_perm _ _).nodup_iff.mpr nd)
  have hmem : ∀ x, x ∈ cs.mergeSort leN ↔ x ∈ cs := fun x => List.mem_mergeSort
  have hlen : (cs.mergeSort leN).length ≤ 10 := by rw [List.length_mergeSort]; exact cl
  have hsort := sort_sgn cs
  generalize cs.mergeSort leN = ct at hrise hmem hlen hsort
  refine ⟨_, rfl, _, rfl, by omega, by omega, for_it walk_rng (fun i σ H1 => ∃ (o4 o5 o6 o7 o8 : Option V) (ss : List V) (rows : List Row), σ = [some (.ref D), some (.str ⟨cs.toArray⟩), some (.int n), some (.ref aS), o4, o5, o6, o7, o8] ∧ Same (hide [D] H) (hide [D, aS] H1) ∧ DrawO c cells (hide [aS] H1) D ∧ H1 aS = some (.lst ss) ∧ Ims (hide [D, aS] H1) ss (rows.map rowD) ∧ rows.length = i ∧ ∀ r ∈ rows, RowG n r)
    ⟨_, _, _, _, _, [], [], rfl, s0, hD0, upd_same, .nil, rfl, fun r h => by cases h⟩ (fun i σ H1 _ h => True.intro) (fun i x σ H1 H2 hi h y => ?_) fun σ H1 h => ?_⟩
  · obtain ⟨o4, o5, o6, o7, o8, ss, rows, rfl, sB, hD1, hS, iS, rl, rg⟩ := h
    obtain ⟨rfl, rfl⟩ := y
    have hi : i < n := hi
    refine ⟨Nat.zero_le _, fun aR nR => ?_⟩
    have nRS : aR ≠ aS := (ne_of_none hS nR).symm
    have nRD : aR ≠ D := by
      obtain ⟨_, _, _, _, _, g1, _⟩ := hD1
      exact (ne_of_none (hide_same _ _ _ _ g1) nR).symm
    have s12 : Same (hide [D, aS] H2) (hide [D, aS, aR] (upd H2 aR (.lst []))) := fun z o e => by
      obtain ⟨q1, q2⟩ := hide_some e
      have := ne_of_none q2 nR
      rw [hide_out (by simp at q1 ⊢; exact ⟨q1.1, q1.2, this⟩), upd_ne this]; exact q2
    have hD2 : DrawO c cells (hide [aS, aR] (upd H2 aR (.lst []))) D := hD1.mono fun z o e => by
      obtain ⟨q1, q2⟩ := hide_some e
      have := ne_of_none q2 nR
      rw [hide_out (by simp at q1 ⊢; exact ⟨q1, this⟩), upd_ne this]; exact q2
    have hS2 : upd H2 aR (.lst []) aS = some (.lst ss) := (upd_ne nRS.symm).trans hS
    have hR2 : upd H2 aR (.lst []) aR = some (.lst []) := upd_same
    generalize upd H2 aR (.lst []) = H3 at s12 hD2 hS2 hR2
    refine ⟨_, rfl, ⟨cs.toArray⟩, rfl, (by show cs.length ≤ 1000; omega), fun aG ws nG hws => ?_⟩
    have hws : Ims H3 ws (ct.map sgn) := by rw [← hsort]; exact hws
    have ews := Ims.sgns_inv hws
    have s34 := same_new (o := .lst ws) nG
    have hS4 := s34 _ _ hS2
    have hR4 := s34 _ _ hR2
    have hG4 : upd H3 aG (.lst ws) aG = some (.lst ws) := upd_same
    have hD4 := hD2.mono (hide_mono (L := [aS, aR]) s34)
    have nG3 : aG ∉ [D, aS, aR] := by
      simp only [List.mem_cons, List.not_mem_nil, or_false, not_or]
      obtain ⟨_, _, _, _, _, g1, _⟩ := hD2
      exact ⟨(ne_of_none (hide_same _ _ _ _ g1) nG).symm, (ne_of_none hS2 nG).symm, (ne_of_none hR2 nG).symm⟩
    have s24 := s12.trans (hide_mono (L := [D, aS, aR]) s34)
    generalize upd H3 aG (.lst ws) = H4 at s34 hS4 hR4 hG4 hD4 s24
    have wl : ws.length = ct.length := by rw [ews, List.length_map]
    have hGh : hide [D, aS, aR] H4 aG = some (.lst ws) := by rw [hide_out nG3]; exact hG4
    refine ⟨aG, rfl, ⟨_, SqL.of hG4⟩, for_it (walk_list (xs := ws)) (fun t σ H5 => ∃ (o6 : Option V) (rs : List V) (r : Row), σ = [some (.ref D), some (.str ⟨cs.toArray⟩), some (.int n), some (.ref aS), some (.int (i : Nat)), some (.ref aR), o6, o7, o8] ∧ Same (hide [D, aS, aR] H4) (hide [D, aS, aR] H5) ∧ DrawO c cells (hide [aS, aR] H5) D ∧ H5 aS = some (.lst ss) ∧ H5 aR = some (.lst rs) ∧
      Ims (hide [D, aS, aR] H5) rs (r.map pairD) ∧ (r.map (·.1)).Sublist (ct.take t) ∧ ∀ p ∈ r, p.2 < n)
      ⟨_, [], [], rfl, fun _ _ e => e, hD4, hS4, hR4, .nil, List.nil_sublist _, fun p h => by cases h⟩ (fun t σ H5 _ h => ?_) (fun t x σ H5 H6 ht h y => ?_) fun σ H5 h => ?_⟩
    · obtain ⟨_, _, _, _, s, _⟩ := h
      exact SqL.of (hide_same _ _ _ _ (s _ _ hGh))
    · obtain ⟨o6, rs, r, rfl, s45, hD5, hS5, hR5, iR, sub, lt⟩ := h
      obtain ⟨rfl, hx⟩ := y
      have htc : t < ct.length := by rw [← wl]; exact ht
      have hct : ct[t]? = some ct[t] := List.getElem?_eq_getElem htc
      have et : ct.take (t + 1) = ct.take t ++ [ct[t]] := by rw [List.take_add_one, hct]; rfl
      have hx2 : x = .str (sgS ct[t]) := by
        rw [ews, List.getElem?_map, hct] at hx
        cases hx; rfl
      subst hx2
      generalize ct[t] = ch at et
      have rsl : rs.length ≤ 10 := by
        rw [iR.len, List.length_map]
        have := sub.length_le
        rw [List.length_map, List.length_take] at this
        omega
      refine ⟨c, cells, D, aR, n, ch, rs, _, _, _, _, _, rfl, n1, by omega, hD5.mono (hide_sub (by simp)), hR5, by omega, fun H7 rs' s67 hD7 hR7 hg => ?_⟩
      have s67w := hide_wide (M := [D, aS, aR]) s67 (by simp)
      have hS7 : H7 aS = some (.lst ss) := hide_same _ _ _ _ (s67 _ _ (by rw [hide_out (by simp; exact ⟨nDS, nRS.symm⟩)]; exact hS5))
      have hD7' := hD5.hid (hD7.mono (hide_same _ _))
      have iR7 := iR.mono s67w
      rcases hg with rfl | ⟨tt, ch', kk, ⟨rfl, hk⟩, rfl, htt⟩
      · exact ⟨_, rs', r, rfl, s45.trans s67w, hD7', hS7, hR7, iR7, sub.trans (by rw [et]; exact List.sublist_append_left _ _), lt⟩
      · refine ⟨_, _, r ++ [(ch', kk)], rfl, s45.trans s67w, hD7', hS7, hR7, ?_, ?_, fun p hp => ?_⟩
        · rw [List.map_append]
          refine iR7.snoc (Im.pair (x := .str (sgS ch')) (y := .int kk) ?_ (.str _) (.int _))
          obtain ⟨q1, q2⟩ := hide_some htt
          rw [hide_out (by
            simp only [List.mem_cons, List.not_mem_nil, or_false, not_or] at q1 ⊢
            exact ⟨q1.1, (fun e => by rw [e, hS7] at q2; cases q2), q1.2⟩)]
          exact q2
        · rw [List.map_append, et]
          exact sub.append (List.Sublist.refl _)
        · rcases List.mem_append.mp hp with q | q
          · exact lt p q
          · rw [List.mem_singleton.mp q]; exact hk
    · obtain ⟨o6, rs, r, rfl, s45, hD5, hS5, hR5, iR, sub, lt⟩ := h
      rw [wl, List.take_length] at sub
      have rsl : r.length ≤ 10 := by
        have := sub.length_le
        rw [List.length_map] at this
        omega
      refine ⟨c, cells, D, aR, n, i, cs, rs, _, _, _, _, rfl, cne, by omega, hD5.mono (hide_sub (by simp)), hR5, fun H7 rs' s67 hD7 hR7 hg => ?_⟩
      have s67w := hide_wide (M := [D, aS, aR]) s67 (by simp)
      have hS7 : H7 aS = some (.lst ss) := hide_same _ _ _ _ (s67 _ _ (by rw [hide_out (by simp; exact ⟨nDS, nRS.symm⟩)]; exact hS5))
      have hD7' := hD5.hid (hD7.mono (hide_same _ _))
      have iR7 := iR.mono s67w
      have hrow : ∃ r' : Row, RowG n r' ∧ Ims (hide [D, aS, aR] H7) rs' (r'.map pairD) := by
        have g0 : RowG n r := ⟨hrise.sublist sub, fun p hp => ⟨oks _ ((hmem _).mp (sub.subset (List.mem_map.mpr ⟨p, hp, rfl⟩))), lt p hp⟩, by omega⟩
        rcases hg with rfl | ⟨tt, ch', kk, ⟨rfl, hcs, hk1, hk⟩, rfl, htt⟩
        · exact ⟨r, g0, iR7⟩
        · refine ⟨[(ch', kk)], ⟨by simp, fun p hp => by rw [List.mem_singleton.mp hp]; exact ⟨oks _ hcs, hk⟩, by simp⟩, ?_⟩
          refine Ims.one (Im.pair (x := .str (sgS ch')) (y := .int kk) ?_ (.str _) (.int _))
          obtain ⟨q1, q2⟩ := hide_some htt
          rw [hide_out (by
            simp only [List.mem_cons, List.not_mem_nil, or_false, not_or] at q1 ⊢
            exact ⟨q1.1, (fun e => by rw [e, hS7] at q2; cases q2), q1.2⟩)]
          exact q2
      obtain ⟨r', rg', iR'⟩ := hrow
      have s27 := (s24.trans s45).trans s67w
      refine ⟨_, rfl, .inl ⟨rfl, _, SqL.of hS7⟩, _, rfl, aR, rs', rfl, .inl ⟨SqL.of hR7, fun tt nt => ?_⟩⟩
      have s78 := same_new (o := .tup rs') nt
      have hS8 := s78 _ _ hS7
      have ntS : tt ≠ aS := (ne_of_none hS7 nt).symm
      have ntD : tt ≠ D := by
        obtain ⟨_, _, _, _, _, g1, _⟩ := hD7'
        exact (ne_of_none (hide_same _ _ _ _ g1) nt).symm
      have htt : upd H7 tt (.tup rs') tt = some (.tup rs') := upd_same
      have hD8 : DrawO c cells (hide [aS] (upd H7 tt (.tup rs'))) D := (hD7'.mono (hide_mono s78)).mono (hide_sub (by simp))
      have sub3 : ∀ G : Hp, Same (hide [D, aS, aR] G) (hide [D, aS] G) := fun G => hide_sub (by simp)
      have s28 := (s27.trans (hide_mono s78)).trans (sub3 _)
      have iR8 := (iR'.mono (hide_mono s78)).mono (sub3 _)
      generalize upd H7 tt (.tup rs') = H8 at s78 hS8 htt hD8 s28 iR8
      have ssl : ss.length ≤ 6 := by rw [iS.len, List.length_map]; omega
      have m9 : ∀ o, hide [D, aS] (upd H8 aS o) = hide [D, aS] H8 := fun o => hide_mut (by simp)
      refine ⟨aS, ss, _, rfl, rfl, hS8, szlt (by omega), _, _, _, _, _, ss ++ [.ref tt], rows ++ [r'], rfl, ?_, ?_, upd_same, ?_, ?_, fun q hq => ?_⟩
      · rw [m9]; exact sB.trans s28
      · rw [hide_mut (by simp)]; exact hD8
      · rw [m9, List.map_append]
        exact (iS.mono s28).snoc (.tup (by rw [hide_out (by simp; exact ⟨ntD, ntS⟩)]; exact htt) iR8)
      · rw [List.length_append, List.length_singleton, rl]
      · rcases List.mem_append.mp hq with q' | q'
        · exact rg q q'
        · rw [List.mem_singleton.mp q']; exact rg'
  · obtain ⟨o4, o5, o6, o7, o8, ss, rows, rfl, sB, hD1, hS, iS, rl, rg⟩ := h
    have rl : rows.length = n := rl
    refine ⟨_, rfl, c, cells, D, 3, rfl, hD1.mono (hide_same _ _), by decide, by decide, fun kd H2 hk s12 hD2 => ?_⟩
    have hD2' := hD1.hid hD2
    have hS2 : H2 aS = some (.lst ss) := hide_same _ _ _ _ (s12 _ _ (by rw [hide_out (by simpa using nDS)]; exact hS))
    have s12 := hide_wide (M := [D, aS]) s12 (by simp)
    have s02 : Same (hide [D] H) (hide [D] H2) := (sB.trans s12).trans (hide_sub (by simp))
    have iS2 : Ims (hide [D] H2) ss (rows.map rowD) := (iS.mono s12).mono (hide_sub (by simp))
    clear s12 iS hS hD1 sB
    have hS2h : hide [D] H2 aS = some (.lst ss) := by rw [hide_out (by simpa using nDS)]; exact hS2
    refine ⟨_, rfl, _, rfl, by omega, by omega, fun aE nE => lc_it walk_rng (fun i H' => ∃ es : List Nat, Same (hide [D] H2) (hide [D, aE] H') ∧ DrawO c cells (hide [aE] H') D ∧ H' aE = some (.lst (nV es)) ∧ es.Nodup ∧ (∀ e ∈ es, e < i) ∧ es.length ≤ i) ⟨[], ?_, ?_, upd_same, List.nodup_nil, (fun e h => by cases h), Nat.le_refl _⟩ (fun i H' _ pv => True.intro) (fun i x H' H'' hi pv y => ?_) fun H3 pv => ?_⟩
    · exact hide_grow nE |>.trans (fun z o e => by
        obtain ⟨q1, q2⟩ := hide_some e
        rw [hide_out (by simp at q1 ⊢; exact ⟨q1.2, q1.1⟩)]; exact q2)
    · rw [hide_mut (by simp)]
      exact hD2.mono fun z o e => by rw [hide_out (by simpa using ne_of_none e nE)]; exact e
    · obtain ⟨es, sE, hDE, hE, nde, elt, ell⟩ := pv
      obtain ⟨rfl, rfl⟩ := y
      have hi : i < n := hi
      have nel : (nV es).length = es.length := by unfold nV; rw [List.length_map]
      have nED : aE ≠ D := by
        obtain ⟨_, _, _, _, _, g1, _⟩ := hDE
        have := (hide_some g1).1
        simpa using fun e => this (by simp [e])
      have push : ∀ G : Hp, Same (hide [D] H2) (hide [D, aE] G) → DrawO c cells (hide [aE] G) D → G aE = some (.lst (nV es)) →
          ∃ es' : List Nat, Same (hide [D] H2) (hide [D, aE] (upd G aE (.lst (nV es ++ [.int (i : Nat)])))) ∧ DrawO c cells (hide [aE] (upd G aE (.lst (nV es ++ [.int (i : Nat)])))) D ∧ upd G aE (.lst (nV es ++ [.int (i : Nat)])) aE = some (.lst (nV es')) ∧ es'.Nodup ∧ (∀ e ∈ es', e < i + 1) ∧ es'.length ≤ i + 1 := fun G g1 g2 g3 => by
        refine ⟨es ++ [i], ?_, ?_, ?_, ?_, fun e he => ?_, ?_⟩
        · rw [hide_mut (by simp)]; exact g1
        · rw [hide_mut (by simp)]; exact g2
        · rw [upd_same]; simp [nV]
        · rw [List.nodup_append]
          refine ⟨nde, by simp, fun x hx z hz => ?_⟩
          rw [List.mem_singleton.mp hz]
          have := elt x hx
          omega
        · rcases List.mem_append.mp he with q | q
          · have := elt e q; omega
          · rw [List.mem_singleton.mp q]; omega
        · rw [List.length_append, List.length_singleton]; omega
      refine ⟨rfl, ?_⟩
      refine ⟨_, rfl, rfl, _, rfl, ite2 (fun c1 => iteT ⟨_, rfl, _, hE, szlt (by omega), push _ sE hDE hE⟩) (fun c1 => ?_)⟩
      refine ⟨_, rfl, c, cells, D, 2, rfl, hDE.mono (hide_same _ _), by decide, by decide, fun r H5 hr s5 hD5 => ?_⟩
      have hD5 := hDE.hid hD5
      have hE5 : H5 aE = some (.lst (nV es)) := hide_same _ _ _ _ (s5 _ _ (by rw [hide_out (by simpa using nED)]; exact hE))
      have s5 := sE.trans (hide_wide (M := [D, aE]) s5 (by simp))
      refine ⟨rfl, _, rfl, ite2 (fun c2 => ⟨_, rfl, _, hE5, szlt (by omega), push _ s5 hD5 hE5⟩) (fun c2 => ⟨es, s5, hD5, hE5, nde, (fun e he => by have := elt e he; omega), by omega⟩)⟩
    obtain ⟨es, sE, hDE, hE, nde, elt, ell⟩ := pv
    have elt : ∀ e ∈ es, e < n := elt
    have rok : RowsOk rows rows.length := ⟨by omega, fun r hr => by have := (rg r hr).2.2; omega, fun r hr p hp => by rw [rl]; exact ((rg r hr).2.1 p hp).2⟩
    have elen : ∀ {l : List Nat}, l.Nodup → (∀ e ∈ l, e < n) → l.length ≤ n := fun {l} h1 h2 => few_below n l h1 h2
    refine ⟨_, rfl, _, rfl, by omega, by omega, for_it walk_rng (fun i σ H4 => ∃ (o4 : Option V) (es : List Nat), σ = [some (.ref D), some (.str ⟨cs.toArray⟩), some (.int n), some (.ref aS), o4, o5, o6, some (.int (kd : Nat)), some (.ref aE)] ∧ Same (hide [D] H2) (hide [D, aE] H4) ∧ DrawO c cells (hide [aE] H4) D ∧ H4 aE = some (.lst (nV es)) ∧ es.Nodup ∧ (∀ e ∈ es, e < n) ∧ ∀ j, j < i → Reach ⟨rows, es⟩ j)
      ⟨_, es, rfl, sE, hDE, hE, nde, elt, fun j h => absurd h (Nat.not_lt_zero _)⟩ (fun i σ H4 _ h => True.intro) (fun i x σ H4 H5 hi h y => ?_) fun σ H4 h => ?_⟩
    · clear nde elt hE hDE sE ell
      obtain ⟨o4, es, rfl, sE, hDE, hE, nde, elt, hre⟩ := h
      obtain ⟨rfl, rfl⟩ := y
      have hi : i < n := hi
      have el := elen nde elt
      have nel : (nV es).length = es.length := by unfold nV; rw [List.length_map]
      have sEE := sE.trans (hide_same _ _)
      refine ⟨_, rfl, _, rfl, _, rfl, aS, aE, i, ss, rows, es, rfl, sEE _ _ hS2h, iS2.mono sEE, hE, rok, by omega, by omega, fun res H6 s6 r1 r2 => ⟨_, rfl, ?_⟩⟩
      have s6e := sE.trans (hide_mono (L := [D, aE]) s6)
      have hD6 := hDE.mono (hide_mono (L := [aE]) s6)
      have hE6 := s6 _ _ hE
      cases res with
      | true =>
        refine iteF ⟨_, es, rfl, s6e, hD6, hE6, nde, elt, fun j hj => ?_⟩
        by_cases e : j = i
        · rw [e]; exact r1 rfl
        · exact hre j (by omega)
      | false =>
        have hno : i ∉ es := fun h => by cases r2 h
        refine iteT ⟨_, rfl, .inl ⟨rfl, _, SqL.of hE6⟩, _, rfl, aE, _, _, rfl, rfl, hE6, szlt (by omega), _, es ++ [i], rfl, ?_, ?_, ?_, ?_, fun e he => ?_, fun j hj => ?_⟩
        · rw [hide_mut (by simp)]; exact s6e
        · rw [hide_mut (by simp)]; exact hD6
        · rw [upd_same]; simp [nV]
        · rw [List.nodup_append]
          refine ⟨nde, by simp, fun x hx z hz => ?_⟩
          rw [List.mem_singleton.mp hz]
          exact fun e => hno (e ▸ hx)
        · rcases List.mem_append.mp he with q | q
          · exact elt e q
          · rw [List.mem_singleton.mp q]; exact hi
        · by_cases e : j = i
          · rw [e]; exact .here (by simp)
          · exact (hre j (by omega)).wide fun e he => List.mem_append_left _ he
    · clear nde elt hE hDE sE ell
      obtain ⟨o4, es, rfl, sE, hDE, hE, nde, elt, hre⟩ := h
      have sEE := sE.trans (hide_same _ _)
      have el := elen nde elt
      have hS4 := sEE _ _ hS2h
      refine ⟨_, rfl, aS, ss, rfl, .inl ⟨SqL.of hS4, fun t1 nt1 => ?_⟩⟩
      have s5 := same_new (o := .tup ss) nt1
      have ht1 : upd H4 t1 (.tup ss) t1 = some (.tup ss) := upd_same
      have hE5 := s5 _ _ hE
      generalize upd H4 t1 (.tup ss) = H5 at s5 ht1 hE5
      have eds : es.map (fun (e : Nat) => PyData.int e) = (es.map fun (e : Nat) => (e : Int)).map PyData.int := by rw [List.map_map]; rfl
      have ievs : nV es = (es.map fun (e : Nat) => (e : Int)).map V.int := by unfold nV; rw [List.map_map]; rfl
      refine ⟨_, rfl, aE, nV es, es.map (fun (e : Nat) => PyData.int e), rfl, SqL.of hE5, by rw [eds, ievs]; exact Ims.ints _, ?_, ?_, ?_, fun p2 ws np2 hws => ?_⟩
      · intro d hd d' hd'
        obtain ⟨_, _, rfl⟩ := List.mem_map.mp hd
        obtain ⟨_, _, rfl⟩ := List.mem_map.mp hd'
        rfl
      · exact PySem.W.Sortable.others fun b => ⟨(by intro h; cases h), fun xs => by intro h; cases h⟩
      · intro d hd
        obtain ⟨_, _, rfl⟩ := List.mem_map.mp hd
        simp [PyData.depth]
      rw [sort_ints] at hws
      have s6 := same_new (o := .lst ws) np2
      have hws6 := hws.mono s6
      have hp2 : upd H5 p2 (.lst ws) p2 = some (.lst ws) := upd_same
      refine ⟨p2, ws, rfl, .inl ⟨SqL.of hp2, fun t2 nt2 => ?_⟩⟩
      generalize upd H5 p2 (.lst ws) = H6 at s6 hws6 hp2 nt2
      have s7 := same_new (o := .tup ws) nt2
      have ht2 : upd H6 t2 (.tup ws) t2 = some (.tup ws) := upd_same
      have hws7 := hws6.mono s7
      refine ⟨szle (Nat.le_trans (Nat.le_refl 2) (by decide)), fun t3 nt3 => ?_⟩
      generalize upd H6 t2 (.tup ws) = H7 at s7 ht2 hws7 nt3
      have s8 := same_new (o := .tup [.ref t1, .ref t2]) nt3
      have ht3 : upd H7 t3 (.tup [.ref t1, .ref t2]) t3 = some (.tup [.ref t1, .ref t2]) := upd_same
      have hws8 := hws7.mono s8
      have ht2 := s8 _ _ ht2
      have ht1 := s8 _ _ (s7 _ _ (s6 _ _ ht1))
      generalize upd H7 t3 (.tup [.ref t1, .ref t2]) = H8 at s8 ht3 hws8 ht2 ht1
      have s48 := ((s5.trans s6).trans s7).trans s8
      have hD8 : DrawO c cells H8 D := (hDE.mono (hide_same _ _)).mono s48
      have hDD := hD8
      obtain ⟨_, _, _, _, _, g1, _⟩ := hDD
      have ne : ∀ {t : Addr} {xs : List V}, H8 t = some (.tup xs) → hide [D] H8 t = some (.tup xs) := fun {t xs} h => by
        rw [hide_out (by simp; intro e; rw [e, g1] at h; cases h)]; exact h
      have sF : Same (hide [D] H) (hide [D] H8) := s02.trans ((sE.trans (hide_sub (by simp))).trans (hide_mono s48))
      have nL : ∀ p ∈ [D], ∀ xs, H8 p ≠ some (.tup xs) := fun p hp xs e => by rw [List.mem_singleton.mp hp, g1] at e; cases e
      have iS8 : Ims (hide [D] H8) ss (rows.map rowD) := iS2.mono ((sE.trans (hide_sub (by simp))).trans (hide_mono s48))
      have iE8 : Ims (hide [D] H8) ws ((es.mergeSort leN).map fun (e : Nat) => PyData.int e) := Ims.hid nL hws8 (noLs_all fun d hd => by obtain ⟨_, _, rfl⟩ := List.mem_map.mp hd; rfl)
      refine k ⟨rows, es.mergeSort leN⟩ (.ref t3) H8 ⟨by show 0 < rows.length; omega, by show rows.length ≤ 60; omega, fun r hr p hp => ?_, fun r hr => (rg r hr).1, ?_, fun e he => ?_, fun j hj => ?_⟩ rl (fun r hr => (rg r hr).2.2) sF hD8 (Im.pair (x := .ref t1) (y := .ref t2) (ne ht3) (.tup (ne ht1) iS8) (.tup (ne ht2) iE8))
      · have := (rg r hr).2.1 p hp
        exact ⟨this.1, by show p.2 < rows.length; omega⟩
      · exact strict_of (List.pairwise_mergeSort leN_trans leN_total _) ((List.mergeSort_perm _ _).nodup_iff.mpr nde)
      · have := elt e (List.mem_mergeSort.mp he)
        show e < rows.length
        omega
      · have hj : j < rows.length := hj
        exact (hre j (by show j < n; omega)).wide fun e he => List.mem_mergeSort.mpr he
end
end Tk
set_option maxHeartbeats 4000000
set_option pp.maxSteps 2500
/-! _law_ring -/
namespace Tk
open PySem L2
def ringL (ch many step : Nat) : Pl := ⟨(List.range many).map fun i => [(ch, (i + 1) % many)], (List.range many).filter fun i => decide (i % step = 0)⟩
theorem ring_row {ch many step i : Nat} (h : i < many) : (ringL ch many step).rows[i]? = some [(ch, (i + 1) % many)] := by
  unfold ringL
  rw [List.getElem?_map, List.getElem?_range h]; rfl
theorem ring_len {ch many step : Nat} : (ringL ch many step).rows.length = many := by simp [ringL]
theorem ring_ok {ch many step : Nat} (hc : okSign ch = true) (h1 : 1 ≤ many) (h2 : many ≤ 60) : (ringL ch many step).Ok := by
  have z : Reach (ringL ch many step) 0 := .here (List.mem_filter.mpr ⟨List.mem_range.mpr (by omega), by simp⟩)
  have up : ∀ k i, i + k = many → 0 < k → Reach (ringL ch many step) i := fun k => by
    induction k with
    | zero => intro i h hk; omega
    | succ k ih =>
      intro i h hk
      refine .step (s := ch) (ring_row (by omega)) (List.mem_singleton.mpr rfl) ?_
      by_cases e : k = 0
      · rw [show i + 1 = many by omega, Nat.mod_self]; exact z
      · rw [Nat.mod_eq_of_lt (by omega)]; exact ih (i + 1) (by omega) (by omega)
  refine ⟨by rw [ring_len]; omega, by rw [ring_len]; exact h2, fun r hr p hp => ?_, fun r hr => ?_, ?_, fun e he => ?_, fun i hi => ?_⟩
  · obtain ⟨i, hi, rfl⟩ := List.mem_map.mp hr
    rw [List.mem_singleton.mp hp, ring_len]
    exact ⟨hc, Nat.mod_lt _ (by omega)⟩
  · obtain ⟨i, hi, rfl⟩ := List.mem_map.mp hr
    exact List.pairwise_singleton _ _
  · exact List.Pairwise.filter _ List.pairwise_lt_range
  · rw [ring_len]; exact List.mem_range.mp (List.mem_filter.mp he).1
  · rw [ring_len] at hi
    exact up (many - i) i (by omega) (by omega)
theorem fmod_nat (a b : Nat) : Int.fmod (a : Int) (b : Int) = ((a % b : Nat) : Int) := by
  rw [Int.fmod_eq_emod_of_nonneg _ (by omega)]
  rfl
section
variable {P : Program} {w : World} {K : PySem.W.Frag} {mg : Str → Option Value} {base : Heap}
def spRing : Sp := fun vs H Q _ => ∃ (ch many step : Nat), vs = [.str (sgS ch), .int many, .int step] ∧ okSign ch = true ∧ 1 ≤ many ∧ many ≤ 60 ∧ 1 ≤ step ∧ ∀ (v : V) H', Same H H' → Im H' v (ringL ch many step).d → Q v H'
theorem ok_ring (T : Fx K mg) : FnOk P w K mg base CX0 1 T.a_ring T.d_ring ["_law_sign", "_law_many", "_law_step"] spRing := by
  refine T.F_ring.ok sc_ring (fun vs H Q E h => ?_) (fun cdv A outer s H vs Q E hr h => ?_)
  · obtain ⟨ch, many, step, rfl, _⟩ := h; rfl
  obtain ⟨ch, many, step, rfl, hc, h1, h2, h3, k⟩ := h
  have hu := hu_of hr
  refine ⟨_, (pss_cons (ps_setLc (i := 3) (own := [("_law_state", 4)]) (by rfl) sc_ring.nd rfl rfl (sw_true rfl rfl rfl (by decide +kernel)) (pi_range1 (by rfl) T.z_range (pa_cons (pv 1) pa_nil)) (blkOk_by (own := [("_law_state", 4)]) (N := ["_law_sign", "_law_many", "_law_step", "_law_states", "_law_state"]) (sc := defScope (top 38)) (by decide +kernel)) (fun _ _ _ _ _ => (pg_name (i := 4) sc_ring.nd rfl (.inl rfl) (.inr rfl))) (fun _ _ _ _ _ => pts_nil) (fun _ _ _ _ _ => (pe_tup (pa_cons (pe_tup (pa_cons (pv 0) (pa_cons (pe_op op_modN (pe_callTy call_int1 (by rfl) T.z_int (by decide +kernel) (pa_cons (pe_op op_add (pv 4) pe_int) pa_nil)) (pv 1)) pa_nil))) pa_nil))))
    (pss_one (ps_ret (pe_tup (pa_cons (pe_callTy call_tuple_of (by rfl) T.z_tuple (by decide +kernel) (pa_cons (pv 3) pa_nil)) (pa_cons (pe_callTy call_tuple_of (by rfl) T.z_tuple (by decide +kernel) (pa_cons (pe_lc (own := [("_law_state", 4)]) (by rfl) sc_ring.nd (pi_range1 (by rfl) T.z_range (pa_cons (pv 1) pa_nil)) (blkOk_by (own := [("_law_state", 4)]) (N := ["_law_sign", "_law_many", "_law_step", "_law_states", "_law_state"]) (sc := defScope (top 38)) (by decide +kernel)) (fun _ _ _ _ _ => (pg_name (i := 4) sc_ring.nd rfl (.inl rfl) (.inr rfl))) (fun _ _ _ _ _ => (pts_one (pt_cmpR op_eq (pe_op op_modN (pe_callTy call_int1 (by rfl) T.z_int (by decide +kernel) (pa_cons (pv 4) pa_nil)) (pv 2)) pe_int (nomark _)))) (fun _ _ _ _ _ => (pv 4))) pa_nil)) pa_nil)))))), ?_⟩
  refine ⟨_, rfl, _, rfl, by omega, by omega, fun D nD => lc_it walk_rng (PvIm H D fun i => some (rowD [(ch, (i + 1) % many)])) (PvIm.zero nD) (fun i H' _ pv => True.intro) (fun i x H' H'' hi pv y => ?_) fun H1 pv => ?_⟩
  · obtain ⟨rfl, rfl⟩ := y
    have hm : (many : Int) ≠ 0 := by omega
    refine ⟨rfl, _, rfl, _, rfl, _, _, rfl, rfl, .inl ⟨_, rfl, _, rfl, _, _, rfl, rfl, hm, ?_⟩⟩
    refine ⟨szle (Nat.le_trans (Nat.le_refl 2) (by decide)), fun t1 nt1 => ⟨szle (Nat.le_trans (Nat.le_refl 1) (by decide)), fun t2 nt2 => ?_⟩⟩
    obtain ⟨acc0, hacc0⟩ : ∃ acc, H'' D = some (.lst acc) := by obtain ⟨_, acc, h, _⟩ := pv; exact ⟨acc, h⟩
    have n1 : t1 ≠ D := (ne_of_none hacc0 nt1).symm
    have n2 : t2 ≠ D := (ne_of_none ((upd_ne n1.symm).trans hacc0) nt2).symm
    have n12 : t1 ≠ t2 := ne_of_none upd_same nt2
    refine pv.push ((hide_upd nt1).trans (hide_upd nt2)) ((upd_ne n2.symm).trans (upd_ne n1.symm)) (d := rowD [(ch, (i + 1) % many)]) rfl ?_ (by omega)
    have hf : Int.fmod (((i : Nat) : Int) + 1) ((many : Nat) : Int) = (((i + 1) % many : Nat) : Int) := fmod_nat (i + 1) many
    refine Im.tup (xs := [.ref t1]) (by rw [hide_out (by simpa using n2)]; exact upd_same) (Ims.one (Im.pair (x := .str (sgS ch)) (y := .int (((i + 1) % many : Nat) : Int)) ?_ (.str _) (.int _)))
    rw [hide_out (by simpa using n1), upd_ne n12, ← hf]
    exact upd_same
  have im := pv.2
  obtain ⟨acc, hacc, hal, him⟩ := im
  have s1 := pv.base
  have eR : (List.range many).filterMap (fun i => some (rowD [(ch, (i + 1) % many)])) = (ringL ch many step).rows.map rowD := by
    unfold ringL
    rw [List.map_map]
    show List.filterMap (some ∘ fun i => rowD [(ch, (i + 1) % many)]) _ = _
    rw [List.filterMap_eq_map]; rfl
  have him : Ims H1 acc ((ringL ch many step).rows.map rowD) := by
    have := him.mono (hide_same _ _)
    rw [← eR]; exact this
  clear pv
  refine ⟨_, rfl, D, acc, rfl, .inl ⟨SqL.of hacc, fun t1 nt1 => ?_⟩⟩
  have s2 := same_new (o := .tup acc) nt1
  have ht1 : upd H1 t1 (.tup acc) t1 = some (.tup acc) := upd_same
  have him := him.mono s2
  generalize upd H1 t1 (.tup acc) = H2 at s2 ht1 him
  refine ⟨_, rfl, _, rfl, by omega, by omega, fun D2 nD2 => lc_it walk_rng (PvIm H2 D2 fun i => if i % step = 0 then some (.int (i : Nat)) else none) (PvIm.zero nD2) (fun i H' _ pv => True.intro) (fun i x H' H'' hi pv y => ?_) fun H3 pv => ?_⟩
  · obtain ⟨rfl, rfl⟩ := y
    have hi : i < many := hi
    have hs : (step : Int) ≠ 0 := by omega
    have hf : decide (V.int (Int.fmod ((i : Nat) : Int) ((step : Nat) : Int)) = V.int 0) = decide (i % step = 0) := by
      rw [fmod_nat]
      by_cases h : i % step = 0
      · rw [h]; rfl
      · rw [decide_eq_false h, decide_eq_false fun e => h (by have := V.int.inj e; omega)]
    refine ⟨rfl, _, rfl, .inl ⟨_, rfl, _, rfl, _, _, rfl, rfl, hs, rfl, _, congrArg V.bl hf, ite2 (fun c => ?_) (fun c => ?_)⟩⟩
    · have c : i % step = 0 := by simpa using c
      exact ⟨_, rfl, pv.push (fun _ _ e => e) rfl (d := .int (i : Nat)) (if_pos c) (.int _) (by omega)⟩
    · have c : ¬ i % step = 0 := by simpa using c
      exact pv.skip (fun _ _ e => e) rfl (if_neg c)
  have s3 := pv.base
  obtain ⟨_, acc2, hacc2, _, him2⟩ := pv
  have eE : (List.range many).filterMap (fun i => if i % step = 0 then some (PyData.int (i : Nat)) else none) = (ringL ch many step).ends.map fun (e : Nat) => PyData.int e := by
    show _ = ((List.range many).filter fun i => decide (i % step = 0)).map _
    generalize List.range many = l
    induction l with
    | nil => rfl
    | cons a l ih =>
      rw [List.filterMap_cons, List.filter_cons]
      by_cases h : a % step = 0
      · rw [if_pos h, decide_eq_true h, if_pos rfl, List.map_cons, ih]
      · rw [if_neg h, decide_eq_false h, if_neg Bool.false_ne_true, ih]
  have him2 : Ims H3 acc2 ((ringL ch many step).ends.map fun (e : Nat) => PyData.int e) := by
    have := him2.mono (hide_same _ _)
    rw [← eE]; exact this
  have ht1 := s3 _ _ ht1
  have him := him.mono s3
  refine ⟨D2, acc2, rfl, .inl ⟨SqL.of hacc2, fun t2 nt2 => ?_⟩⟩
  have s4 := same_new (o := .tup acc2) nt2
  have ht2 : upd H3 t2 (.tup acc2) t2 = some (.tup acc2) := upd_same
  have him2 := him2.mono s4
  have him := him.mono s4
  have ht1 := s4 _ _ ht1
  generalize upd H3 t2 (.tup acc2) = H4 at s4 ht2 him2 him ht1
  refine ⟨szle (Nat.le_trans (Nat.le_refl 2) (by decide)), fun t3 nt3 => ?_⟩
  have s5 := same_new (o := .tup [.ref t1, .ref t2]) nt3
  exact k _ _ (((((s1.trans s2).trans s3).trans s4)).trans s5) (Im.pair (x := .ref t1) (y := .ref t2) upd_same (.tup (s5 _ _ ht1) (him.mono s5)) (.tup (s5 _ _ ht2) (him2.mono s5)))
end
end Tk
/-! a plan with copied states: plain -/
namespace Tk
/-- r' is r with each target replaced by one of its copies -/
def CopyRow (cp : List Nat) (r r' : Row) : Prop := r'.map (·.1) = r.map (·.1) ∧ ∀ (k : Nat) (p p' : Nat × Nat), r[k]? = some p → r'[k]? = some p' → cp[p'.2]? = some p.2
theorem CopyRow.nil {cp : List Nat} : CopyRow cp [] [] := ⟨rfl, fun k p p' h => by cases h⟩
theorem CopyRow.snoc {cp : List Nat} {r r' : Row} (h : CopyRow cp r r') {s a b : Nat} (hb : cp[b]? = some a) : CopyRow cp (r ++ [(s, a)]) (r' ++ [(s, b)]) := by
  have hl : r'.length = r.length := by have := congrArg List.length h.1; simpa using this
  refine ⟨by rw [List.map_append, List.map_append, h.1]; rfl, fun k p p' h1 h2 => ?_⟩
  by_cases hk : k < r.length
  · rw [List.getElem?_append_left hk] at h1
    rw [List.getElem?_append_left (by omega)] at h2
    exact h.2 k p p' h1 h2
  · have h1l := (List.getElem?_eq_some_iff.mp h1).1
    rw [List.length_append, List.length_singleton] at h1l
    have : k = r.length := by omega
    subst this
    rw [List.getElem?_append_right (Nat.le_refl _), Nat.sub_self] at h1
    rw [List.getElem?_append_right (by omega), hl, Nat.sub_self] at h2
    cases h1
    cases h2
    exact hb
def copyEnds (L : Pl) (cp : List Nat) : List Nat := (List.range cp.length).filter fun i => decide (cp.getD i 0 ∈ L.ends)
theorem copy_ok {L : Pl} (okL : L.Ok) {cp : List Nat} {rows : List Row} (h0 : 0 < cp.length) (hf : cp.length ≤ 60) (hlt : ∀ x ∈ cp, x < L.rows.length)
    (hr : rows.length = cp.length) (hc : ∀ (i x : Nat) (r r' : Row), cp[i]? = some x → L.rows[x]? = some r → rows[i]? = some r' → CopyRow cp r r') : (⟨rows, copyEnds L cp⟩ : Pl).Ok := by
  have row : ∀ {i : Nat} {r' : Row}, rows[i]? = some r' → ∃ x r, cp[i]? = some x ∧ L.rows[x]? = some r ∧ CopyRow cp r r' := fun {i r'} h => by
    have hi : i < cp.length := by have := (List.getElem?_eq_some_iff.mp h).1; omega
    have hx := List.getElem?_eq_getElem hi
    have hxl := hlt _ (List.getElem_mem hi)
    exact ⟨_, _, hx, List.getElem?_eq_getElem hxl, hc _ _ _ _ hx (List.getElem?_eq_getElem hxl) h⟩
  have lv : ∀ x, Reach L x → ∀ i, cp[i]? = some x → Reach ⟨rows, copyEnds L cp⟩ i := fun x hx => by
    induction hx with
    | here h =>
      intro i hi
      refine .here (List.mem_filter.mpr ⟨List.mem_range.mpr (List.getElem?_eq_some_iff.mp hi).1, ?_⟩)
      rw [List.getD_eq_getElem?_getD, hi]
      exact decide_eq_true h
    | @step x s j r h1 h2 h3 ih =>
      intro i hi
      have hil : i < rows.length := by have := (List.getElem?_eq_some_iff.mp hi).1; omega
      have hri := List.getElem?_eq_getElem hil
      have cr := hc _ _ _ _ hi h1 hri
      obtain ⟨k, hk⟩ := List.getElem?_of_mem h2
      have hl : (rows[i]).length = r.length := by have := congrArg List.length cr.1; simpa using this
      have hkl : k < (rows[i]).length := by have := (List.getElem?_eq_some_iff.mp hk).1; omega
      have hk' := List.getElem?_eq_getElem hkl
      have := cr.2 k _ _ hk hk'
      exact .step (s := (rows[i])[k].1) hri (List.getElem_mem hkl) (ih _ this)
  refine ⟨by show 0 < rows.length; omega, by show rows.length ≤ 60; omega, fun r' hr' p' hp' => ?_, fun r' hr' => ?_, ?_, fun e he => ?_, fun i hi => ?_⟩
  · obtain ⟨i, hi⟩ := List.getElem?_of_mem hr'
    obtain ⟨x, r, h1, h2, h3⟩ := row hi
    obtain ⟨k, hk⟩ := List.getElem?_of_mem hp'
    have hl : r'.length = r.length := by have := congrArg List.length h3.1; simpa using this
    have hkl : k < r.length := by have := (List.getElem?_eq_some_iff.mp hk).1; omega
    have hkr := List.getElem?_eq_getElem hkl
    have q1 := h3.2 k _ _ hkr hk
    have q2 : p'.1 = r[k].1 := by
      have a1 : (r'.map (·.1))[k]? = some p'.1 := by rw [List.getElem?_map, hk]; rfl
      have a2 : (r.map (·.1))[k]? = some r[k].1 := by rw [List.getElem?_map, hkr]; rfl
      rw [h3.1, a2] at a1
      exact (Option.some.inj a1).symm
    have okr := okL.sign r (List.mem_of_getElem? h2) _ (List.getElem_mem hkl)
    refine ⟨by rw [q2]; exact okr.1, ?_⟩
    have := (List.getElem?_eq_some_iff.mp q1).1
    show p'.2 < rows.length
    omega
  · obtain ⟨i, hi⟩ := List.getElem?_of_mem hr'
    obtain ⟨x, r, h1, h2, h3⟩ := row hi
    rw [h3.1]
    exact okL.rise r (List.mem_of_getElem? h2)
  · exact List.Pairwise.filter _ List.pairwise_lt_range
  · have := List.mem_range.mp (List.mem_filter.mp he).1
    show e < rows.length
    omega
  · have hi : i < rows.length := hi
    have hil : i < cp.length := by omega
    exact lv _ (okL.live _ (hlt _ (List.getElem_mem hil))) i (List.getElem?_eq_getElem hil)
end Tk
set_option maxHeartbeats 4000000
set_option pp.maxSteps 2500
/-! _law_split -/
namespace Tk
open PySem L2
theorem erase_perm {α : Type} : ∀ {l : List α} {r : Nat} (h : r < l.length), (l[r] :: l.eraseIdx r).Perm l
  | [], r, h => absurd h (Nat.not_lt_zero _)
  | a :: l, 0, _ => List.Perm.refl _
  | a :: l, r + 1, h => (List.Perm.swap a (l[r]'(Nat.lt_of_succ_lt_succ h)) (l.eraseIdx r)).trans (List.Perm.cons a (erase_perm (Nat.lt_of_succ_lt_succ h)))
theorem erase_map {α β : Type} (f : α → β) : ∀ (l : List α) (r : Nat), (l.map f).eraseIdx r = (l.eraseIdx r).map f
  | [], r => rfl
  | a :: l, 0 => rfl
  | a :: l, r + 1 => congrArg (f a :: ·) (erase_map f l r)
section
variable {P : Program} {w : World} {K : PySem.W.Frag} {mg : Str → Option Value} {base : Heap}
def spSplit : Sp := fun vs H Q _ => ∃ (c : Addr) (cells : List Int) (D : Addr) (v : V) (L : Pl), vs = [.ref D, v] ∧ DrawO c cells H D ∧ Im (hide [D] H) v L.d ∧ L.Ok ∧ L.rows.length ≤ 6 ∧ (∀ r ∈ L.rows, r.length ≤ 11) ∧
  ∀ (M : Pl) (u : V) H', M.Ok → M.rows.length ≤ 12 → (∀ r ∈ M.rows, r.length ≤ 11) → Same (hide [D] H) (hide [D] H') → DrawO c cells H' D → Im (hide [D] H') u M.d → Q u H'
theorem ok_split (T : Fx K mg) : FnOk P w K mg base CX0 3 T.a_split T.d_split ["_law_draw_here", "_law_plan_here"] spSplit := by
  refine T.F_split.ok sc_split (fun vs H Q E h => ?_) (fun cdv A outer s H vs Q E hr h => ?_)
  · obtain ⟨_, _, D, v, L, rfl, _⟩ := h; rfl
  obtain ⟨c, cells, D, v, L, rfl, hD, hv, okL, l6, rsm, k⟩ := h
  have hu := hu_of hr
  obtain ⟨a0, x1, x2, rfl, ha0, i1, i2⟩ := Im.pair_inv (d := L.st) (e := L.en) hv
  obtain ⟨aS, ss, rfl, hS, iS⟩ := i1.tup_inv
  obtain ⟨aE, es, rfl, hE, iE⟩ := i2.tup_inv
  have sl : ss.length = L.rows.length := by rw [iS.len, List.length_map]
  refine ⟨_, PSs.nox ((pss_cons (ps_asg (pv 1) (pg_tup rfl (pgs_cons (pg_name (i := 2) sc_split.nd rfl (.inl rfl)) (pgs_cons (pg_name (i := 3) sc_split.nd rfl (.inr rfl)) pgs_nil))))
    (pss_cons (ps_set (i := 4) sc_split.nd rfl (.inl rfl) (pe_lst pa_nil))
    (pss_cons (ps_for PassesOwn.never rfl (pi_range1 (by rfl) T.z_range (pa_cons (pe_callB call_len_seq (by rfl) T.z_len (by decide +kernel) (pa_cons (pv 2) pa_nil)) pa_nil)) (pg_name (i := 5) sc_split.nd rfl (.inr rfl))
      (pss_one (ps_expr (pe_bm PySem.F.plainAttrs_list PySem.F.slot_list_extend PySem.F.type_list_extend mt_extend (pv 4) (pa_cons (pe_lc (own := [("_law_turn", 6)]) (by rfl) sc_split.nd (pi_range1 (by rfl) T.z_range (pa_cons (pe_op op_add pe_int (pe_call (ok_pick T) (hr.mono (by decide)) (by rfl) T.g_pick T.F_pick.kp T.b_pick .nil pass0 (pa_cons (pv 0) (pa_cons pe_int pa_nil)))) pa_nil)) (blkOk_by (own := [("_law_turn", 6)]) (N := ["_law_draw_here", "_law_plan_here", "_law_states", "_law_ends", "_law_pool", "_law_state", "_law_turn", "_law_copies", "_law_rows", "_law_row", "_law_sign", "_law_after", "_law_there", "_law_number"]) (sc := defScope (top 39)) (by decide +kernel)) (fun _ _ _ _ _ => (pg_name (i := 6) sc_split.nd rfl (.inl rfl) (.inr rfl))) (fun _ _ _ _ _ => pts_nil) (fun _ _ _ _ _ => (pv 5))) pa_nil)))))
    (pss_cons (ps_expr (pe_bm PySem.F.plainAttrs_list PySem.F.slot_list_remove PySem.F.type_list_remove mt_remove (pv 4) (pa_cons pe_int pa_nil)))
    (pss_cons (ps_set (i := 7) sc_split.nd rfl (.inr rfl) (pe_lst (pa_cons pe_int pa_nil)))
    (pss_cons (ps_for PassesOwn.never rfl (pi_range1 (by rfl) T.z_range (pa_cons (pe_callB call_len_seq (by rfl) T.z_len (by decide +kernel) (pa_cons (pv 4) pa_nil)) pa_nil)) (pg_name (i := 6) sc_split.nd rfl (.inl rfl))
      (pss_one (ps_expr (pe_bm PySem.F.plainAttrs_list PySem.F.slot_list_append PySem.F.type_list_append mt_append (pv 7) (pa_cons (pe_bm PySem.F.plainAttrs_list PySem.F.slot_list_pop PySem.F.type_list_pop mt_popAt (pv 4) (pa_cons (pe_call (ok_pick T) (hr.mono (by decide)) (by rfl) T.g_pick T.F_pick.kp T.b_pick .nil pass0 (pa_cons (pv 0) (pa_cons (pe_callB call_len_seq (by rfl) T.z_len (by decide +kernel) (pa_cons (pv 4) pa_nil)) pa_nil))) pa_nil)) pa_nil)))))
    (pss_cons (ps_set (i := 8) sc_split.nd rfl (.inl rfl) (pe_lst pa_nil))
    (pss_cons (ps_for PassesOwn.never rfl (pi_list (pv 7)) (pg_name (i := 5) sc_split.nd rfl (.inr rfl))
      (pss_cons (ps_set (i := 9) sc_split.nd rfl (.inl rfl) (pe_lst pa_nil))
      (pss_cons (ps_for PassesOwn.never rfl (pi_tup (pe_ix ix_tup (pv 2) (pv 5) (fun _ _ => rfl))) (pg_tup rfl (pgs_cons (pg_name (i := 10) sc_split.nd rfl (.inl rfl)) (pgs_cons (pg_name (i := 11) sc_split.nd rfl (.inr rfl)) pgs_nil)))
        (pss_cons (ps_setLc (i := 12) (own := [("_law_number", 13)]) (by rfl) sc_split.nd rfl rfl (sw_true rfl rfl rfl (by decide +kernel)) (pi_range1 (by rfl) T.z_range (pa_cons (pe_callB call_len_seq (by rfl) T.z_len (by decide +kernel) (pa_cons (pv 7) pa_nil)) pa_nil)) (blkOk_by (own := [("_law_number", 13)]) (N := ["_law_draw_here", "_law_plan_here", "_law_states", "_law_ends", "_law_pool", "_law_state", "_law_turn", "_law_copies", "_law_rows", "_law_row", "_law_sign", "_law_after", "_law_there", "_law_number"]) (sc := defScope (top 39)) (by decide +kernel)) (fun _ _ _ _ _ => (pg_name (i := 13) sc_split.nd rfl (.inl rfl) (.inr rfl))) (fun _ _ _ _ _ => (pts_one (pt_cmpR op_eq (pe_ix ix_lt (pv 7) (pv 13) (fun _ _ => rfl)) (pv 11) (nomark _)))) (fun _ _ _ _ _ => (pv 13)))
        (pss_one (ps_expr (pe_bm PySem.F.plainAttrs_list PySem.F.slot_list_append PySem.F.type_list_append mt_append (pv 9) (pa_cons (pe_tup (pa_cons (pv 10) (pa_cons (pe_ix ix_list (pv 12) (pe_call (ok_pick T) (hr.mono (by decide)) (by rfl) T.g_pick T.F_pick.kp T.b_pick .nil pass0 (pa_cons (pv 0) (pa_cons (pe_callB call_len_seq (by rfl) T.z_len (by decide +kernel) (pa_cons (pv 12) pa_nil)) pa_nil))) (fun _ _ => rfl)) pa_nil))) pa_nil))))))
      (pss_one (ps_expr (pe_bm PySem.F.plainAttrs_list PySem.F.slot_list_append PySem.F.type_list_append mt_append (pv 8) (pa_cons (pe_callTy call_tuple_of (by rfl) T.z_tuple (by decide +kernel) (pa_cons (pv 9) pa_nil)) pa_nil)))))))
    (pss_one (ps_ret (pe_tup (pa_cons (pe_callTy call_tuple_of (by rfl) T.z_tuple (by decide +kernel) (pa_cons (pv 8) pa_nil)) (pa_cons (pe_callTy call_tuple_of (by rfl) T.z_tuple (by decide +kernel) (pa_cons (pe_lc (own := [("_law_number", 13)]) (by rfl) sc_split.nd (pi_range1 (by rfl) T.z_range (pa_cons (pe_callB call_len_seq (by rfl) T.z_len (by decide +kernel) (pa_cons (pv 7) pa_nil)) pa_nil)) (blkOk_by (own := [("_law_number", 13)]) (N := ["_law_draw_here", "_law_plan_here", "_law_states", "_law_ends", "_law_pool", "_law_state", "_law_turn", "_law_copies", "_law_rows", "_law_row", "_law_sign", "_law_after", "_law_there", "_law_number"]) (sc := defScope (top 39)) (by decide +kernel)) (fun _ _ _ _ _ => (pg_name (i := 13) sc_split.nd rfl (.inl rfl) (.inr rfl))) (fun _ _ _ _ _ => (pts_one (pt_cmpR op_inS (pe_ix ix_lt (pv 7) (pv 13) (fun _ _ => rfl)) (pv 3) (by rfl)))) (fun _ _ _ _ _ => (pv 13))) pa_nil)) pa_nil)))))))))))))), ?_⟩
  refine ⟨_, rfl, a0, _, rfl, SqT.of (hide_same _ _ _ _ ha0), rfl, _, _, rfl, _, _, rfl, rfl, ?_⟩
  refine ⟨Nat.zero_le _, fun aP nP => ?_⟩
  have nPD : aP ≠ D := by
    obtain ⟨_, _, _, _, _, g1, _⟩ := hD
    exact (ne_of_none g1 nP).symm
  have pos := okL.pos
  have hSP : upd H aP (.lst []) aS = some (.tup ss) := (upd_ne (ne_of_none (hide_same _ _ _ _ hS) nP)).trans (hide_same _ _ _ _ hS)
  refine ⟨_, rfl, aS, ss, rfl, .inr (SqT.of hSP), _, rfl, by omega, by omega, for_it walk_rng (fun i σ H1 => ∃ (o5 o6 o7 o8 o9 o10 o11 o12 o13 : Option V) (pl : List Nat), σ = [some (.ref D), some (.ref a0), some (.ref aS), some (.ref aE), some (.ref aP), o5, o6, o7, o8, o9, o10, o11, o12, o13] ∧ Same (hide [D] H) (hide [D, aP] H1) ∧ DrawO c cells (hide [aP] H1) D ∧ H1 aP = some (.lst (nV pl)) ∧ pl.length ≤ 2 * i ∧ (∀ x, x ∈ pl ↔ x < i) ∧ (0 < i → pl[0]? = some 0))
    ⟨_, _, _, _, _, _, _, _, _, [], rfl, ?_, ?_, upd_same, by simp, fun x => by simp, fun h => absurd h (Nat.lt_irrefl _)⟩ (fun i σ H1 _ h => True.intro) (fun i x σ H1 H2 hi h y => ?_) fun σ H1 h => ?_⟩
  · exact fun z o e => by
      obtain ⟨q1, q2⟩ := hide_some e
      have := ne_of_none q2 nP
      rw [hide_out (by simp at q1 ⊢; exact ⟨q1, this⟩), upd_ne this]; exact q2
  · rw [hide_mut (by simp)]
    exact hD.mono fun z o e => by rw [hide_out (by simpa using ne_of_none e nP)]; exact e
  · obtain ⟨o5, o6, o7, o8, o9, o10, o11, o12, o13, pl, rfl, sB, hD1, hP, pll, plm, pl0⟩ := h
    obtain ⟨rfl, rfl⟩ := y
    have hi : i < L.rows.length := by rw [← sl]; exact hi
    refine ⟨_, rfl, .inl ⟨rfl, _, SqL.of hP⟩, _, rfl, c, cells, D, 2, rfl, hD1.mono (hide_same _ _), by decide, by decide, fun r H3 hr s3 hD3 => ?_⟩
    have hD3 := hD1.hid hD3
    have hP3 : H3 aP = some (.lst (nV pl)) := hide_same _ _ _ _ (s3 _ _ (by rw [hide_out (by simpa using nPD)]; exact hP))
    have s3 := sB.trans (hide_wide (M := [D, aP]) s3 (by simp))
    have er : (1 + (r : Int)).toNat = 1 + r := by omega
    refine ⟨_, _, rfl, rfl, _, rfl, by omega, by omega, fun D2 nD2 => lc_it walk_rng (fun t H' => Same H3 (hide [D2] H') ∧ H' D2 = some (.lst (nV (List.replicate t i)))) ⟨?_, upd_same⟩ (fun i H' _ pv => True.intro) (fun t x H' H'' ht pv y => ?_) fun H4 pv => ?_⟩
    · rw [hide_mut (by simp)]
      exact fun z o e => by rw [hide_out (by simpa using ne_of_none e nD2)]; exact e
    · obtain ⟨rfl, rfl⟩ := y
      have ht : t < (1 + (r : Int)).toNat := ht
      refine ⟨rfl, _, rfl, _, pv.2, ?_, ?_, ?_⟩
      · unfold nV; rw [List.length_map, List.length_replicate]; exact szlt (by omega)
      · rw [hide_mut (by simp)]; exact pv.1
      · rw [upd_same, List.replicate_succ']; simp [nV]
    obtain ⟨s4, hD24⟩ := pv
    rw [er] at hD24
    have s4 := s4.trans (hide_same _ _)
    have hP4 := s4 _ _ hP3
    have e5 : nV pl ++ nV (List.replicate (1 + r) i) = nV (pl ++ List.replicate (1 + r) i) := by unfold nV; rw [List.map_append]
    have m5 : ∀ o, hide [D, aP] (upd H4 aP o) = hide [D, aP] H4 := fun o => hide_mut (by simp)
    have m6 : ∀ o, hide [aP] (upd H4 aP o) = hide [aP] H4 := fun o => hide_mut (by simp)
    refine ⟨aP, D2, _, _, rfl, rfl, hP4, hD24, szle (by unfold nV; rw [List.length_map, List.length_map, List.length_replicate]; omega), _, _, _, _, _, _, _, _, _, pl ++ List.replicate (1 + r) i, rfl, ?_, ?_, ?_, ?_, fun x => ?_, fun _ => ?_⟩
    · rw [m5]; exact s3.trans (hide_mono s4)
    · rw [m6]; exact hD3.mono (hide_mono s4)
    · rw [upd_same, e5]
    · rw [List.length_append, List.length_replicate]; omega
    · rw [List.mem_append, plm, List.mem_replicate]
      constructor
      · rintro (h | h)
        · omega
        · omega
      · intro h
        by_cases e : x = i
        · exact .inr ⟨by omega, e⟩
        · exact .inl (by omega)
    · by_cases e : i = 0
      · subst e
        have : pl = [] := List.eq_nil_iff_forall_not_mem.mpr fun x hx => by have := (plm x).mp hx; omega
        rw [this, show 1 + r = r + 1 by omega, List.replicate_succ]; rfl
      · rw [List.getElem?_append_left (by have := (List.getElem?_eq_some_iff.mp (pl0 (by omega))).1; exact this)]
        exact pl0 (by omega)
  · obtain ⟨o5, o6, o7, o8, o9, o10, o11, o12, o13, pl, rfl, sB, hD1, hP, pll, plm, pl0⟩ := h
    have plm : ∀ x, x ∈ pl ↔ x < L.rows.length := fun x => by rw [← sl]; exact plm x
    have pll : pl.length ≤ 2 * L.rows.length := by rw [← sl]; exact pll
    have pl0 := pl0 (by show 0 < ss.length; omega)
    have enV : nV pl = (pl.map fun (x : Nat) => (x : Int)).map V.int := by unfold nV; rw [List.map_map]; rfl
    refine ⟨_, rfl, .inl ⟨rfl, _, SqL.of hP⟩, aP, pl.map fun (x : Nat) => (x : Int), 0, 0, rfl, rfl, by rw [← enV]; exact hP, by rw [List.getElem?_map, pl0]; rfl, fun m hm => absurd hm (Nat.not_lt_zero _), ?_⟩
    have eT : ((pl.map fun (x : Nat) => (x : Int)).eraseIdx 0).map V.int = nV pl.tail := by
      cases pl with
      | nil => rfl
      | cons a l => simp [nV]
    rw [eT]
    have hperm : (0 :: pl.tail).Perm pl := by
      cases pl with
      | nil => cases pl0
      | cons a l => cases pl0; exact List.Perm.refl _
    have m2 : hide [D, aP] (upd H1 aP (.lst (nV pl.tail))) = hide [D, aP] H1 := hide_mut (by simp)
    have m3 : hide [aP] (upd H1 aP (.lst (nV pl.tail))) = hide [aP] H1 := hide_mut (by simp)
    have hP2 : upd H1 aP (.lst (nV pl.tail)) aP = some (.lst (nV pl.tail)) := upd_same
    generalize upd H1 aP (.lst (nV pl.tail)) = H2 at m2 m3 hP2
    rw [← m2] at sB
    rw [← m3] at hD1
    generalize pl.tail = pt at hP2 hperm
    have ptl : pt.length + 1 ≤ 12 := by have := hperm.length_eq; rw [List.length_cons] at this; omega
    refine ⟨szle (Nat.le_trans (Nat.le_refl 1) (by decide)), fun aC nC => ?_⟩
    have nCP : aC ≠ aP := (ne_of_none hP2 nC).symm
    have nCD : aC ≠ D := by
      obtain ⟨_, _, _, _, _, g1, _⟩ := hD1
      exact (ne_of_none (hide_same _ _ _ _ g1) nC).symm
    have s3 : Same (hide [D] H) (hide [D, aP, aC] (upd H2 aC (.lst (nV [0])))) := sB.trans fun z o e => by
      obtain ⟨q1, q2⟩ := hide_some e
      have := ne_of_none q2 nC
      rw [hide_out (by simp at q1 ⊢; exact ⟨q1.1, q1.2, this⟩), upd_ne this]; exact q2
    have hD3 : DrawO c cells (hide [aP, aC] (upd H2 aC (.lst (nV [0])))) D := hD1.mono fun z o e => by
      obtain ⟨q1, q2⟩ := hide_some e
      have := ne_of_none q2 nC
      rw [hide_out (by simp at q1 ⊢; exact ⟨q1, this⟩), upd_ne this]; exact q2
    have hP3 : upd H2 aC (.lst (nV [0])) aP = some (.lst (nV pt)) := (upd_ne nCP.symm).trans hP2
    have hC3 : upd H2 aC (.lst (nV [0])) aC = some (.lst (nV [0])) := upd_same
    rw [show ([V.int 0] : List V) = nV [0] from rfl]
    generalize upd H2 aC (.lst (nV [0])) = H3 at s3 hD3 hP3 hC3
    have ptn : (nV pt).length = pt.length := by unfold nV; rw [List.length_map]
    refine ⟨_, rfl, aP, _, rfl, .inl (SqL.of hP3), _, rfl, by omega, by omega, for_it walk_rng (fun i σ H4 => ∃ (o5 o6 o8 o9 o10 o11 o12 o13 : Option V) (cp pq : List Nat), σ = [some (.ref D), some (.ref a0), some (.ref aS), some (.ref aE), some (.ref aP), o5, o6, some (.ref aC), o8, o9, o10, o11, o12, o13] ∧ Same (hide [D] H) (hide [D, aP, aC] H4) ∧ DrawO c cells (hide [aP, aC] H4) D ∧ H4 aP = some (.lst (nV pq)) ∧ H4 aC = some (.lst (nV cp)) ∧ (cp ++ pq).Perm (0 :: pt) ∧ cp.length = i + 1)
      ⟨_, _, _, _, _, _, _, _, [0], pt, rfl, s3, hD3, hP3, hC3, List.Perm.refl _, rfl⟩ (fun i σ H1 _ h => True.intro) (fun i x σ H4 H5 hi h y => ?_) fun σ H4 h => ?_⟩
    · obtain ⟨o5, o6, o8, o9, o10, o11, o12, o13, cp, pq, rfl, s4, hD4, hP4, hC4, hpm, cpl⟩ := h
      obtain ⟨rfl, rfl⟩ := y
      have hi : i < pt.length := by rw [← ptn]; exact hi
      have pql : i + 1 + pq.length = pt.length + 1 := by
        have := hpm.length_eq
        rw [List.length_append, List.length_cons, cpl] at this
        exact this
      have pqn : (nV pq).length = pq.length := by unfold nV; rw [List.length_map]
      refine ⟨_, rfl, .inl ⟨rfl, _, SqL.of hC4⟩, _, rfl, .inl ⟨rfl, _, SqL.of hP4⟩, _, rfl, _, rfl, aP, _, rfl, .inl (SqL.of hP4), c, cells, D, pq.length, (by rw [pqn]; rfl), hD4.mono (hide_same _ _), by omega, by omega, fun r H6 hr s6 hD6 => ?_⟩
      have hD6 := hD4.hid hD6
      have hP6 : H6 aP = some (.lst (nV pq)) := hide_same _ _ _ _ (s6 _ _ (by rw [hide_out (by simpa using nPD)]; exact hP4))
      have hC6 : H6 aC = some (.lst (nV cp)) := hide_same _ _ _ _ (s6 _ _ (by rw [hide_out (by simpa using nCD)]; exact hC4))
      have s6 := s4.trans (hide_wide (M := [D, aP, aC]) s6 (by simp))
      have hz : pq[r]? = some pq[r] := List.getElem?_eq_getElem hr
      have hzx : (nV pq)[r]? = some (.int (pq[r] : Nat)) := by unfold nV; rw [List.getElem?_map, hz]; rfl
      have hpz : (pq[r] :: pq.eraseIdx r).Perm pq := erase_perm hr
      generalize pq[r] = z at hz hzx hpz
      have hC7 : upd H6 aP (.lst ((nV pq).eraseIdx r)) aC = some (.lst (nV cp)) := (upd_ne nCP).trans hC6
      have eP : (nV pq).eraseIdx r = nV (pq.eraseIdx r) := by unfold nV; rw [erase_map]
      refine ⟨aP, _, _, r, _, rfl, rfl, hP6, by omega, by omega, (ixN_seq (ixn_nat (by rw [pqn]; exact hr))).1, hzx, ?_⟩
      have cpn : (nV cp).length = cp.length := by unfold nV; rw [List.length_map]
      refine ⟨aC, _, _, rfl, rfl, hC7, szlt (by omega), _, _, _, _, _, _, _, _, cp ++ [z], pq.eraseIdx r, rfl, ?_, ?_, ?_, ?_, ?_, by rw [List.length_append, List.length_singleton, cpl]⟩
      · rw [hide_mut (by simp), hide_mut (by simp)]; exact s6
      · rw [hide_mut (by simp), hide_mut (by simp)]; exact hD6
      · rw [upd_ne nCP.symm, upd_same, eP]
      · rw [upd_same]; simp [nV]
      · refine List.Perm.trans ?_ hpm
        rw [List.append_assoc]
        exact List.Perm.append_left _ hpz
    · obtain ⟨o5, o6, o8, o9, o10, o11, o12, o13, cp, pq, rfl, s4, hD4, hP4, hC4, hpm, cpl⟩ := h
      rw [ptn] at cpl
      have pqe : pq = [] := by
        have := hpm.length_eq
        rw [List.length_append, List.length_cons, cpl] at this
        exact List.length_eq_zero_iff.mp (by omega)
      subst pqe
      rw [List.append_nil] at hpm
      have hpm := hpm.trans hperm
      have cmem : ∀ x, x ∈ cp ↔ x < L.rows.length := fun x => (hpm.mem_iff).trans (plm x)
      have cpl12 : cp.length ≤ 12 := by have := hpm.length_eq; omega
      have cp0 : 0 < cp.length := by omega
      have s4 : Same (hide [D] H) (hide [D] H4) := s4.trans (hide_sub (by simp))
      have hD4 := hD4.mono (hide_same _ _)
      have hC4h : hide [D] H4 aC = some (.lst (nV cp)) := by rw [hide_out (by simpa using nCD)]; exact hC4
      have hSh := s4 _ _ hS
      have iSh := iS.mono s4
      clear hP4 hpm hperm hP3 hC3 hD3 s3 hP2 hD1 sB m2 m3
      refine ⟨Nat.zero_le _, fun aR nR => ?_⟩
      have nRD : aR ≠ D := by
        obtain ⟨_, _, _, _, _, g1, _⟩ := hD4
        exact (ne_of_none g1 nR).symm
      have cpn : (nV cp).length = cp.length := by unfold nV; rw [List.length_map]
      have s5 : Same (hide [D] H4) (hide [D, aR] (upd H4 aR (.lst []))) := fun z o e => by
        obtain ⟨q1, q2⟩ := hide_some e
        have := ne_of_none q2 nR
        rw [hide_out (by simp at q1 ⊢; exact ⟨q1, this⟩), upd_ne this]; exact q2
      have hD5 : DrawO c cells (hide [aR] (upd H4 aR (.lst []))) D := hD4.mono fun z o e => by
        have := ne_of_none e nR
        rw [hide_out (by simpa using this), upd_ne this]; exact e
      have hR5 : upd H4 aR (.lst []) aR = some (.lst []) := upd_same
      generalize upd H4 aR (.lst []) = H5 at s5 hD5 hR5
      refine ⟨_, rfl, aC, rfl, ⟨_, SqL.of (hide_same _ _ _ _ (s5 _ _ hC4h))⟩, for_it (walk_list (xs := nV cp)) (fun i σ H6 => ∃ (o5 o6 o9 o10 o11 o12 o13 : Option V) (rs : List V) (rows : List Row), σ = [some (.ref D), some (.ref a0), some (.ref aS), some (.ref aE), some (.ref aP), o5, o6, some (.ref aC), some (.ref aR), o9, o10, o11, o12, o13] ∧ Same (hide [D] H4) (hide [D, aR] H6) ∧ DrawO c cells (hide [aR] H6) D ∧ H6 aR = some (.lst rs) ∧ Ims (hide [D, aR] H6) rs (rows.map rowD) ∧ rows.length = i ∧
        (∀ (j x : Nat) (r r' : Row), cp[j]? = some x → L.rows[x]? = some r → rows[j]? = some r' → CopyRow cp r r') ∧ (∀ r ∈ rows, r.length ≤ 11))
        ⟨_, _, _, _, _, _, _, [], [], rfl, s5, hD5, hR5, .nil, rfl, (fun j x r r' _ _ h => by cases h), fun r h => by cases h⟩ (fun i σ H6 _ h => ?_) (fun i x σ H6 H7 hi h y => ?_) fun σ H6 h => ?_⟩
      · obtain ⟨_, _, _, _, _, _, _, _, _, _, s, _⟩ := h
        exact SqL.of (hide_same _ _ _ _ (s _ _ hC4h))
      · obtain ⟨o5, o6, o9, o10, o11, o12, o13, rs, rows, rfl, s6, hD6, hR6, iR, rl, cpr, rsm2⟩ := h
        obtain ⟨rfl, hx⟩ := y
        have hic : i < cp.length := by rw [← cpn]; exact hi
        have hcz : cp[i]? = some cp[i] := List.getElem?_eq_getElem hic
        have hcm := (cmem _).mp (List.getElem_mem hic)
        have hx2 : x = .int (cp[i] : Nat) := by
          unfold nV at hx
          rw [List.getElem?_map, hcz] at hx
          cases hx; rfl
        subst hx2
        generalize cp[i] = st at hcz hcm
        have hr0 : L.rows[st]? = some L.rows[st] := List.getElem?_eq_getElem hcm
        have hrm := List.getElem_mem hcm
        obtain ⟨v, hv1, hv2⟩ := iSh.at_ (i := st) (d := rowD L.rows[st]) (by rw [List.getElem?_map, hr0]; rfl)
        generalize L.rows[st] = r at hr0 hrm hv2
        have r11 := rsm r hrm
        obtain ⟨q, ys, rfl, hq, hys⟩ := hv2.tup_inv
        have yl : ys.length = r.length := by rw [hys.len, List.length_map]
        refine ⟨Nat.zero_le _, fun aW nW => ?_⟩
        have nWR : aW ≠ aR := (ne_of_none hR6 nW).symm
        have nWD : aW ≠ D := by
          obtain ⟨_, _, _, _, _, g1, _⟩ := hD6
          exact (ne_of_none (hide_same _ _ _ _ g1) nW).symm
        have s8 : Same (hide [D, aR] H7) (hide [D, aR, aW] (upd H7 aW (.lst []))) := fun z o e => by
          obtain ⟨q1, q2⟩ := hide_some e
          have := ne_of_none q2 nW
          rw [hide_out (by simp at q1 ⊢; exact ⟨q1.1, q1.2, this⟩), upd_ne this]; exact q2
        have hD8 : DrawO c cells (hide [aR, aW] (upd H7 aW (.lst []))) D := hD6.mono fun z o e => by
          obtain ⟨q1, q2⟩ := hide_some e
          have := ne_of_none q2 nW
          rw [hide_out (by simp at q1 ⊢; exact ⟨q1, this⟩), upd_ne this]; exact q2
        have hR8 : upd H7 aW (.lst []) aR = some (.lst rs) := (upd_ne nWR.symm).trans hR6
        have hW8 : upd H7 aW (.lst []) aW = some (.lst []) := upd_same
        generalize upd H7 aW (.lst []) = H8 at s8 hD8 hR8 hW8
        have s78 := s6.trans s8
        have hS8 := hide_same _ _ _ _ (s78 _ _ hSh)
        have hC8 := hide_same _ _ _ _ (s78 _ _ hC4h)
        have hq8 := s78 _ _ hq
        refine ⟨_, rfl, _, rfl, aS, _, st, _, rfl, rfl, SqT.of hS8, atI_nat hv1, q, rfl, ⟨_, SqT.of (hide_same _ _ _ _ hq8)⟩, for_it (walk_tup (xs := ys)) (fun t σ H9 => ∃ (o10 o11 o12 o13 : Option V) (ws : List V) (r' : Row), σ = [some (.ref D), some (.ref a0), some (.ref aS), some (.ref aE), some (.ref aP), some (.int (st : Nat)), o6, some (.ref aC), some (.ref aR), some (.ref aW), o10, o11, o12, o13] ∧ Same (hide [D] H4) (hide [D, aR, aW] H9) ∧ Same (hide [D, aR, aW] H8) (hide [D, aR, aW] H9) ∧ DrawO c cells (hide [aR, aW] H9) D ∧ H9 aR = some (.lst rs) ∧ H9 aW = some (.lst ws) ∧ Ims (hide [D, aR, aW] H9) ws (r'.map pairD) ∧ CopyRow cp (r.take t) r')
          ⟨_, _, _, _, [], [], rfl, s78, fun _ _ e => e, hD8, hR8, hW8, .nil, .nil⟩ (fun t σ H9 _ h => ?_) (fun t x σ H9 H10 ht h y => ?_) fun σ H9 h => ?_⟩
        · obtain ⟨_, _, _, _, _, _, _, s, _⟩ := h
          exact SqT.of (hide_same _ _ _ _ (s _ _ hq))
        · obtain ⟨o10, o11, o12, o13, ws, r', rfl, s9, s89, hD9, hR9, hW9, iW, cr⟩ := h
          obtain ⟨rfl, hx⟩ := y
          obtain ⟨d, hdd, him⟩ := hys.get hx
          rw [List.getElem?_map] at hdd
          have htr : t < r.length := by rw [← yl]; exact ht
          have hpt : r[t]? = some r[t] := List.getElem?_eq_getElem htr
          have hpm := List.getElem_mem htr
          have et : r.take (t + 1) = r.take t ++ [r[t]] := by rw [List.take_add_one, hpt]; rfl
          generalize r[t] = p at hpt hpm et
          rw [hpt] at hdd
          cases hdd
          obtain ⟨cc, u1, u2, rfl, hcc, j1, j2⟩ := him.pair_inv
          cases j1.str_inv
          cases j2.int_inv
          have hcc' := hide_same _ _ _ _ (s9 _ _ hcc)
          have hC9 := hide_same _ _ _ _ (s9 _ _ hC4h)
          have hpl := (okL.sign r hrm p hpm).2
          refine ⟨cc, _, rfl, SqT.of hcc', rfl, _, _, rfl, _, _, rfl, rfl, ?_⟩
          refine ⟨_, rfl, aC, _, rfl, .inl (SqL.of hC9), _, rfl, by omega, by omega, fun D3 nD3 => lc_it walk_rng (fun m H' => Same H10 (hide [D3] H') ∧ H' D3 = some (.lst (nV ((List.range m).filter fun m => decide (cp.getD m 0 = p.2))))) ⟨?_, upd_same⟩ (fun i H' _ pv => True.intro) (fun m x H' H'' hm pv y => ?_) fun H11 pv => ?_⟩
          · rw [hide_mut (by simp)]
            exact fun z o e => by rw [hide_out (by simpa using ne_of_none e nD3)]; exact e
          · obtain ⟨rfl, rfl⟩ := y
            have hm : m < cp.length := by rw [← cpn]; exact hm
            have hCm := hide_same _ _ _ _ (pv.1 _ _ hC9)
            have hcx : (nV cp)[m]? = some (.int (cp.getD m 0 : Nat)) := by
              unfold nV
              rw [List.getElem?_map, List.getElem?_eq_getElem hm, List.getD_eq_getElem?_getD, List.getElem?_eq_getElem hm]; rfl
            have eR : List.range (m + 1) = List.range m ++ [m] := List.range_succ
            have ec : decide (V.int ((cp.getD m 0 : Nat) : Int) = V.int ((p.2 : Nat) : Int)) = decide (cp.getD m 0 = p.2) := by
              by_cases h : cp.getD m 0 = p.2
              · rw [h]; simp
              · rw [decide_eq_false h, decide_eq_false fun e => h (by have := V.int.inj e; omega)]
            refine ⟨rfl, _, rfl, _, rfl, aC, _, _, _, rfl, rfl, .inl hCm, atI_nat hcx, _, rfl, rfl, _, congrArg V.bl ec, ite2 (fun c1 => ?_) (fun c1 => ?_)⟩
            · refine ⟨_, rfl, _, pv.2, ?_, ?_, ?_⟩
              · have : (nV ((List.range m).filter fun m => decide (cp.getD m 0 = p.2))).length ≤ m := by
                  unfold nV
                  rw [List.length_map]
                  exact Nat.le_trans (List.length_filter_le _ _) (by simp)
                exact szlt (by omega)
              · rw [hide_mut (by simp)]; exact pv.1
              · rw [upd_same, eR, List.filter_append, List.filter_cons, if_pos c1]
                simp [nV]
            · refine ⟨pv.1, ?_⟩
              rw [pv.2, eR, List.filter_append, List.filter_cons, if_neg c1]
              simp
          obtain ⟨s11, hD3⟩ := pv
          rw [Int.toNat_natCast, cpn] at hD3
          have hth : ∀ m ∈ (List.range cp.length).filter (fun m => decide (cp.getD m 0 = p.2)), cp[m]? = some p.2 := fun m hm => by
            obtain ⟨q1, q2⟩ := List.mem_filter.mp hm
            have q1 := List.mem_range.mp q1
            have q2 : cp.getD m 0 = p.2 := by simpa using q2
            rw [List.getD_eq_getElem?_getD, List.getElem?_eq_getElem q1] at q2
            rw [List.getElem?_eq_getElem q1]
            exact congrArg some q2
          have hne : 0 < ((List.range cp.length).filter (fun m => decide (cp.getD m 0 = p.2))).length := by
            obtain ⟨m, hm⟩ := List.getElem?_of_mem ((cmem p.2).mpr hpl)
            refine List.length_pos_iff.mpr fun e => ?_
            have : m ∈ (List.range cp.length).filter (fun m => decide (cp.getD m 0 = p.2)) := List.mem_filter.mpr ⟨List.mem_range.mpr (List.getElem?_eq_some_iff.mp hm).1, by rw [List.getD_eq_getElem?_getD, hm]; simp⟩
            rw [e] at this; cases this
          have hle : ((List.range cp.length).filter (fun m => decide (cp.getD m 0 = p.2))).length ≤ 12 := Nat.le_trans (List.length_filter_le _ _) (by simpa using cpl12)
          generalize (List.range cp.length).filter (fun m => decide (cp.getD m 0 = p.2)) = th at hD3 hth hne hle
          have s11 := s11.trans (hide_same _ _)
          have hR11 := s11 _ _ hR9
          have hW11 := s11 _ _ hW9
          have hD11 := hD9.mono (hide_mono (L := [aR, aW]) s11)
          have s9A := s9.trans (hide_mono (L := [D, aR, aW]) s11)
          have s8A := s89.trans (hide_mono (L := [D, aR, aW]) s11)
          have iW11 := iW.mono (hide_mono (L := [D, aR, aW]) s11)
          have thn : (nV th).length = th.length := by unfold nV; rw [List.length_map]
          have n3D : D3 ≠ D := by
            obtain ⟨_, _, _, _, _, g1, _⟩ := hD9
            exact (ne_of_none (hide_same _ _ _ _ g1) nD3).symm
          refine ⟨_, rfl, .inl ⟨rfl, _, SqL.of hW11⟩, _, rfl, _, rfl, _, rfl, _, rfl, D3, _, rfl, .inl (SqL.of hD3), c, cells, D, th.length, (by rw [thn]; rfl), hD11.mono (hide_same _ _), hne, by omega, fun r3 H12 hr3 s12 hD12 => ?_⟩
          have hD12 := hD11.hid hD12
          have hR12 : H12 aR = some (.lst rs) := hide_same _ _ _ _ (s12 _ _ (by rw [hide_out (by simpa using nRD)]; exact hR11))
          have hW12 : H12 aW = some (.lst ws) := hide_same _ _ _ _ (s12 _ _ (by rw [hide_out (by simpa using nWD)]; exact hW11))
          have hT12 : H12 D3 = some (.lst (nV th)) := hide_same _ _ _ _ (s12 _ _ (by rw [hide_out (by simpa using n3D)]; exact hD3))
          have s12 := hide_wide (M := [D, aR, aW]) s12 (by simp)
          have s9B := s9A.trans s12
          have s8B := s8A.trans s12
          have iW12 := iW11.mono s12
          have hz : th[r3]? = some th[r3] := List.getElem?_eq_getElem hr3
          have hzc := hth _ (List.getElem_mem hr3)
          generalize th[r3] = z at hz hzc
          have hzx : (nV th)[r3]? = some (.int (z : Nat)) := by unfold nV; rw [List.getElem?_map, hz]; rfl
          refine ⟨D3, _, r3, _, rfl, rfl, SqL.of hT12, atI_nat hzx, szle (Nat.le_trans (Nat.le_refl 2) (by decide)), fun tt nt => ?_⟩
          have s13 := same_new (o := .tup [.str ⟨#[p.1]⟩, .int (z : Nat)]) nt
          have hR13 := s13 _ _ hR12
          have hW13 := s13 _ _ hW12
          have htt : upd H12 tt (.tup [.str ⟨#[p.1]⟩, .int (z : Nat)]) tt = some (.tup [.str ⟨#[p.1]⟩, .int (z : Nat)]) := upd_same
          have hD13 := hD12.mono (hide_mono (L := [aR, aW]) s13)
          have s9C := s9B.trans (hide_mono (L := [D, aR, aW]) s13)
          have s8C := s8B.trans (hide_mono (L := [D, aR, aW]) s13)
          have iW13 := iW12.mono (hide_mono (L := [D, aR, aW]) s13)
          have ntX : tt ∉ [D, aR, aW] := by
            simp only [List.mem_cons, List.not_mem_nil, or_false, not_or]
            obtain ⟨_, _, _, _, _, g1, _⟩ := hD12
            exact ⟨(ne_of_none (hide_same _ _ _ _ g1) nt).symm, (ne_of_none hR12 nt).symm, (ne_of_none hW12 nt).symm⟩
          generalize upd H12 tt (.tup [.str ⟨#[p.1]⟩, .int (z : Nat)]) = H13 at s13 hR13 hW13 htt hD13 s9C s8C iW13
          have rl' : r'.length = (r.take t).length := by have := congrArg List.length cr.1; simpa using this
          have wsl : ws.length ≤ 11 := by
            rw [iW13.len, List.length_map, rl', List.length_take]; omega
          have m9 : ∀ o, hide [D, aR, aW] (upd H13 aW o) = hide [D, aR, aW] H13 := fun o => hide_mut (by simp)
          refine ⟨aW, ws, _, rfl, rfl, hW13, szlt (by omega), _, _, _, _, ws ++ [.ref tt], r' ++ [(p.1, z)], rfl, ?_, ?_, ?_, ?_, upd_same, ?_, ?_⟩
          · rw [m9]; exact s9C
          · rw [m9]; exact s8C
          · rw [hide_mut (by simp)]; exact hD13
          · exact (upd_ne nWR.symm).trans hR13
          · rw [m9, List.map_append]
            exact iW13.snoc (Im.pair (x := .str (sgS p.1)) (y := .int z) (by rw [hide_out ntX]; exact htt) (.str _) (.int _))
          · rw [et]; exact cr.snoc hzc
        · obtain ⟨o10, o11, o12, o13, ws, r', rfl, s9, s89, hD9, hR9, hW9, iW, cr⟩ := h
          rw [yl, List.take_length] at cr
          have rl' : r'.length = r.length := by have := congrArg List.length cr.1; simpa using this
          refine ⟨_, rfl, .inl ⟨rfl, _, SqL.of hR9⟩, _, rfl, aW, ws, rfl, .inl ⟨SqL.of hW9, fun tt nt => ?_⟩⟩
          have s10 := same_new (o := .tup ws) nt
          have hR10 := s10 _ _ hR9
          have ntR : tt ≠ aR := (ne_of_none hR9 nt).symm
          have ntD : tt ≠ D := by
            obtain ⟨_, _, _, _, _, g1, _⟩ := hD9
            exact (ne_of_none (hide_same _ _ _ _ g1) nt).symm
          have htt : upd H9 tt (.tup ws) tt = some (.tup ws) := upd_same
          have sub3 : ∀ G : Hp, Same (hide [D, aR, aW] G) (hide [D, aR] G) := fun G => hide_sub (by simp)
          have hD10 : DrawO c cells (hide [aR] (upd H9 tt (.tup ws))) D := (hD9.mono (hide_mono s10)).mono (hide_sub (by simp))
          have s4A := (s9.trans (hide_mono s10)).trans (sub3 _)
          have s7A := ((s8.trans s89).trans (hide_mono s10)).trans (sub3 _)
          have iW10 := (iW.mono (hide_mono s10)).mono (sub3 _)
          generalize upd H9 tt (.tup ws) = H10 at s10 hR10 htt hD10 s4A s7A iW10
          have rsl : rs.length ≤ 12 := by rw [iR.len, List.length_map]; omega
          have m9 : ∀ o, hide [D, aR] (upd H10 aR o) = hide [D, aR] H10 := fun o => hide_mut (by simp)
          refine ⟨aR, rs, _, rfl, rfl, hR10, szlt (by omega), _, _, _, _, _, _, _, rs ++ [.ref tt], rows ++ [r'], rfl, ?_, ?_, upd_same, ?_, ?_, fun j x r1 r2 hj hx1 hx2 => ?_, fun z hz => ?_⟩
          · rw [m9]; exact s4A
          · rw [hide_mut (by simp)]; exact hD10
          · rw [m9, List.map_append]
            exact (iR.mono s7A).snoc (.tup (by rw [hide_out (by simp; exact ⟨ntD, ntR⟩)]; exact htt) iW10)
          · rw [List.length_append, List.length_singleton, rl]
          · by_cases e : j < rows.length
            · rw [List.getElem?_append_left e] at hx2
              exact cpr j x r1 r2 hj hx1 hx2
            · have := (List.getElem?_eq_some_iff.mp hx2).1
              rw [List.length_append, List.length_singleton] at this
              have e2 : j = rows.length := by omega
              rw [e2, List.getElem?_append_right (Nat.le_refl _), Nat.sub_self] at hx2
              cases hx2
              rw [e2, rl, hcz] at hj
              cases hj
              rw [hr0] at hx1
              cases hx1
              exact cr
          · rcases List.mem_append.mp hz with q' | q'
            · exact rsm2 z q'
            · rw [List.mem_singleton.mp q']; omega
      · obtain ⟨o5, o6, o9, o10, o11, o12, o13, rs, rows, rfl, s6, hD6, hR6, iR, rl, cpr, rsm2⟩ := h
        rw [cpn] at rl
        have nRh : hide [D] H6 aR = some (.lst rs) := by rw [hide_out (by simpa using nRD)]; exact hR6
        refine ⟨_, rfl, aR, rs, rfl, .inl ⟨SqL.of hR6, fun t1 nt1 => ?_⟩⟩
        have s7 := same_new (o := .tup rs) nt1
        have ht1 : upd H6 t1 (.tup rs) t1 = some (.tup rs) := upd_same
        have hD7 := (hD6.mono (hide_same _ _)).mono s7
        have sub1 : ∀ G : Hp, Same (hide [D, aR] G) (hide [D] G) := fun G => hide_sub (by simp)
        have s4A := (s6.trans (hide_mono (L := [D, aR]) s7)).trans (sub1 _)
        have iR7 := (iR.mono (hide_mono (L := [D, aR]) s7)).mono (sub1 _)
        generalize upd H6 t1 (.tup rs) = H7 at s7 ht1 hD7 s4A iR7
        have hC7 := hide_same _ _ _ _ (s4A _ _ hC4h)
        have hEx : hide [D] H4 aE = some (.tup (L.ends.map fun (i : Nat) => V.int i)) := by
          have q : (L.ends.map fun (e : Nat) => PyData.int e) = (L.ends.map fun (e : Nat) => (e : Int)).map PyData.int := by rw [List.map_map]; rfl
          have iE' : Ims (hide [D] H) es (L.ends.map fun (e : Nat) => PyData.int e) := iE
          rw [q] at iE'
          have e2 := Ims.ints_inv iE'
          rw [List.map_map] at e2
          rw [e2] at hE
          exact s4 _ _ hE
        have hE7 := hide_same _ _ _ _ (s4A _ _ hEx)
        refine ⟨_, rfl, aC, _, rfl, .inl (SqL.of hC7), _, rfl, by omega, by omega, fun D4 nD4 => lc_it walk_rng (PvIm H7 D4 fun m => if cp.getD m 0 ∈ L.ends then some (.int (m : Nat)) else none) (PvIm.zero nD4) (fun i H' _ pv => True.intro) (fun m x H' H'' hm pv y => ?_) fun H8 pv => ?_⟩
        · obtain ⟨rfl, rfl⟩ := y
          have hm : m < cp.length := by rw [← cpn]; exact hm
          have hCm := pv.base _ _ hC7
          have hEm := pv.base _ _ hE7
          have hcx : (nV cp)[m]? = some (.int (cp.getD m 0 : Nat)) := by
            unfold nV
            rw [List.getElem?_map, List.getElem?_eq_getElem hm, List.getD_eq_getElem?_getD, List.getElem?_eq_getElem hm]; rfl
          have ein : (if false = true then !inV (.int (cp.getD m 0 : Nat)) (L.ends.map fun (i : Nat) => V.int i) else inV (.int (cp.getD m 0 : Nat)) (L.ends.map fun (i : Nat) => V.int i)) = decide (cp.getD m 0 ∈ L.ends) := by
            rw [if_neg Bool.false_ne_true, inV_ends _ _ (by omega)]; rfl
          refine ⟨rfl, _, rfl, _, rfl, aC, _, _, _, rfl, rfl, .inl hCm, atI_nat hcx, _, rfl, aE, _, rfl, .inr hEm, rfl, by rw [List.all_map]; exact List.all_eq_true.mpr fun _ _ => rfl, _, congrArg V.bl ein, ite2 (fun c1 => ?_) (fun c1 => ?_)⟩
          · have c1 : cp.getD m 0 ∈ L.ends := by simpa using c1
            exact ⟨_, rfl, pv.push (fun _ _ e => e) rfl (d := .int (m : Nat)) (if_pos c1) (.int _) (by omega)⟩
          · have c1 : ¬ cp.getD m 0 ∈ L.ends := by simpa using c1
            exact pv.skip (fun _ _ e => e) rfl (if_neg c1)
        rw [Int.toNat_natCast, cpn] at pv
        have s8 := pv.base
        obtain ⟨_, acc2, hacc2, _, him2⟩ := pv
        have eE : (List.range cp.length).filterMap (fun m => if cp.getD m 0 ∈ L.ends then some (PyData.int (m : Nat)) else none) = (copyEnds L cp).map fun (e : Nat) => PyData.int e := by
          unfold copyEnds
          generalize List.range cp.length = l
          induction l with
          | nil => rfl
          | cons a l ih =>
            rw [List.filterMap_cons, List.filter_cons]
            by_cases h : cp.getD a 0 ∈ L.ends
            · rw [if_pos h, decide_eq_true h, if_pos rfl, List.map_cons, ih]
            · rw [if_neg h, decide_eq_false h, if_neg Bool.false_ne_true, ih]
        rw [eE] at him2
        have him2 := him2.mono (hide_same _ _)
        have ht1 := s8 _ _ ht1
        have iR8 := iR7.mono (hide_mono (L := [D]) s8)
        refine ⟨D4, acc2, rfl, .inl ⟨SqL.of hacc2, fun t2 nt2 => ?_⟩⟩
        have s9 := same_new (o := .tup acc2) nt2
        have ht2 : upd H8 t2 (.tup acc2) t2 = some (.tup acc2) := upd_same
        have him2 := him2.mono s9
        have ht1 := s9 _ _ ht1
        have iR9 := iR8.mono (hide_mono (L := [D]) s9)
        generalize upd H8 t2 (.tup acc2) = H9 at s9 ht1 ht2 him2 iR9
        refine ⟨szle (Nat.le_trans (Nat.le_refl 2) (by decide)), fun t3 nt3 => ?_⟩
        have s10 := same_new (o := .tup [.ref t1, .ref t2]) nt3
        have ht3 : upd H9 t3 (.tup [.ref t1, .ref t2]) t3 = some (.tup [.ref t1, .ref t2]) := upd_same
        have him2 := him2.mono s10
        have ht1 := s10 _ _ ht1
        have ht2 := s10 _ _ ht2
        have iR10 := iR9.mono (hide_mono (L := [D]) s10)
        generalize upd H9 t3 (.tup [.ref t1, .ref t2]) = H10 at s10 ht1 ht2 ht3 him2 iR10
        have s7A := (s8.trans s9).trans s10
        have hD10 := hD7.mono s7A
        have hDD := hD10
        obtain ⟨_, _, _, _, _, g1, _⟩ := hDD
        have ne : ∀ {t : Addr} {xs : List V}, H10 t = some (.tup xs) → hide [D] H10 t = some (.tup xs) := fun {t xs} h => by
          rw [hide_out (by simp; intro e; rw [e, g1] at h; cases h)]; exact h
        have nL : ∀ p ∈ [D], ∀ xs, H10 p ≠ some (.tup xs) := fun p hp xs e => by rw [List.mem_singleton.mp hp, g1] at e; cases e
        have iE10 : Ims (hide [D] H10) acc2 ((copyEnds L cp).map fun (e : Nat) => PyData.int e) := Ims.hid nL him2 (noLs_all fun d hd => by obtain ⟨_, _, rfl⟩ := List.mem_map.mp hd; rfl)
        have sF : Same (hide [D] H) (hide [D] H10) := (s4.trans s4A).trans (hide_mono s7A)
        exact k ⟨rows, copyEnds L cp⟩ (.ref t3) H10 (copy_ok okL cp0 (by omega) (fun x hx => (cmem x).mp hx) rl cpr) (by show rows.length ≤ 12; omega) rsm2 sF hD10 (Im.pair (x := .ref t1) (y := .ref t2) (ne ht3) (.tup (ne ht1) iR10) (.tup (ne ht2) iE10))
end
end Tk
set_option maxHeartbeats 4000000
set_option pp.maxSteps 2500
/-! rows as lists, ends as a list: what _law_changed works at -/
namespace Tk
open PySem L2
def RowB (b n : Nat) (r : Row) : Prop := (r.map (·.1)).Pairwise (· < ·) ∧ (∀ p ∈ r, okSign p.1 = true ∧ p.2 < n) ∧ r.length ≤ b
theorem RowB.mono {b b' n : Nat} {r : Row} (h : RowB b n r) (hb : b ≤ b') : RowB b' n r := ⟨h.1, h.2.1, Nat.le_trans h.2.2 hb⟩
def RowsAt (G H : Hp) (qs : List Addr) (rows : List Row) : Prop := qs.length = rows.length ∧ ∀ (i : Nat) (q : Addr) (r : Row), qs[i]? = some q → rows[i]? = some r → ∃ xs, H q = some (.lst xs) ∧ Ims G xs (r.map pairD)
theorem RowsAt.mono {G G' H H' : Hp} {qs : List Addr} {rows : List Row} (h : RowsAt G H qs rows) (s : Same G G') (e : ∀ q ∈ qs, ∀ o, H q = some o → H' q = some o) : RowsAt G' H' qs rows := ⟨h.1, fun i q r hq hr => by
  obtain ⟨xs, h1, h2⟩ := h.2 i q r hq hr
  exact ⟨xs, e q (List.mem_of_getElem? hq) _ h1, h2.mono s⟩⟩
theorem DrawO.notin {c : Addr} {cells : List Int} {W : List Addr} {H : Hp} {D : Addr} (h : DrawO c cells (hide W H) D) : D ∉ W := by
  obtain ⟨_, _, _, _, _, g1, _⟩ := h
  exact (hide_some g1).1
theorem first_at {x : Int} : ∀ {l : List Int}, x ∈ l → ∃ j, l[j]? = some x ∧ ∀ m : Nat, m < j → l[m]? ≠ some x
  | [], h => by cases h
  | a :: l, h => by
    by_cases e : a = x
    · exact ⟨0, by simp [e], fun m hm => absurd hm (Nat.not_lt_zero _)⟩
    · have : x ∈ l := by
        rcases List.mem_cons.mp h with q | q
        · exact absurd q.symm e
        · exact q
      obtain ⟨j, h1, h2⟩ := first_at this
      refine ⟨j + 1, by simpa using h1, fun m hm => ?_⟩
      cases m with
      | zero => simpa using e
      | succ m => simpa using h2 m (by omega)
theorem nodup_at {l : List Addr} : l.Nodup ↔ ∀ (i j : Nat) (x : Addr), i < j → l[i]? = some x → l[j]? = some x → False := by
  unfold List.Nodup
  rw [List.pairwise_iff_getElem]
  constructor
  · intro h i j x hij h1 h2
    obtain ⟨a1, a2⟩ := List.getElem?_eq_some_iff.mp h1
    obtain ⟨b1, b2⟩ := List.getElem?_eq_some_iff.mp h2
    exact h i j a1 b1 hij (a2.trans b2.symm)
  · intro h i j hi hj hij e
    exact h i j l[i] hij (List.getElem?_eq_getElem hi) (by rw [e]; exact List.getElem?_eq_getElem hj)
theorem nodup_inj {l : List Addr} (h : l.Nodup) {i j : Nat} {x : Addr} (h1 : l[i]? = some x) (h2 : l[j]? = some x) : i = j := by
  rcases Nat.lt_trichotomy i j with e | e | e
  · exact (nodup_at.mp h i j x e h1 h2).elim
  · exact e
  · exact (nodup_at.mp h j i x e h2 h1).elim
structure ChS (c : Addr) (cells : List Int) (D : Addr) (H0 : Hp) (aR aE : Addr) (n b : Nat) (W qs : List Addr) (rows : List Row) (es : List Nat) (H : Hp) : Prop where
  base : Same (hide [D] H0) (hide (D :: W) H)
  dr : DrawO c cells (hide W H) D
  hR : H aR = some (.lst (qs.map V.ref))
  hE : H aE = some (.lst (nV es))
  inR : aR ∈ W
  inE : aE ∈ W
  inQ : ∀ q ∈ qs, q ∈ W
  noT : ∀ q ∈ W, ∃ xs, H q = some (.lst xs)
  nRE : aR ≠ aE
  nR : aR ∉ qs
  nE : aE ∉ qs
  nd : qs.Nodup
  rat : RowsAt (hide (D :: W) H) H qs rows
  len : rows.length = n
  ok : ∀ r ∈ rows, RowB b n r
  elt : ∀ e ∈ es, e < n
  elen : es.length ≤ 14
section
variable {c : Addr} {cells : List Int} {D : Addr} {H0 : Hp} {aR aE : Addr} {n b b' : Nat} {W qs : List Addr} {rows : List Row} {es : List Nat} {H H' : Hp}
theorem ChS.nD (h : ChS c cells D H0 aR aE n b W qs rows es H) : D ∉ W := h.dr.notin
theorem ChS.mono (h : ChS c cells D H0 aR aE n b W qs rows es H) (s : Same H H') : ChS c cells D H0 aR aE n b W qs rows es H' :=
  { h with
    base := h.base.trans (hide_mono s)
    dr := h.dr.mono (hide_mono s)
    hR := s _ _ h.hR
    hE := s _ _ h.hE
    noT := fun q hq => by
      obtain ⟨xs, e⟩ := h.noT q hq
      exact ⟨xs, s _ _ e⟩
    rat := h.rat.mono (hide_mono s) fun q _ o e => s _ _ e }
theorem turn_keep {q : Addr} {o : HO} (nD : D ∉ W) (hq : q ∈ W) (s : Same (hide [D] H) (hide [D] H')) (e : H q = some o) : H' q = some o :=
  hide_same _ _ _ _ (s _ _ (by rw [hide_out (by simp; exact fun e => nD (e ▸ hq))]; exact e))
theorem ChS.turn (h : ChS c cells D H0 aR aE n b W qs rows es H) (s : Same (hide [D] H) (hide [D] H')) (hD : DrawO c cells H' D) : ChS c cells D H0 aR aE n b W qs rows es H' :=
  have sW : Same (hide (D :: W) H) (hide (D :: W) H') := hide_wide s (by simp)
  { h with
    base := h.base.trans sW
    dr := h.dr.hid hD
    hR := turn_keep h.nD h.inR s h.hR
    hE := turn_keep h.nD h.inE s h.hE
    noT := fun q hq => by
      obtain ⟨xs, e⟩ := h.noT q hq
      exact ⟨xs, turn_keep h.nD hq s e⟩
    rat := h.rat.mono sW fun q hq o e => turn_keep h.nD (h.inQ q hq) s e }
theorem ChS.wider (h : ChS c cells D H0 aR aE n b W qs rows es H) (hb : b ≤ b') : ChS c cells D H0 aR aE n b' W qs rows es H := { h with ok := fun r hr => (h.ok r hr).mono hb }
theorem noT_upd {q : Addr} {ys : List V} (h : ∀ p ∈ W, ∃ xs, H p = some (.lst xs)) : ∀ p ∈ W, ∃ xs, upd H q (.lst ys) p = some (.lst xs) := fun p hp => by
  by_cases e : p = q
  · subst e; exact ⟨_, upd_same⟩
  · obtain ⟨xs, e2⟩ := h p hp
    exact ⟨xs, (upd_ne e).trans e2⟩
theorem ChS.ends (h : ChS c cells D H0 aR aE n b W qs rows es H) {es' : List Nat} (hl : ∀ e ∈ es', e < n) (hn : es'.length ≤ 14) : ChS c cells D H0 aR aE n b W qs rows es' (upd H aE (.lst (nV es'))) :=
  have m1 : hide (D :: W) (upd H aE (.lst (nV es'))) = hide (D :: W) H := hide_mut (List.mem_cons_of_mem _ h.inE)
  have m2 : hide W (upd H aE (.lst (nV es'))) = hide W H := hide_mut h.inE
  { h with
    base := by rw [m1]; exact h.base
    dr := by rw [m2]; exact h.dr
    hR := (upd_ne h.nRE).trans h.hR
    hE := upd_same
    noT := noT_upd h.noT
    rat := by
      rw [m1]
      exact h.rat.mono (fun _ _ e => e) fun q hq o e => (upd_ne (fun z : q = aE => h.nE (z ▸ hq))).trans e
    elt := hl
    elen := hn }
theorem ChS.row (h : ChS c cells D H0 aR aE n b W qs rows es H) {st : Nat} {q : Addr} {xs : List V} {r : Row} (hq : qs[st]? = some q) (hr : RowB b n r) (hi : Ims (hide (D :: W) H) xs (r.map pairD)) :
    ChS c cells D H0 aR aE n b W qs (rows.set st r) es (upd H q (.lst xs)) :=
  have hm := List.mem_of_getElem? hq
  have hW := h.inQ q hm
  have m1 : hide (D :: W) (upd H q (.lst xs)) = hide (D :: W) H := hide_mut (List.mem_cons_of_mem _ hW)
  have m2 : hide W (upd H q (.lst xs)) = hide W H := hide_mut hW
  { h with
    base := by rw [m1]; exact h.base
    dr := by rw [m2]; exact h.dr
    hR := (upd_ne (fun z : aR = q => h.nR (z ▸ hm))).trans h.hR
    hE := (upd_ne (fun z : aE = q => h.nE (z ▸ hm))).trans h.hE
    noT := noT_upd h.noT
    rat := by
      rw [m1]
      refine ⟨by rw [List.length_set]; exact h.rat.1, fun i q' r' h1 h2 => ?_⟩
      by_cases e : i = st
      · subst e
        rw [hq] at h1
        cases h1
        have hl : i < rows.length := by rw [← h.rat.1]; exact (List.getElem?_eq_some_iff.mp hq).1
        rw [List.getElem?_set_self hl] at h2
        cases h2
        exact ⟨xs, upd_same, hi⟩
      · rw [List.getElem?_set_ne (Ne.symm e)] at h2
        obtain ⟨ys, g1, g2⟩ := h.rat.2 i q' r' h1 h2
        refine ⟨ys, (upd_ne fun z => e ?_).trans g1, g2⟩
        subst z
        exact nodup_inj h.nd h1 hq
    len := by rw [List.length_set]; exact h.len
    ok := fun r' h' => by
      rcases List.mem_or_eq_of_mem_set h' with z | z
      · exact h.ok r' z
      · rw [z]; exact hr }
/-- a new list beside -/
theorem ChS.new (h : ChS c cells D H0 aR aE n b W qs rows es H) {p : Addr} {xs : List V} (hp : H p = none) : ChS c cells D H0 aR aE n b (p :: W) qs rows es (upd H p (.lst xs)) :=
  have s1 : Same (hide (D :: W) H) (hide (D :: p :: W) (upd H p (.lst xs))) := fun z o e => by
    obtain ⟨q1, q2⟩ := hide_some e
    have := ne_of_none q2 hp
    rw [hide_out (by simp at q1 ⊢; exact ⟨q1.1, this, q1.2⟩), upd_ne this]; exact q2
  have s2 : Same H (upd H p (.lst xs)) := same_new hp
  { h with
    base := h.base.trans s1
    dr := h.dr.mono (hide_grow hp)
    hR := s2 _ _ h.hR
    hE := s2 _ _ h.hE
    inR := List.mem_cons_of_mem _ h.inR
    inE := List.mem_cons_of_mem _ h.inE
    inQ := fun q hq => List.mem_cons_of_mem _ (h.inQ q hq)
    noT := fun q hq => by
      rcases List.mem_cons.mp hq with e | e
      · subst e; exact ⟨_, upd_same⟩
      · obtain ⟨ys, g⟩ := h.noT q e
        exact ⟨ys, s2 _ _ g⟩
    rat := h.rat.mono s1 fun q _ o e => s2 _ _ e }
theorem ChS.put (h : ChS c cells D H0 aR aE n b W qs rows es H) {st : Nat} {q : Addr} {xs : List V} {r : Row} (hst : st < n) (hq : H q = some (.lst xs)) (hW : q ∈ W) (nq : q ∉ qs) (q1 : aR ≠ q) (q2 : aE ≠ q) (hr : RowB b n r) (hi : Ims (hide (D :: W) H) xs (r.map pairD)) :
    ChS c cells D H0 aR aE n b W (qs.set st q) (rows.set st r) es (upd H aR (.lst ((qs.map V.ref).set st (.ref q)))) :=
  have m1 : hide (D :: W) (upd H aR (.lst ((qs.map V.ref).set st (.ref q)))) = hide (D :: W) H := hide_mut (List.mem_cons_of_mem _ h.inR)
  have m2 : hide W (upd H aR (.lst ((qs.map V.ref).set st (.ref q)))) = hide W H := hide_mut h.inR
  have mem : ∀ x, x ∈ qs.set st q → x ∈ qs ∨ x = q := fun x hx => List.mem_or_eq_of_mem_set hx
  { h with
    base := by rw [m1]; exact h.base
    dr := by rw [m2]; exact h.dr
    hR := by rw [upd_same, List.map_set]
    hE := (upd_ne h.nRE.symm).trans h.hE
    inQ := fun x hx => (mem x hx).elim (h.inQ x) fun e => e ▸ hW
    noT := noT_upd h.noT
    nR := fun hx => (mem _ hx).elim h.nR q1
    nE := fun hx => (mem _ hx).elim h.nE q2
    nd := by
      refine nodup_at.mpr fun i j x hij e1 e2 => ?_
      rw [List.getElem?_set] at e1 e2
      split at e1
      · rw [if_neg (by omega)] at e2
        split at e1
        · cases e1
          exact nq (List.mem_of_getElem? e2)
        · cases e1
      · split at e2
        · split at e2
          · cases e2
            exact nq (List.mem_of_getElem? e1)
          · cases e2
        · exact nodup_at.mp h.nd i j x hij e1 e2
    rat := by
      rw [m1]
      refine ⟨by rw [List.length_set, List.length_set]; exact h.rat.1, fun i q' r' h1 h2 => ?_⟩
      by_cases e : i = st
      · subst e
        have hl : i < rows.length := by rw [h.len]; exact hst
        rw [List.getElem?_set_self (by rw [h.rat.1]; exact hl)] at h1
        rw [List.getElem?_set_self hl] at h2
        cases h1
        cases h2
        exact ⟨xs, (upd_ne q1.symm).trans hq, hi⟩
      · rw [List.getElem?_set_ne (Ne.symm e)] at h1 h2
        obtain ⟨ys, g1, g2⟩ := h.rat.2 i q' r' h1 h2
        exact ⟨ys, (upd_ne (fun z : q' = aR => h.nR (z ▸ List.mem_of_getElem? h1))).trans g1, g2⟩
    len := by rw [List.length_set]; exact h.len
    ok := fun r' h' => by
      rcases List.mem_or_eq_of_mem_set h' with z | z
      · exact h.ok r' z
      · rw [z]; exact hr }
/-- the row of a state -/
theorem ChS.at_ (h : ChS c cells D H0 aR aE n b W qs rows es H) {st : Nat} (hst : st < n) : ∃ (q : Addr) (r : Row) (xs : List V), qs[st]? = some q ∧ (qs.map V.ref)[st]? = some (.ref q) ∧ q ∈ qs ∧ rows[st]? = some r ∧ RowB b n r ∧ H q = some (.lst xs) ∧ Ims (hide (D :: W) H) xs (r.map pairD) ∧ xs.length = r.length := by
  have hl : st < rows.length := by rw [h.len]; exact hst
  have hq : st < qs.length := by rw [h.rat.1]; exact hl
  have e1 := List.getElem?_eq_getElem hl
  have e2 := List.getElem?_eq_getElem hq
  obtain ⟨xs, g1, g2⟩ := h.rat.2 _ _ _ e2 e1
  exact ⟨_, _, xs, e2, by rw [List.getElem?_map, e2]; rfl, List.mem_of_getElem? e2, e1, h.ok _ (List.mem_of_getElem? e1), g1, g2, by rw [g2.len, List.length_map]⟩
theorem ChS.hideT (h : ChS c cells D H0 aR aE n b W qs rows es H) : ∀ p ∈ D :: W, ∀ xs, H p ≠ some (.tup xs) := fun p hp xs e => by
  rcases List.mem_cons.mp hp with z | z
  · subst z
    obtain ⟨_, _, _, _, _, g1, _⟩ := h.dr
    rw [(hide_some g1).2] at e; cases e
  · obtain ⟨ys, g⟩ := h.noT p z
    rw [g] at e; cases e
theorem ChS.fresh (h : ChS c cells D H0 aR aE n b W qs rows es H) {t : Addr} (ht : H t = none) : t ∉ D :: W := fun z => by
  rcases List.mem_cons.mp z with e | e
  · subst e
    obtain ⟨_, _, _, _, _, g1, _⟩ := h.dr
    rw [(hide_some g1).2] at ht; cases ht
  · obtain ⟨ys, g⟩ := h.noT t e
    rw [g] at ht; cases ht
theorem ChS.qlen (h : ChS c cells D H0 aR aE n b W qs rows es H) : qs.length = n := h.rat.1.trans h.len
end
def leP (p q : Nat × Nat) : Bool := decide (p.1 < q.1 ∨ (p.1 = q.1 ∧ p.2 ≤ q.2))
theorem dataLe_pairD (p q : Nat × Nat) : PySem.W.dataLe false id (pairD p) (pairD q) = leP p q := by
  show (!PySem.W.dataLt (pairD q) (pairD p)) = _
  unfold pairD
  rw [PySem.W.dataLt_pair rfl rfl, PySem.W.dataLt_int, dataLt_sgn, eqv_sgn]
  unfold leP
  have e : PyData.eqv (.int (q.2 : Nat)) (.int (p.2 : Nat)) = decide (q.2 = p.2) := by
    show ((q.2 : Int) == (p.2 : Int)) = _
    by_cases h : q.2 = p.2
    · rw [h]; simp
    · rw [decide_eq_false h]
      have : ¬ ((q.2 : Int) = (p.2 : Int)) := by omega
      simpa using this
  rw [e]
  by_cases h1 : q.1 = p.1
  · rw [decide_eq_true h1, if_pos rfl]
    by_cases h2 : q.2 = p.2
    · rw [decide_eq_true h2, if_pos rfl]
      symm
      simp [h1, h2]
    · rw [decide_eq_false h2, if_neg Bool.false_ne_true]
      by_cases h3 : (q.2 : Int) < (p.2 : Int)
      · rw [decide_eq_true h3, decide_eq_false (by omega)]; rfl
      · rw [decide_eq_false h3, decide_eq_true (by omega)]; rfl
  · rw [decide_eq_false h1, if_neg Bool.false_ne_true]
    by_cases h3 : q.1 < p.1
    · rw [decide_eq_true h3, decide_eq_false (by omega)]; rfl
    · rw [decide_eq_false h3, decide_eq_true (by omega)]; rfl
theorem sort_pairs (l : List (Nat × Nat)) : (l.map pairD).mergeSort (PySem.W.dataLe false id) = (l.mergeSort leP).map pairD :=
  (List.map_mergeSort fun a _ b _ => (dataLe_pairD a b).symm).symm
theorem leP_trans : ∀ a b c : Nat × Nat, leP a b = true → leP b c = true → leP a c = true := fun a b c h1 h2 => by
  unfold leP at *; simp only [decide_eq_true_eq] at *; omega
theorem leP_total : ∀ a b : Nat × Nat, (leP a b || leP b a) = true := fun a b => by
  unfold leP; simp only [Bool.or_eq_true, decide_eq_true_eq]; omega
/-- a pair more, in order -/
theorem row_more {b n : Nat} {r : Row} (h : RowB b n r) {ch k : Nat} (hc : okSign ch = true) (hk : k < n) (hno : ch ∉ r.map (·.1)) : RowB (b + 1) n ((r ++ [(ch, k)]).mergeSort leP) := by
  have hp := List.mergeSort_perm (r ++ [(ch, k)]) leP
  refine ⟨?_, fun p hp' => ?_, by rw [List.length_mergeSort, List.length_append]; have := h.2.2; simp; omega⟩
  · refine strict_of ?_ ?_
    · have := List.pairwise_mergeSort leP_trans leP_total (r ++ [(ch, k)])
      rw [List.pairwise_map]
      refine this.imp fun q => ?_
      unfold leP at q
      unfold leN
      simp only [decide_eq_true_eq] at *
      omega
    · refine (hp.map (·.1)).nodup_iff.mpr ?_
      · rw [List.map_append, List.nodup_append]
        refine ⟨h.1.imp fun h => by omega, by simp, fun x hx y hy e => ?_⟩
        have : y = ch := by simpa using hy
        rw [e, this] at hx
        exact hno hx
  · have := hp.mem_iff.mp hp'
    rcases List.mem_append.mp this with q | q
    · exact h.2.1 p q
    · rw [List.mem_singleton.mp q]; exact ⟨hc, hk⟩
theorem row_less {b n : Nat} {r : Row} (h : RowB b n r) (k : Nat) : RowB b n (r.eraseIdx k) :=
  ⟨h.1.sublist ((List.eraseIdx_sublist r k).map _), fun p hp => h.2.1 p ((List.eraseIdx_sublist r k).subset hp), Nat.le_trans (List.eraseIdx_sublist r k).length_le h.2.2⟩
theorem row_other {b n : Nat} {r : Row} (h : RowB b n r) {k z : Nat} {p : Nat × Nat} (hp : r[k]? = some p) (hz : z < n) : RowB b n (r.set k (p.1, z)) := by
  refine ⟨?_, fun q hq => ?_, by rw [List.length_set]; exact h.2.2⟩
  · have : (r.set k (p.1, z)).map (·.1) = r.map (·.1) := by
      rw [List.map_set]
      refine List.ext_getElem? fun i => ?_
      rw [List.getElem?_set]
      split
      · rename_i e
        subst e
        rw [List.getElem?_map, hp]
        have := (List.getElem?_eq_some_iff.mp hp).1
        rw [if_pos (by simpa using this)]; rfl
      · rfl
    rw [this]; exact h.1
  · rcases List.mem_or_eq_of_mem_set hq with e | e
    · exact h.2.1 q e
    · rw [e]
      exact ⟨(h.2.1 p (List.mem_of_getElem? hp)).1, hz⟩
theorem inV_sgs (ch : Nat) (r : Row) : inV (.str (sgS ch)) (r.map fun p => V.str (sgS p.1)) = decide (ch ∈ r.map (·.1)) := by
  unfold inV
  rw [Bool.eq_iff_iff, List.any_eq_true, decide_eq_true_eq]
  constructor
  · rintro ⟨y, hy, e⟩
    obtain ⟨p, hp, rfl⟩ := List.mem_map.mp hy
    have e : sgS p.1 = sgS ch := by simpa [eqV] using e
    have e2 : p.1 = ch := kS_inj (congrArg Sum.inr e)
    exact List.mem_map.mpr ⟨p, hp, e2⟩
  · intro hi
    obtain ⟨p, hp, e⟩ := List.mem_map.mp hi
    exact ⟨_, List.mem_map.mpr ⟨p, hp, rfl⟩, by rw [e]; simp [eqV]⟩
theorem flat_sgs (r : Row) : (r.map fun p => V.str (sgS p.1)).all flatV = true := by
  rw [List.all_map]; exact List.all_eq_true.mpr fun _ _ => rfl
theorem flat_nV (es : List Nat) : (nV es).all flatV = true := by
  unfold nV; rw [List.all_map]; exact List.all_eq_true.mpr fun _ _ => rfl
theorem Ims.erase {G : Hp} : ∀ {vs : List V} {ds : List PyData} (k : Nat), Ims G vs ds → Ims G (vs.eraseIdx k) (ds.eraseIdx k)
  | _, _, _, .nil => .nil
  | _, _, 0, .cons h t => t
  | _, _, k + 1, .cons h t => .cons h (Ims.erase k t)
theorem Ims.set {G : Hp} {v : V} {d : PyData} (hv : Im G v d) : ∀ {vs : List V} {ds : List PyData} (k : Nat), Ims G vs ds → Ims G (vs.set k v) (ds.set k d)
  | _, _, _, .nil => .nil
  | _, _, 0, .cons h t => .cons hv t
  | _, _, k + 1, .cons h t => .cons h (Ims.set hv k t)
theorem nats_of : ∀ {ns : List Int}, (∀ k ∈ ns, 0 ≤ k) → ∃ es : List Nat, ns = es.map fun (e : Nat) => (e : Int)
  | [], _ => ⟨[], rfl⟩
  | a :: l, h => by
    obtain ⟨es, e⟩ := nats_of (ns := l) fun k hk => h k (List.mem_cons_of_mem _ hk)
    refine ⟨a.toNat :: es, ?_⟩
    have := h a (List.mem_cons_self ..)
    rw [List.map_cons, ← e]
    congr 1
    omega
end Tk
set_option maxHeartbeats 4000000
set_option pp.maxSteps 2500
/-! _law_changed -/
namespace Tk
open PySem L2
def scIn_changed : Scope := relS { kind := .function, names := [((".0" : Str), .local), (("_law_sign" : Str), .local), (("_law_rows" : Str), .free), (("_law_state" : Str), .free)], isGenerator := false, isCoroutine := false } (defScope (top 40))
theorem call_list_lt {X : Cx} : CallR X (.type "list") (fun xs H Q => ∃ p ys, xs = [.ref p] ∧ (H p = some (.lst ys) ∨ H p = some (.tup ys)) ∧ ∀ l, H l = none → Q (.ref l) (upd H l (.lst ys))) := by
  intro pins s σ H xs us Q I r h
  obtain ⟨p, ys, rfl, hq, q⟩ := h
  exact call_list_of pins s σ H _ us Q I r ⟨p, ys, rfl, hq.elim (fun z => .inl (SqL.of z)) (fun z => .inr (SqT.of z)), q⟩
theorem call_tuple_l {X : Cx} : CallR X (.type "tuple") (fun xs H Q => ∃ p ys, xs = [.ref p] ∧ H p = some (.lst ys) ∧ ∀ l, H l = none → Q (.ref l) (upd H l (.tup ys))) := by
  intro pins s σ H xs us Q I r h
  obtain ⟨p, ys, rfl, hq, q⟩ := h
  exact call_tuple_of pins s σ H _ us Q I r ⟨p, ys, rfl, .inl ⟨SqL.of hq, q⟩⟩
theorem cr_setL2 {X : Cx} (hc : X.calm = true) : CallR X (.type "set") (fun xs H Q => ∃ (a : Addr) (ns : List Int), xs = [.ref a] ∧ H a = some (.lst (ns.map V.int)) ∧ ns.length ≤ 1000 ∧ ∀ p c H', H p = none → c ≤ ns.length → H' = upd H p (SetO X.w p (fun j => decide (j ∈ ns)) c) → Q (.ref p) H') := by
  intro pins s σ H xs us Q I r h
  obtain ⟨a, ns, rfl, hq, hl, q⟩ := h
  exact cr_setL hc pins s σ H _ us Q I r ⟨a, ns, rfl, SqL.of hq, hl, fun p c h1 h2 => q p c _ h1 h2 rfl⟩
/-- [pair[0] for pair in rows[state]] -/
def tNames : TE := fun σ H Q => ∃ (aR q : Addr) (st : Nat) (ys xs : List V) (r : Row) (s0 s1 s2 s4 s6 s7 s8 s9 s10 s11 s12 : Option V), σ = [s0, s1, s2, some (.ref aR), s4, some (.int st), s6, s7, s8, s9, s10, s11, s12] ∧ H aR = some (.lst ys) ∧ ys[st]? = some (.ref q) ∧ H q = some (.lst xs) ∧ Ims H xs (r.map pairD) ∧ r.length ≤ 100 ∧
  ∀ aG G, H aG = none → Same H G → G aG = some (.lst (r.map fun p => V.str (sgS p.1))) → Q (.ref aG) G
/-- what the chain of ifs does -/
def tChg : TS := fun E σ H => ∃ (c : Addr) (cells : List Int) (D : Addr) (H0 : Hp) (aR aE : Addr) (n st way : Nat) (W qs : List Addr) (rows : List Row) (es cs : List Nat) (s1 s7 s8 s9 s10 s11 s12 : Option V), σ = [some (.ref D), s1, some (.str ⟨cs.toArray⟩), some (.ref aR), some (.ref aE), some (.int st), some (.int way), s7, s8, s9, s10, s11, s12] ∧
  ChS c cells D H0 aR aE n 11 W qs rows es H ∧ st < n ∧ n ≤ 12 ∧ es.length ≤ 12 ∧ (∀ c ∈ cs, okSign c = true) ∧ cs.length ≤ 10 ∧
  ∀ (s7 s8 : Option V) (W qs : List Addr) (rows : List Row) (es : List Nat) (H' : Hp), ChS c cells D H0 aR aE n 12 W qs rows es H' → E.nx [some (.ref D), s1, some (.str ⟨cs.toArray⟩), some (.ref aR), some (.ref aE), some (.int st), some (.int way), s7, s8, s9, s10, s11, s12] H'
section
variable {P : Program} {w : World} {K : PySem.W.Frag} {mg : Str → Option Value} {base : Heap}
def spChanged : Sp := fun vs H Q _ => ∃ (c : Addr) (cells : List Int) (D : Addr) (v : V) (L : Pl) (cs : List Nat), vs = [.ref D, v, .str ⟨cs.toArray⟩] ∧ DrawO c cells H D ∧ Im (hide [D] H) v L.d ∧ L.Ok ∧ L.rows.length ≤ 12 ∧ (∀ r ∈ L.rows, r.length ≤ 11) ∧ (∀ c ∈ cs, okSign c = true) ∧ cs.length ≤ 10 ∧
  ∀ (M : Pl) (u : V) H', M.Ok → M.rows.length ≤ 12 → Same (hide [D] H) (hide [D] H') → DrawO c cells H' D → Im (hide [D] H') u M.d → Q u H'
theorem ok_changed (T : Fx K mg) : FnOk P w K mg base CX0 3 T.a_changed T.d_changed ["_law_draw_here", "_law_plan_here", "_law_signs"] spChanged := by
  refine T.F_changed.ok sc_changed (fun vs H Q E h => ?_) (fun cdv A outer s H vs Q E hr h => ?_)
  · obtain ⟨_, _, D, v, L, cs, rfl, _⟩ := h; rfl
  obtain ⟨c, cells, D, v, L, cs, rfl, hD, hv, okL, l12, rsm, hcs, csl, k⟩ := h
  have hu := hu_of hr
  obtain ⟨a0, x1, x2, rfl, ha0, i1, i2⟩ := Im.pair_inv (d := L.st) (e := L.en) hv
  obtain ⟨aS, ss, rfl, hS, iS⟩ := i1.tup_inv
  obtain ⟨aN, es0, rfl, hN, iN⟩ := i2.tup_inv
  have sl : ss.length = L.rows.length := by rw [iS.len, List.length_map]
  refine ⟨_, PSs.nox ((pss_cons (ps_set (i := 3) sc_changed.nd rfl (.inr rfl) (pe_lc (own := [("_law_row", 10)]) (by rfl) sc_changed.nd (pi_tup (pe_ix ix_tup (pv 1) pe_int (fun _ _ => rfl))) (blkOk_by (own := [("_law_row", 10)]) (N := ["_law_draw_here", "_law_plan_here", "_law_signs", "_law_rows", "_law_ends", "_law_state", "_law_way", "_law_at", "_law_free", "_law_states", "_law_row", "_law_sign", "_law_pair"]) (sc := defScope (top 40)) (by decide +kernel)) (fun _ _ _ _ _ => (pg_name (i := 10) sc_changed.nd rfl (.inl rfl) (.inr rfl))) (fun _ _ _ _ _ => pts_nil) (fun _ _ _ _ _ => (pe_callTy call_list_lt (by rfl) T.z_list (by decide +kernel) (pa_cons (pv 10) pa_nil)))))
    (pss_cons (ps_set (i := 4) sc_changed.nd rfl (.inl rfl) (pe_callTy call_list_of (by rfl) T.z_list (by decide +kernel) (pa_cons (pe_ix ix_tup (pv 1) pe_int (fun _ _ => rfl)) pa_nil)))
    (pss_cons (ps_set (i := 5) sc_changed.nd rfl (.inr rfl) (pe_call (ok_pick T) (hr.mono (by decide)) (by rfl) T.g_pick T.F_pick.kp T.b_pick .nil pass0 (pa_cons (pv 0) (pa_cons (pe_callB call_len_seq (by rfl) T.z_len (by decide +kernel) (pa_cons (pv 3) pa_nil)) pa_nil))))
    (pss_cons (ps_set (i := 6) sc_changed.nd rfl (.inl rfl) (pe_call (ok_pick T) (hr.mono (by decide)) (by rfl) T.g_pick T.F_pick.kp T.b_pick .nil pass0 (pa_cons (pv 0) (pa_cons pe_int pa_nil))))
    (pss_cons (ps_imp (t' := tChg) (ps_if (PW.pt (pw_and (pt_cmpR op_eq (pv 6) pe_int (nomark _)) (pw_and1 (pt_cmpR op_in_seq (pv 5) (pv 4) (by rfl)))))
      (pss_one (ps_expr (pe_bm PySem.F.plainAttrs_list PySem.F.slot_list_remove PySem.F.type_list_remove mt_remove (pv 4) (pa_cons (pv 5) pa_nil))))
      (pss_one (ps_imp (t' := tChg) (ps_if (PW.pt (pw_or (pt_cmpR op_eq (pv 6) pe_int (nomark _)) (pw_or1 (pt_not (pt_truth (pe_ix ix_list (pv 3) (pv 5) (fun _ _ => rfl)) (by intro _; rfl))))))
        (pss_one (ps_expr (pe_bm PySem.F.plainAttrs_list PySem.F.slot_list_append PySem.F.type_list_append mt_append (pv 4) (pa_cons (pv 5) pa_nil))))
        (pss_one (ps_if (pt_cmpR op_eq (pv 6) pe_int (nomark _))
          (pss_one (ps_expr (pe_bm PySem.F.plainAttrs_list PySem.F.slot_list_pop PySem.F.type_list_pop mt_popAt (pe_ix ix_list (pv 3) (pv 5) (fun _ _ => rfl)) (pa_cons (pe_call (ok_pick T) (hr.mono (by decide)) (by rfl) T.g_pick T.F_pick.kp T.b_pick .nil pass0 (pa_cons (pv 0) (pa_cons (pe_callB call_len_seq (by rfl) T.z_len (by decide +kernel) (pa_cons (pe_ix ix_list (pv 3) (pv 5) (fun _ _ => rfl)) pa_nil)) pa_nil))) pa_nil))))
          (pss_one (ps_if (pt_cmpR op_eq (pv 6) pe_int (nomark _))
            (pss_cons (ps_set (i := 7) sc_changed.nd rfl (.inl rfl) (pe_call (ok_pick T) (hr.mono (by decide)) (by rfl) T.g_pick T.F_pick.kp T.b_pick .nil pass0 (pa_cons (pv 0) (pa_cons (pe_callB call_len_seq (by rfl) T.z_len (by decide +kernel) (pa_cons (pe_ix ix_list (pv 3) (pv 5) (fun _ _ => rfl)) pa_nil)) pa_nil))))
            (pss_one (ps_asg (pe_tup (pa_cons (pe_ix ix_tup (pe_ix ix_list (pe_ix ix_list (pv 3) (pv 5) (fun _ _ => rfl)) (pv 7) (fun _ _ => rfl)) pe_int (fun _ _ => rfl)) (pa_cons (pe_call (ok_pick T) (hr.mono (by decide)) (by rfl) T.g_pick T.F_pick.kp T.b_pick .nil pass0 (pa_cons (pv 0) (pa_cons (pe_callB call_len_seq (by rfl) T.z_len (by decide +kernel) (pa_cons (pv 3) pa_nil)) pa_nil))) pa_nil))) (pg_sub (pe_ix ix_list (pv 3) (pv 5) (fun _ _ => rfl)) (pv 7) set_list))))
            (pss_cons (ps_set (i := 8) sc_changed.nd rfl (.inl rfl) (pe_op op_cat (pe_lc (own := [("_law_sign", 11)]) (by rfl) sc_changed.nd (pi_str (pv 2)) (blkOk_by (own := [("_law_sign", 11)]) (N := ["_law_draw_here", "_law_plan_here", "_law_signs", "_law_rows", "_law_ends", "_law_state", "_law_way", "_law_at", "_law_free", "_law_states", "_law_row", "_law_sign", "_law_pair"]) (sc := defScope (top 40)) (by decide +kernel)) (fun _ _ _ _ _ => (pg_name (i := 11) sc_changed.nd rfl (.inl rfl) (.inr rfl))) (fun _ _ _ _ _ => (pts_one (pt_cmpR op_notInS (pv 11) (pe_imp (t' := tNames) (pe_lc (own := [("_law_pair", 12)]) (by rfl) sc_changed.nd (pi_list (pe_ix ix_lt (pv 3) (pv 5) (fun _ _ => rfl))) (blkOk_by (own := [("_law_pair", 12)]) (N := ["_law_draw_here", "_law_plan_here", "_law_signs", "_law_rows", "_law_ends", "_law_state", "_law_way", "_law_at", "_law_free", "_law_states", "_law_row", "_law_sign", "_law_pair"]) (sc := scIn_changed) (by decide +kernel)) (fun _ _ _ _ _ => (pg_name (i := 12) sc_changed.nd rfl (.inl rfl) (.inr rfl))) (fun _ _ _ _ _ => pts_nil) (fun _ _ _ _ _ => (pe_ix ix_lt (pv 12) pe_int (fun _ _ => rfl)))) ?C3) (by rfl)))) (fun _ _ _ _ _ => (pv 11))) (pe_lst (pa_cons pe_str pa_nil))))
            (pss_one (ps_if (pt_cmpR op_notIn_seq (pe_ix ix_list (pv 8) pe_int (fun _ _ => rfl)) (pe_imp (t' := tNames) (pe_lc (own := [("_law_pair", 12)]) (by rfl) sc_changed.nd (pi_list (pe_ix ix_list (pv 3) (pv 5) (fun _ _ => rfl))) (blkOk_by (own := [("_law_pair", 12)]) (N := ["_law_draw_here", "_law_plan_here", "_law_signs", "_law_rows", "_law_ends", "_law_state", "_law_way", "_law_at", "_law_free", "_law_states", "_law_row", "_law_sign", "_law_pair"]) (sc := defScope (top 40)) (by decide +kernel)) (fun _ _ _ _ _ => (pg_name (i := 12) sc_changed.nd rfl (.inl rfl) (.inr rfl))) (fun _ _ _ _ _ => pts_nil) (fun _ _ _ _ _ => (pe_ix ix_lt (pv 12) pe_int (fun _ _ => rfl)))) ?C4) (by rfl))
              (pss_one (ps_asg (pe_callB (cr_sortedD hr.units) (by rfl) T.z_sorted (by decide +kernel) (pa_cons (pe_op op_cat (pe_ix ix_list (pv 3) (pv 5) (fun _ _ => rfl)) (pe_lst (pa_cons (pe_tup (pa_cons (pe_ix ix_list (pv 8) pe_int (fun _ _ => rfl)) (pa_cons (pe_call (ok_pick T) (hr.mono (by decide)) (by rfl) T.g_pick T.F_pick.kp T.b_pick .nil pass0 (pa_cons (pv 0) (pa_cons (pe_callB call_len_seq (by rfl) T.z_len (by decide +kernel) (pa_cons (pv 3) pa_nil)) pa_nil))) pa_nil))) pa_nil))) pa_nil)) (pg_sub (pv 3) (pv 5) set_list)))
              pss_nil)))))))) ?I2))) ?I1)
    (pss_cons (ps_setLc (i := 9) (own := [("_law_row", 10)]) (by rfl) sc_changed.nd rfl rfl (sw_true rfl rfl rfl (by decide +kernel)) (pi_list (pv 3)) (blkOk_by (own := [("_law_row", 10)]) (N := ["_law_draw_here", "_law_plan_here", "_law_signs", "_law_rows", "_law_ends", "_law_state", "_law_way", "_law_at", "_law_free", "_law_states", "_law_row", "_law_sign", "_law_pair"]) (sc := defScope (top 40)) (by decide +kernel)) (fun _ _ _ _ _ => (pg_name (i := 10) sc_changed.nd rfl (.inl rfl) (.inr rfl))) (fun _ _ _ _ _ => pts_nil) (fun _ _ _ _ _ => (pe_callTy call_tuple_l (by rfl) T.z_tuple (by decide +kernel) (pa_cons (pv 10) pa_nil))))
    (pss_cons (ps_for PassesOwn.never rfl (pi_range1 (by rfl) T.z_range (pa_cons (pe_callB call_len_seq (by rfl) T.z_len (by decide +kernel) (pa_cons (pv 9) pa_nil)) pa_nil)) (pg_name (i := 5) sc_changed.nd rfl (.inr rfl))
      (pss_one (ps_if (pt_not (pt_val (pe_call (ok_reaches T) (hr.mono (by decide)) (by rfl) T.g_reaches T.F_reaches.kp T.b_reaches .nil pass0 (pa_cons (pv 9) (pa_cons (pv 4) (pa_cons (pv 5) pa_nil))))))
        (pss_one (ps_expr (pe_bm PySem.F.plainAttrs_list PySem.F.slot_list_append PySem.F.type_list_append mt_append (pv 4) (pa_cons (pv 5) pa_nil))))
        pss_nil)))
    (pss_one (ps_ret (pe_tup (pa_cons (pe_callTy call_tuple_of (by rfl) T.z_tuple (by decide +kernel) (pa_cons (pv 9) pa_nil)) (pa_cons (pe_callTy call_tuple_of (by rfl) T.z_tuple (by decide +kernel) (pa_cons (pe_callB (cr_sortedSet rfl) (by rfl) T.z_sorted (by decide +kernel) (pa_cons (pe_callTy (cr_setL2 rfl) (by rfl) T.z_set (by decide +kernel) (pa_cons (pv 4) pa_nil)) pa_nil)) pa_nil)) pa_nil))))))))))))), ?_⟩
  case I1 =>
    clear k hD hv okL l12 rsm hcs csl iS iN i1 i2 hS hN ha0 sl
    intro E' σ H h
    obtain ⟨c, cells, D, H0, aR, aE, n, st, way, W, qs, rows, es, cs, s1, s7, s8, s9, s10, s11, s12, rfl, ch, hst, n12, el, hcs, csl, k⟩ := h
    have ein : (if false = true then !inV (.int (st : Nat)) (nV es) else inV (.int (st : Nat)) (nV es)) = decide (st ∈ es) := by
      rw [if_neg Bool.false_ne_true]
      show inV (.int (st : Nat)) (es.map fun (i : Nat) => V.int i) = _
      rw [inV_ends _ _ (by omega)]; rfl
    refine ⟨_, rfl, rfl, _, rfl, ite2 (fun c1 => ?_) (fun c1 => iteF ⟨c, cells, D, H0, aR, aE, n, st, way, W, qs, rows, es, cs, s1, s7, s8, s9, s10, s11, s12, rfl, ch, hst, n12, el, hcs, csl, k⟩)⟩
    refine ⟨_, rfl, _, rfl, aE, _, rfl, .inl (SqL.of ch.hE), rfl, flat_nV es, _, congrArg V.bl ein, ite2 (fun c2 => ?_) (fun c2 => ⟨c, cells, D, H0, aR, aE, n, st, way, W, qs, rows, es, cs, s1, s7, s8, s9, s10, s11, s12, rfl, ch, hst, n12, el, hcs, csl, k⟩)⟩
    have c2 : st ∈ es := by simpa using c2
    have enV : nV es = (es.map fun (x : Nat) => (x : Int)).map V.int := by unfold nV; rw [List.map_map]; rfl
    obtain ⟨j, hj1, hj2⟩ := first_at (List.mem_map.mpr ⟨st, c2, rfl⟩ : (st : Int) ∈ es.map fun (x : Nat) => (x : Int))
    refine ⟨_, rfl, .inl ⟨rfl, _, SqL.of ch.hE⟩, _, rfl, aE, es.map fun (x : Nat) => (x : Int), st, j, rfl, rfl, by rw [← enV]; exact ch.hE, hj1, hj2, ?_⟩
    have eT : ((es.map fun (x : Nat) => (x : Int)).eraseIdx j).map V.int = nV (es.eraseIdx j) := by rw [erase_map]; unfold nV; rw [List.map_map]; rfl
    rw [eT]
    exact k _ _ _ _ _ _ _ ((ch.wider (by decide)).ends (fun e he => ch.elt e ((List.eraseIdx_sublist es j).subset he)) (by have := (List.eraseIdx_sublist es j).length_le; omega))
  case I2 =>
    clear k hD hv okL l12 rsm hcs csl iS iN i1 i2 hS hN ha0 sl
    intro E' σ H h
    obtain ⟨c, cells, D, H0, aR, aE, n, st, way, W, qs, rows, es, cs, s1, s7, s8, s9, s10, s11, s12, rfl, ch, hst, n12, el, hcs, csl, k⟩ := h
    obtain ⟨q, r, xs, hq, hqr, hqm, hr0, rb, hx, ix, xl⟩ := ch.at_ hst
    have eA : nV es ++ [V.int (st : Nat)] = nV (es ++ [st]) := by simp [nV]
    have nvl : (nV es).length = es.length := by unfold nV; rw [List.length_map]
    have chA : ChS c cells D H0 aR aE n 12 W qs rows (es ++ [st]) (upd H aE (.lst (nV (es ++ [st])))) := (ch.wider (by decide)).ends (fun e he => by
      rcases List.mem_append.mp he with z | z
      · exact ch.elt e z
      · rw [List.mem_singleton.mp z]; exact hst) (by rw [List.length_append, List.length_singleton]; omega)
    rw [← eA] at chA
    refine ⟨_, rfl, rfl, _, rfl, ite2 (fun c1 => iteT ?_) (fun c1 => ?_)⟩
    · exact ⟨_, rfl, .inl ⟨rfl, _, SqL.of ch.hE⟩, _, rfl, aE, _, _, rfl, rfl, ch.hE, szlt (by omega), k _ _ _ _ _ _ _ chA⟩
    by_cases xpos : xs = []
    · subst xpos
      exact ⟨_, rfl, _, rfl, aR, _, st, _, rfl, rfl, SqL.of ch.hR, atI_nat hqr, _, truL (SqL.of hx), iteT ⟨_, rfl, .inl ⟨rfl, _, SqL.of ch.hE⟩, _, rfl, aE, _, _, rfl, rfl, ch.hE, szlt (by omega), k _ _ _ _ _ _ _ chA⟩⟩
    have hT : TruV K (.ref q) H true := by
      have := truL (K := K) (SqL.of hx)
      rw [show xs.isEmpty = false by cases xs with | nil => exact absurd rfl xpos | cons _ _ => rfl] at this
      exact this
    have xpos : 0 < xs.length := List.length_pos_iff.mpr xpos
    have r11 := rb.2.2
    refine ⟨_, rfl, _, rfl, aR, _, st, _, rfl, rfl, SqL.of ch.hR, atI_nat hqr, _, hT, iteF ?_⟩
    refine ⟨_, rfl, rfl, _, rfl, ite2 (fun c2 => ?_) (fun c2 => ?_)⟩
    · refine ⟨_, rfl, _, rfl, aR, _, st, _, rfl, rfl, SqL.of ch.hR, atI_nat hqr, .inl ⟨rfl, _, SqL.of hx⟩, _, rfl, _, rfl, _, rfl, aR, _, st, _, rfl, rfl, SqL.of ch.hR, atI_nat hqr, q, _, rfl, .inl (SqL.of hx), c, cells, D, xs.length, rfl, ch.dr.mono (hide_same _ _), xpos, by omega, fun at_ H1 hat s1 hD1 => ?_⟩
      have ch1 := ch.turn s1 hD1
      have hx1 := turn_keep ch.nD (ch.inQ q hqm) s1 hx
      have ix1 := ix.mono (hide_wide (M := D :: W) s1 (by simp))
      have hz : xs[at_]? = some xs[at_] := List.getElem?_eq_getElem hat
      refine ⟨q, xs, _, at_, _, rfl, rfl, hx1, by omega, by omega, (ixN_seq (ixn_nat hat)).1, hz, ?_⟩
      have ixe := ix1.erase at_
      rw [erase_map] at ixe
      exact k _ _ _ _ _ _ _ ((ch1.row hq (row_less rb at_) ixe).wider (by decide))
    refine ⟨_, rfl, rfl, _, rfl, ite2 (fun c3 => ?_) (fun c3 => ?_)⟩
    · refine ⟨_, rfl, _, rfl, _, rfl, aR, _, st, _, rfl, rfl, SqL.of ch.hR, atI_nat hqr, q, _, rfl, .inl (SqL.of hx), c, cells, D, xs.length, rfl, ch.dr.mono (hide_same _ _), xpos, by omega, fun at_ H1 hat s1 hD1 => ?_⟩
      have ch1 := ch.turn s1 hD1
      have hx1 := turn_keep ch.nD (ch.inQ q hqm) s1 hx
      have ix1 := ix.mono (hide_wide (M := D :: W) s1 (by simp))
      have hz : xs[at_]? = some xs[at_] := List.getElem?_eq_getElem hat
      have hatr : at_ < r.length := by omega
      have hrz : r[at_]? = some r[at_] := List.getElem?_eq_getElem hatr
      obtain ⟨d, hdd, him⟩ := ix1.get hz
      generalize xs[at_] = x0 at hz him
      generalize r[at_] = p at hrz
      rw [List.getElem?_map, hrz] at hdd
      cases hdd
      obtain ⟨cc, u1, u2, rfl, hcc, j1, j2⟩ := him.pair_inv
      cases j1.str_inv
      cases j2.int_inv
      have hcc := hide_same _ _ _ _ hcc
      refine ⟨_, rfl, _, rfl, aR, _, st, _, rfl, rfl, SqL.of ch1.hR, atI_nat hqr, _, rfl, q, _, at_, _, rfl, rfl, SqL.of hx1, atI_nat hz, cc, _, 0, _, rfl, rfl, SqT.of hcc, atI_nat (j := 0) rfl, _, rfl, _, rfl, aR, _, rfl, .inl (SqL.of ch1.hR), c, cells, D, n, (by rw [List.length_map, ch1.qlen]; rfl), ch1.dr.mono (hide_same _ _), by omega, by omega, fun z H2 hz2 s2 hD2 => ⟨szle (Nat.le_trans (Nat.le_refl 2) (by decide)), fun t nt => ?_⟩⟩
      have s3 := same_new (o := .tup [.str (sgS p.1), .int (z : Nat)]) nt
      have ch2 := ch1.turn s2 hD2
      have ch3 := ch2.mono s3
      have nt3 := ch2.fresh nt
      have hx2 := turn_keep ch1.nD (ch1.inQ q hqm) s2 hx1
      have hx3 := s3 _ _ hx2
      have ix3 := (ix1.mono (hide_wide (M := D :: W) s2 (by simp))).mono (hide_mono s3)
      refine ⟨_, rfl, _, rfl, aR, _, st, _, rfl, rfl, SqL.of ch3.hR, atI_nat hqr, _, rfl, q, xs, _, at_, rfl, rfl, hx3, ixn_nat hat, ?_⟩
      have him3 : Im (hide (D :: W) (upd H2 t (.tup [.str (sgS p.1), .int (z : Nat)]))) (.ref t) (pairD (p.1, z)) := Im.pair (x := .str (sgS p.1)) (y := .int z) (by rw [hide_out nt3]; exact upd_same) (.str _) (.int _)
      have ixs := Ims.set him3 at_ ix3
      rw [← List.map_set] at ixs
      exact k _ _ _ _ _ _ _ ((ch3.row hq (row_other rb hrz hz2) ixs).wider (by decide))
    refine ⟨_, rfl, ⟨cs.toArray⟩, rfl, fun aF nF => lc_it walk_str (fun i G => Same H (hide [aF] G) ∧ ∃ fs : List Nat, G aF = some (.lst (fs.map fun z => V.str (sgS z))) ∧ fs.length ≤ i ∧ ∀ z ∈ fs, z ∈ cs) ⟨?_, [], upd_same, Nat.le_refl _, fun z h => by cases h⟩ (fun i G _ pv => True.intro) (fun i x G G' hi pv y => ?_) fun H1 pv => ?_⟩
    · rw [hide_mut (by simp)]
      exact fun z o e => by rw [hide_out (by simpa using ne_of_none e nF)]; exact e
    · obtain ⟨rfl, ch0, hc0, rfl⟩ := y
      have hc0 : cs[i]? = some ch0 := by simpa using hc0
      obtain ⟨sF, fs, hF, fl, fm⟩ := pv
      have hi : i < cs.length := hi
      have chG := ch.mono (sF.trans (hide_same _ _))
      have hxG := (sF.trans (hide_same _ _)) _ _ hx
      have ixG := (ix.mono (hide_same _ _)).mono (sF.trans (hide_same _ _))
      refine ⟨rfl, _, rfl, aR, q, st, _, xs, r, _, _, _, _, _, _, _, _, _, _, _, rfl, chG.hR, hqr, hxG, ixG, by omega, fun aG F nG sG hG => ?_⟩
      · refine ⟨aG, _, rfl, .inl hG, rfl, flat_sgs _, _, rfl, ite2 (fun c4 => ?_) (fun c4 => ?_)⟩
        · refine ⟨_, rfl, _, sG _ _ hF, by rw [List.length_map]; exact szlt (by omega), ?_, fs ++ [ch0], ?_, ?_, fun z hz => ?_⟩
          · rw [hide_mut (by simp)]; exact sF.trans (hide_mono sG)
          · rw [upd_same, List.map_append]; rfl
          · rw [List.length_append, List.length_singleton]; omega
          · rcases List.mem_append.mp hz with e | e
            · exact fm z e
            · rw [List.mem_singleton.mp e]; exact List.mem_of_getElem? hc0
        · exact ⟨sF.trans (hide_mono sG), fs, sG _ _ hF, by omega, fm⟩
    obtain ⟨sF, fs, hF, fl, fm⟩ := pv
    have fl : fs.length ≤ cs.length := fl
    have sF := sF.trans (hide_same _ _)
    refine ⟨szle (Nat.le_trans (Nat.le_refl 1) (by decide)), fun aZ nZ => ?_⟩
    have s2 := same_new (o := .lst [.str "z"]) nZ
    have hZ : upd H1 aZ (.lst [.str "z"]) aZ = some (.lst [.str "z"]) := upd_same
    have hF := s2 _ _ hF
    have sF := sF.trans s2
    generalize upd H1 aZ (.lst [.str "z"]) = H2 at s2 hZ hF sF
    refine ⟨aF, aZ, _, _, rfl, rfl, hF, hZ, szle (by rw [List.length_map, List.length_singleton]; omega), fun aH nH => ?_⟩
    have s3 := same_new (o := .lst ((fs.map fun z => V.str (sgS z)) ++ [.str "z"])) nH
    have hH : upd H2 aH (.lst ((fs.map fun z => V.str (sgS z)) ++ [.str "z"])) aH = some (.lst ((fs.map fun z => V.str (sgS z)) ++ [.str "z"])) := upd_same
    have sF := sF.trans s3
    generalize upd H2 aH (.lst ((fs.map fun z => V.str (sgS z)) ++ [.str "z"])) = H3 at s3 hH sF
    have e0 : (fs.map fun z => V.str (sgS z)) ++ [.str "z"] = (fs ++ [122]).map fun z => V.str (sgS z) := by rw [List.map_append]; rfl
    rw [e0] at hH
    obtain ⟨g0, gs, eg, okg⟩ : ∃ g0 gs, fs ++ [122] = g0 :: gs ∧ okSign g0 = true := by
      cases fs with
      | nil => exact ⟨122, [], rfl, by decide⟩
      | cons a l => exact ⟨a, l ++ [122], rfl, hcs a (fm a (List.mem_cons_self ..))⟩
    rw [eg, List.map_cons] at hH
    have ch3 := ch.mono sF
    have hx3 := sF _ _ hx
    have ix3 := (ix.mono (hide_same _ _)).mono sF
    refine ⟨_, rfl, aH, _, 0, _, rfl, rfl, SqL.of hH, atI_nat (j := 0) rfl, aR, q, st, _, xs, r, _, _, _, _, _, _, _, _, _, _, _, rfl, ch3.hR, hqr, hx3, ix3, by omega, fun aG F nG s4 hG => ?_⟩
    have ch4 := ch3.mono s4
    have hx4 := s4 _ _ hx3
    have hH4 := s4 _ _ hH
    have ix4 := ix3.mono s4
    have enot : (if true = true then !inV (.str (sgS g0)) (r.map fun p => V.str (sgS p.1)) else inV (.str (sgS g0)) (r.map fun p => V.str (sgS p.1))) = !decide (g0 ∈ r.map (·.1)) := by
      rw [if_pos rfl, inV_sgs]
    refine ⟨aG, _, rfl, .inl (SqL.of hG), rfl, flat_sgs _, _, congrArg V.bl enot, ite2 (fun c5 => ?_) (fun c5 => k _ _ _ _ _ _ _ (ch4.wider (by decide)))⟩
    have c5 : g0 ∉ r.map (·.1) := by simpa using c5
    refine ⟨_, rfl, _, rfl, aR, _, st, _, rfl, rfl, SqL.of ch4.hR, atI_nat hqr, _, rfl, aH, _, 0, _, rfl, rfl, SqL.of hH4, atI_nat (j := 0) rfl, _, rfl, _, rfl, aR, _, rfl, .inl (SqL.of ch4.hR), c, cells, D, n, (by rw [List.length_map, ch4.qlen]; rfl), ch4.dr.mono (hide_same _ _), by omega, by omega, fun z H5 hz s5 hD5 => ⟨szle (Nat.le_trans (Nat.le_refl 2) (by decide)), fun t nt => ⟨szle (Nat.le_trans (Nat.le_refl 1) (by decide)), fun aY nY => ?_⟩⟩⟩
    have ch5 := ch4.turn s5 hD5
    have hx5 := turn_keep ch4.nD (ch4.inQ q hqm) s5 hx4
    have ixh : Ims (hide (D :: W) F) xs (r.map pairD) := ((ix.mono (hide_mono sF)).mono (hide_mono s4))
    have ix5 := ixh.mono (hide_wide (M := D :: W) s5 (by simp))
    have s6 := same_new (o := .tup [.str (sgS g0), .int (z : Nat)]) nt
    have ht6 : upd H5 t (.tup [.str (sgS g0), .int (z : Nat)]) t = some (.tup [.str (sgS g0), .int (z : Nat)]) := upd_same
    have ch6 := ch5.mono s6
    have hx6 := s6 _ _ hx5
    have ix6 := ix5.mono (hide_mono s6)
    generalize upd H5 t (.tup [.str (sgS g0), .int (z : Nat)]) = H6 at s6 ht6 ch6 hx6 ix6 nY
    have s7 := same_new (o := .lst [.ref t]) nY
    have hY7 : upd H6 aY (.lst [.ref t]) aY = some (.lst [.ref t]) := upd_same
    have ch7 := ch6.mono s7
    have hx7 := s7 _ _ hx6
    have ix7 := ix6.mono (hide_mono s7)
    have ht7 := s7 _ _ ht6
    generalize upd H6 aY (.lst [.ref t]) = H7 at s7 hY7 ch7 hx7 ix7 ht7
    refine ⟨q, aY, _, _, rfl, rfl, hx7, hY7, szle (by rw [List.length_singleton]; omega), fun aX nX => ?_⟩
    have s8 := same_new (o := .lst (xs ++ [.ref t])) nX
    have hX8 : upd H7 aX (.lst (xs ++ [.ref t])) aX = some (.lst (xs ++ [.ref t])) := upd_same
    have ch8 := ch7.mono s8
    have ix8 := (ix7.mono (hide_same _ _)).mono s8
    have ht8 := s8 _ _ ht7
    generalize upd H7 aX (.lst (xs ++ [.ref t])) = H8 at s8 hX8 ch8 ix8 ht8
    have ims : Ims H8 (xs ++ [.ref t]) ((r ++ [(g0, z)]).map pairD) := by
      rw [List.map_append]
      exact ix8.snoc (Im.pair (x := .str (sgS g0)) (y := .int z) ht8 (.str _) (.int _))
    have wd : WD ((r ++ [(g0, z)]).map pairD) := fun d hd => by
      obtain ⟨p, _, rfl⟩ := List.mem_map.mp hd
      exact ⟨_, _, rfl⟩
    refine ⟨aX, _, _, rfl, SqL.of hX8, ims, wd.alike, wd.sortable, wd.depth, fun p ws np hws => ?_⟩
    rw [sort_pairs] at hws
    have ch9 := ch8.new (xs := ws) np
    have wd2 : WD (((r ++ [(g0, z)]).mergeSort leP).map pairD) := fun d hd => by
      obtain ⟨p, _, rfl⟩ := List.mem_map.mp hd
      exact ⟨_, _, rfl⟩
    have hws9 := Ims.hid ch9.hideT (hws.mono (same_new (o := .lst ws) np)) wd2.noL
    have nqp : ∀ x ∈ W, x ≠ p := fun x hx e => by
      obtain ⟨ys, g⟩ := ch8.noT x hx
      rw [e, np] at g; cases g
    have hp9 : upd H8 p (.lst ws) p = some (.lst ws) := upd_same
    refine ⟨_, rfl, _, rfl, aR, _, _, st, rfl, rfl, ch9.hR, ixn_nat (by rw [List.length_map, ch9.qlen]; exact hst), ?_⟩
    exact k _ _ _ _ _ _ _ ((ch9.wider (by decide)).put hst hp9 (List.mem_cons_self ..) (fun e => nqp p (ch8.inQ p e) rfl) (nqp _ ch8.inR) (nqp _ ch8.inE) (row_more rb okg hz c5) hws9)
  case C3 =>
    clear k hD hv okL l12 rsm hcs csl iS iN i1 i2 hS hN ha0 sl
    intro σ H Q h
    obtain ⟨aR, q, st, ys, xs, r, s0, s1, s2, s4, s6, s7, s8, s9, s10, s11, s12, rfl, hR, hqr, hx, ix, r100, k⟩ := h
    have xl : xs.length = r.length := by rw [ix.len, List.length_map]
    refine ⟨_, rfl, _, rfl, aR, _, _, _, rfl, rfl, .inl hR, atI_nat hqr, q, rfl, ⟨_, SqL.of hx⟩, fun aG nG => lc_it (walk_list (xs := xs)) (fun t F => Same H (hide [aG] F) ∧ F aG = some (.lst ((r.take t).map fun p => V.str (sgS p.1)))) ⟨?_, upd_same⟩ (fun t F _ pv => SqL.of (hide_same _ _ _ _ (pv.1 _ _ hx))) (fun t x F F' ht pv y => ?_) fun F pv => ?_⟩
    · rw [hide_mut (by simp)]
      exact fun z o e => by rw [hide_out (by simpa using ne_of_none e nG)]; exact e
    · obtain ⟨rfl, hxt⟩ := y
      obtain ⟨d, hdd, him⟩ := ix.get hxt
      have htr : t < r.length := by omega
      have hrt : r[t]? = some r[t] := List.getElem?_eq_getElem htr
      have et : r.take (t + 1) = r.take t ++ [r[t]] := by rw [List.take_add_one, hrt]; rfl
      generalize r[t] = p at hrt et
      rw [List.getElem?_map, hrt] at hdd
      cases hdd
      obtain ⟨cc, u1, u2, rfl, hcc, j1, j2⟩ := him.pair_inv
      cases j1.str_inv
      have hcc := hide_same _ _ _ _ (pv.1 _ _ hcc)
      refine ⟨rfl, _, rfl, cc, _, _, _, rfl, rfl, .inr hcc, atI_nat (j := 0) rfl, _, pv.2, ?_, ?_, ?_⟩
      · rw [List.length_map, List.length_take]; exact szlt (by omega)
      · rw [hide_mut (by simp)]; exact pv.1
      · rw [upd_same, et, List.map_append]; rfl
    · have hG := pv.2
      rw [xl, List.take_length] at hG
      exact k aG F nG (pv.1.trans (hide_same _ _)) hG
  case C4 =>
    clear k hD hv okL l12 rsm hcs csl iS iN i1 i2 hS hN ha0 sl
    intro σ H Q h
    obtain ⟨aR, q, st, ys, xs, r, s0, s1, s2, s4, s6, s7, s8, s9, s10, s11, s12, rfl, hR, hqr, hx, ix, r100, k⟩ := h
    have xl : xs.length = r.length := by rw [ix.len, List.length_map]
    refine ⟨_, rfl, _, rfl, aR, _, _, _, rfl, rfl, SqL.of hR, atI_nat hqr, q, rfl, ⟨_, SqL.of hx⟩, fun aG nG => lc_it (walk_list (xs := xs)) (fun t F => Same H (hide [aG] F) ∧ F aG = some (.lst ((r.take t).map fun p => V.str (sgS p.1)))) ⟨?_, upd_same⟩ (fun t F _ pv => SqL.of (hide_same _ _ _ _ (pv.1 _ _ hx))) (fun t x F F' ht pv y => ?_) fun F pv => ?_⟩
    · rw [hide_mut (by simp)]
      exact fun z o e => by rw [hide_out (by simpa using ne_of_none e nG)]; exact e
    · obtain ⟨rfl, hxt⟩ := y
      obtain ⟨d, hdd, him⟩ := ix.get hxt
      have htr : t < r.length := by omega
      have hrt : r[t]? = some r[t] := List.getElem?_eq_getElem htr
      have et : r.take (t + 1) = r.take t ++ [r[t]] := by rw [List.take_add_one, hrt]; rfl
      generalize r[t] = p at hrt et
      rw [List.getElem?_map, hrt] at hdd
      cases hdd
      obtain ⟨cc, u1, u2, rfl, hcc, j1, j2⟩ := him.pair_inv
      cases j1.str_inv
      have hcc := hide_same _ _ _ _ (pv.1 _ _ hcc)
      refine ⟨rfl, _, rfl, cc, _, _, _, rfl, rfl, .inr hcc, atI_nat (j := 0) rfl, _, pv.2, ?_, ?_, ?_⟩
      · rw [List.length_map, List.length_take]; exact szlt (by omega)
      · rw [hide_mut (by simp)]; exact pv.1
      · rw [upd_same, et, List.map_append]; rfl
    · have hG := pv.2
      rw [xl, List.take_length] at hG
      exact k aG F nG (pv.1.trans (hide_same _ _)) hG
  have pos := okL.pos
  have een : es0 = nV L.ends := by
    have q : (L.ends.map fun (e : Nat) => PyData.int e) = (L.ends.map fun (e : Nat) => (e : Int)).map PyData.int := by rw [List.map_map]; rfl
    have iN' : Ims (hide [D] H) es0 (L.ends.map fun (e : Nat) => PyData.int e) := iN
    rw [q] at iN'
    rw [Ims.ints_inv iN', List.map_map]; rfl
  subst een
  have ha1 := hide_same _ _ _ _ ha0
  have hS1 := hide_same _ _ _ _ hS
  have hN1 := hide_same _ _ _ _ hN
  refine ⟨_, rfl, a0, _, 0, _, rfl, rfl, SqT.of ha1, atI_nat (j := 0) rfl, aS, rfl, ⟨_, SqT.of hS1⟩, fun aR nR => lc_it (walk_tup (xs := ss)) (fun i G => ∃ qs : List Addr, Same H (hide (aR :: qs) G) ∧ G aR = some (.lst (qs.map V.ref)) ∧ qs.length = i ∧ qs.Nodup ∧ aR ∉ qs ∧ (∀ q ∈ qs, H q = none) ∧ ∀ (j : Nat) (q : Addr) (r : Row), qs[j]? = some q → L.rows[j]? = some r → ∃ xs, G q = some (.lst xs) ∧ Ims (hide [D] H) xs (r.map pairD)) ⟨[], ?_, upd_same, rfl, List.nodup_nil, by simp, (fun q h => by cases h), fun j q r h => by simp at h⟩ (fun i G _ pv => ?_) (fun i x G G' hi pv y => ?_) fun H1 pv => ?_⟩
  · rw [hide_mut (by simp)]
    exact fun z o e => by rw [hide_out (by simpa using ne_of_none e nR)]; exact e
  · obtain ⟨qs, s, _⟩ := pv
    exact SqT.of (hide_same _ _ _ _ (s _ _ hS1))
  · obtain ⟨qs, sG, hR, ql, nd, nRq, fr, hq⟩ := pv
    obtain ⟨rfl, hx⟩ := y
    obtain ⟨d, hdd, him⟩ := iS.get hx
    have hir : i < L.rows.length := by rw [← sl]; exact hi
    have hri : L.rows[i]? = some L.rows[i] := List.getElem?_eq_getElem hir
    generalize L.rows[i] = r at hri
    rw [List.getElem?_map, hri] at hdd
    cases hdd
    obtain ⟨q0, ys, rfl, hq0, iy⟩ := him.tup_inv
    have hq0' := hide_same _ _ _ _ (sG _ _ (hide_same _ _ _ _ hq0))
    refine ⟨rfl, _, rfl, q0, ys, rfl, .inr hq0', fun p np => ?_⟩
    have npH : H p = none := by
      cases e : H p with
      | none => rfl
      | some o =>
        have := hide_same _ _ _ _ (sG _ _ e)
        rw [np] at this; cases this
    have npR : aR ≠ p := ne_of_none hR np
    have npq : p ∉ qs := fun e => by
      obtain ⟨j, hj⟩ := List.getElem?_of_mem e
      have hjl := (List.getElem?_eq_some_iff.mp hj).1
      have := List.getElem?_eq_getElem (show j < L.rows.length by omega)
      obtain ⟨xs, g, _⟩ := hq j p _ hj this
      rw [np] at g; cases g
    refine ⟨_, (upd_ne npR).trans hR, by rw [List.length_map]; exact szlt (by omega), qs ++ [p], ?_, ?_, ?_, ?_, ?_, fun q hq' => ?_, fun j q r' h1 h2 => ?_⟩
    · rw [hide_mut (by simp)]
      exact fun z o e => by
        obtain ⟨q1, q2⟩ := hide_some (sG _ _ e)
        have := ne_of_none q2 np
        rw [hide_out (by simp at q1 ⊢; exact ⟨q1.1, q1.2, this⟩), upd_ne this]; exact q2
    · rw [upd_same, List.map_append]; rfl
    · rw [List.length_append, List.length_singleton, ql]
    · rw [List.nodup_append]
      exact ⟨nd, by simp, fun x hx y hy e => npq (by
        have e2 : y = p := by simpa using hy
        rw [← e2, ← e]; exact hx)⟩
    · rw [List.mem_append, List.mem_singleton, not_or]; exact ⟨nRq, npR⟩
    · rcases List.mem_append.mp hq' with z | z
      · exact fr q z
      · rw [List.mem_singleton.mp z]; exact npH
    · by_cases e : j < qs.length
      · rw [List.getElem?_append_left e] at h1
        obtain ⟨xs, g1, g2⟩ := hq j q r' h1 h2
        have m1 := List.mem_of_getElem? h1
        refine ⟨xs, ?_, g2⟩
        rw [upd_ne (fun z : q = aR => nRq (z ▸ m1)), upd_ne (fun z : q = p => npq (z ▸ m1))]; exact g1
      · have := (List.getElem?_eq_some_iff.mp h1).1
        rw [List.length_append, List.length_singleton] at this
        have e2 : j = qs.length := by omega
        rw [e2, List.getElem?_append_right (Nat.le_refl _), Nat.sub_self] at h1
        cases h1
        rw [e2, ql, hri] at h2
        cases h2
        exact ⟨ys, by rw [upd_ne npR.symm, upd_same], iy⟩
  obtain ⟨qs, sG, hR, ql, nd, nRq, fr, hq⟩ := pv
  rw [sl] at ql
  have sG' := sG.trans (hide_same _ _)
  refine ⟨_, rfl, a0, _, 1, _, rfl, rfl, SqT.of (sG' _ _ ha1), atI_nat (j := 1) rfl, aN, _, rfl, .inr (SqT.of (sG' _ _ hN1)), fun aE nE => ?_⟩
  have nER : aR ≠ aE := ne_of_none hR nE
  have hqa : ∀ q ∈ qs, ∃ xs, H1 q = some (.lst xs) := fun q e => by
    obtain ⟨j, hj⟩ := List.getElem?_of_mem e
    have hjl := (List.getElem?_eq_some_iff.mp hj).1
    obtain ⟨xs, g, _⟩ := hq j q _ hj (List.getElem?_eq_getElem (show j < L.rows.length by omega))
    exact ⟨xs, g⟩
  have nEq : aE ∉ qs := fun e => by
    obtain ⟨xs, g⟩ := hqa _ e
    rw [nE] at g; cases g
  have nRE := same_new (o := .lst (nV L.ends)) nE
  have b1 : Same (hide [D] H) (hide (D :: aE :: aR :: qs) (upd H1 aE (.lst (nV L.ends)))) := fun z o e => by
    obtain ⟨q1, q2⟩ := hide_some e
    obtain ⟨q3, q4⟩ := hide_some (sG _ _ q2)
    have := ne_of_none q4 nE
    rw [hide_out (by simp at q1 q3 ⊢; exact ⟨q1, this, q3.1, q3.2⟩), upd_ne this]; exact q4
  have ch : ChS c cells D H aR aE L.rows.length 11 (aE :: aR :: qs) qs L.rows L.ends (upd H1 aE (.lst (nV L.ends))) :=
    { base := b1
      dr := hD.mono fun z o e => by
        obtain ⟨q3, q4⟩ := hide_some (sG _ _ e)
        have := ne_of_none q4 nE
        rw [hide_out (by simp at q3 ⊢; exact ⟨this, q3.1, q3.2⟩), upd_ne this]; exact q4
      hR := nRE _ _ hR
      hE := upd_same
      inR := by simp
      inE := by simp
      inQ := fun q h => by simp [h]
      noT := fun q h => by
        rcases List.mem_cons.mp h with e | h
        · exact ⟨_, by rw [e]; exact upd_same⟩
        rcases List.mem_cons.mp h with e | h
        · exact ⟨_, by rw [e]; exact nRE _ _ hR⟩
        obtain ⟨xs, g⟩ := hqa q h
        exact ⟨xs, nRE _ _ g⟩
      nRE := nER
      nR := nRq
      nE := nEq
      nd := nd
      rat := ⟨ql, fun i q r h1 h2 => by
        obtain ⟨xs, g1, g2⟩ := hq i q r h1 h2
        exact ⟨xs, nRE _ _ g1, g2.mono b1⟩⟩
      len := rfl
      ok := fun r hr => ⟨okL.rise r hr, okL.sign r hr, rsm r hr⟩
      elt := okL.elt
      elen := by
        have := few_below L.rows.length L.ends (okL.erise.imp fun h => by omega) okL.elt
        omega }
  have el : L.ends.length ≤ 12 := by
    have := few_below L.rows.length L.ends (okL.erise.imp fun h => by omega) okL.elt
    omega
  clear b1 nRE hqa hq fr nRq nd hR sG sG' nE nR hv i1 i2 iS iN hS hN ha0 hS1 hN1 ha1 nEq nER
  generalize upd H1 aE (.lst (nV L.ends)) = H2 at ch
  refine ⟨_, rfl, _, rfl, aR, _, rfl, .inl (SqL.of ch.hR), c, cells, D, L.rows.length, (by rw [List.length_map, ql]; rfl), ch.dr.mono (hide_same _ _), pos, by omega, fun st H3 hst s3 hD3 => ?_⟩
  have ch3 := ch.turn s3 hD3
  refine ⟨_, rfl, c, cells, D, 4, rfl, ch3.dr.mono (hide_same _ _), by decide, by decide, fun way H4 hw s4 hD4 => ?_⟩
  have ch4 := ch3.turn s4 hD4
  refine ⟨c, cells, D, H, aR, aE, L.rows.length, st, way, _, qs, L.rows, L.ends, cs, _, _, _, _, _, _, _, rfl, ch4, hst, l12, el, hcs, csl, fun s7 s8 W qs rows es H5 ch => ?_⟩
  clear ch4 ch3 hD3 s3 hD4 s4 hw el ql
  refine ⟨_, rfl, aR, rfl, ⟨_, SqL.of ch.hR⟩, fun aT nT => lc_it (walk_list (xs := qs.map V.ref)) (PvIm H5 aT fun i => (rows[i]?).map rowD) (PvIm.zero nT) (fun i G _ pv => SqL.of (pv.base _ _ ch.hR)) (fun i x G G' hi pv y => ?_) fun H6 pv => ?_⟩
  · obtain ⟨rfl, hx⟩ := y
    have hi : i < L.rows.length := by rw [List.length_map, ch.qlen] at hi; exact hi
    obtain ⟨q, r, xs, hq, hqr, hqm, hr0, rb, hxs, ix, xl⟩ := ch.at_ hi
    rw [hqr] at hx
    cases hx
    refine ⟨rfl, _, rfl, q, xs, rfl, pv.base _ _ hxs, fun t nt => ?_⟩
    obtain ⟨acc0, hacc0⟩ : ∃ acc, G' aT = some (.lst acc) := by obtain ⟨_, acc, h, _⟩ := pv; exact ⟨acc, h⟩
    have nTt : t ≠ aT := (ne_of_none hacc0 nt).symm
    exact pv.push (hide_upd nt) (upd_ne nTt.symm) (d := rowD r) (by rw [hr0]; rfl) (Im.tup (by rw [hide_out (by simpa using nTt)]; exact upd_same) (((ix.mono (hide_same _ _)).mono pv.1).mono (hide_upd nt))) (by omega)
  obtain ⟨sT, acc, hT, _, iT⟩ := pv
  rw [List.length_map, ch.qlen, ← ch.len, map_range] at iT
  have sT := sT.trans (hide_same _ _)
  have ch6 := ch.mono sT
  have iT := iT.mono (hide_same _ _)
  have nTE : aT ≠ aE := (ne_of_none ch.hE nT).symm
  have nTW := ch.fresh nT
  have nTD : aT ≠ D := fun e => nTW (by rw [e]; exact List.mem_cons_self ..)
  clear ch nTW sT nT
  have rl := ch6.len
  have al : acc.length = L.rows.length := by rw [iT.len, List.length_map, rl]
  have wdr : noLs (rows.map rowD) = true := noLs_all fun d hd => by
    obtain ⟨r, _, rfl⟩ := List.mem_map.mp hd
    have wd : WD (r.map pairD) := fun d hd => by
      obtain ⟨p, _, rfl⟩ := List.mem_map.mp hd
      exact ⟨_, _, rfl⟩
    exact wd.noL
  have hTE : hide [aE] H6 aT = some (.lst acc) := by rw [hide_out (by simpa using nTE)]; exact hT
  have iTE : Ims (hide [aE] H6) acc (rows.map rowD) := Ims.hid (fun p hp xs e => by rw [List.mem_singleton.mp hp, ch6.hE] at e; cases e) iT wdr
  have hDE : DrawO c cells (hide [aE] H6) D := ch6.dr.mono (hide_sub fun p hp => by rw [List.mem_singleton.mp hp]; exact ch6.inE)
  have sBE : Same (hide [D] H) (hide [D, aE] H6) := ch6.base.trans (hide_sub fun p hp => by
    simp only [List.mem_cons, List.not_mem_nil, or_false] at hp
    rcases hp with e | e
    · rw [e]; exact List.mem_cons_self ..
    · rw [e]; exact List.mem_cons_of_mem _ ch6.inE)
  have nDE : aE ≠ D := fun e => ch6.nD (e ▸ ch6.inE)
  have hE6 := ch6.hE
  have elt := ch6.elt
  have elen := ch6.elen
  have rok := ch6.ok
  clear ch6
  have rok2 : RowsOk rows rows.length := ⟨by omega, fun r hr => by have := (rok r hr).2.2; omega, fun r hr p hp => by rw [rl]; exact ((rok r hr).2.1 p hp).2⟩
  refine ⟨_, rfl, aT, _, rfl, .inl (SqL.of hT), _, rfl, by omega, by omega, for_it walk_rng (fun i σ H8 => ∃ (o5 o10 o11 o12 : Option V) (es : List Nat), σ = [some (.ref D), some (.ref a0), some (.str ⟨cs.toArray⟩), some (.ref aR), some (.ref aE), o5, some (.int way), s7, s8, some (.ref aT), o10, o11, o12] ∧ Same (hide [aE] H6) (hide [aE] H8) ∧ H8 aE = some (.lst (nV es)) ∧ (∀ e ∈ es, e < L.rows.length) ∧ es.length ≤ 14 + i ∧ ∀ j, j < i → Reach ⟨rows, es⟩ j)
    ⟨_, _, _, _, es, rfl, fun _ _ e => e, hE6, elt, elen, fun j h => absurd h (Nat.not_lt_zero _)⟩ (fun i σ H4 _ h => True.intro) (fun i x σ H8 H9 hi h y => ?_) fun σ H8 h => ?_⟩
  · clear elt elen hE6
    obtain ⟨o5, o10, o11, o12, es, rfl, sE, hE, elt, ell, hre⟩ := h
    obtain ⟨rfl, rfl⟩ := y
    have hi : i < L.rows.length := by rw [← al]; exact hi
    have nel : (nV es).length = es.length := by unfold nV; rw [List.length_map]
    have sEE := sE.trans (hide_same _ _)
    refine ⟨_, rfl, _, rfl, _, rfl, aT, aE, i, acc, rows, es, rfl, sEE _ _ hTE, iTE.mono sEE, hE, rok2, by omega, by omega, fun res H10 s10 r1 r2 => ⟨_, rfl, ?_⟩⟩
    have s10e := sE.trans (hide_mono (L := [aE]) s10)
    have hE10 := s10 _ _ hE
    cases res with
    | true =>
      refine iteF ⟨_, _, _, _, es, rfl, s10e, hE10, elt, by omega, fun j hj => ?_⟩
      by_cases e : j = i
      · rw [e]; exact r1 rfl
      · exact hre j (by omega)
    | false =>
      refine iteT ⟨_, rfl, .inl ⟨rfl, _, SqL.of hE10⟩, _, rfl, aE, _, _, rfl, rfl, hE10, szlt (by omega), _, _, _, _, es ++ [i], rfl, ?_, ?_, fun e he => ?_, ?_, fun j hj => ?_⟩
      · rw [hide_mut (by simp)]; exact s10e
      · rw [upd_same]; simp [nV]
      · rcases List.mem_append.mp he with q | q
        · exact elt e q
        · rw [List.mem_singleton.mp q]; exact hi
      · rw [List.length_append, List.length_singleton]; omega
      · by_cases e : j = i
        · rw [e]; exact .here (by simp)
        · exact (hre j (by omega)).wide fun e he => List.mem_append_left _ he
  · clear elt elen hE6
    obtain ⟨o5, o10, o11, o12, es, rfl, sE, hE, elt, ell, hre⟩ := h
    have sEE := sE.trans (hide_same _ _)
    rw [al] at ell hre
    have hT8 := sEE _ _ hTE
    have sF0 : Same (hide [D] H) (hide [D] H8) := fun z o e => by
      obtain ⟨q1, q2⟩ := hide_some (sBE _ _ e)
      simp only [List.mem_cons, List.not_mem_nil, or_false, not_or] at q1
      rw [hide_out (by simpa using q1.1)]
      exact sEE _ _ (by rw [hide_out (by simpa using q1.2)]; exact q2)
    have hD8 := hDE.mono sEE
    have iT8 := iTE.mono sEE
    refine ⟨_, rfl, aT, acc, rfl, .inl ⟨SqL.of hT8, fun t1 nt1 => ?_⟩⟩
    have s9 := same_new (o := .tup acc) nt1
    have ht1 : upd H8 t1 (.tup acc) t1 = some (.tup acc) := upd_same
    have hE9 := s9 _ _ hE
    generalize upd H8 t1 (.tup acc) = H9 at s9 ht1 hE9
    have ievs : nV es = (es.map fun (e : Nat) => (e : Int)).map V.int := by unfold nV; rw [List.map_map]; rfl
    rw [ievs] at hE9
    refine ⟨_, rfl, aE, es.map (fun (e : Nat) => (e : Int)), rfl, hE9, by rw [List.length_map]; omega, fun aP cc H10 nP hcc e10 => ?_⟩
    rw [List.length_map] at hcc
    have hP10 : H10 aP = some (SetO w aP (fun j => decide (j ∈ es.map fun (e : Nat) => (e : Int))) cc) := by rw [e10]; exact upd_same
    have s10 : Same H9 H10 := by rw [e10]; exact same_new nP
    clear e10
    refine ⟨aP, _, cc, rfl, hP10, by omega, fun ns p2 hs hm hl np2 => ?_⟩
    obtain ⟨es', rfl⟩ := nats_of (ns := ns) fun z hz => by
      have := (hm z).mp hz
      have := of_decide_eq_true this
      obtain ⟨e, _, rfl⟩ := List.mem_map.mp this
      omega
    have emem : ∀ e, e ∈ es' ↔ e ∈ es := fun e => by
      have q := hm (e : Int)
      have a1 : (e : Int) ∈ es'.map (fun (e : Nat) => (e : Int)) ↔ e ∈ es' := by
        rw [List.mem_map]
        exact ⟨fun ⟨x, h1, h2⟩ => by
          have : x = e := by omega
          rw [← this]; exact h1, fun h => ⟨e, h, rfl⟩⟩
      have a2 : (e : Int) ∈ es.map (fun (e : Nat) => (e : Int)) ↔ e ∈ es := by
        rw [List.mem_map]
        exact ⟨fun ⟨x, h1, h2⟩ => by
          have : x = e := by omega
          rw [← this]; exact h1, fun h => ⟨e, h, rfl⟩⟩
      rw [a1, decide_eq_true_eq, a2] at q
      exact q
    rw [List.pairwise_map] at hs
    have erise : es'.Pairwise (· < ·) := hs.imp fun h => by omega
    have s11 := same_new (o := .lst ((es'.map fun (e : Nat) => (e : Int)).map V.int)) np2
    have hp2 : upd H10 p2 (.lst ((es'.map fun (e : Nat) => (e : Int)).map V.int)) p2 = some (.lst ((es'.map fun (e : Nat) => (e : Int)).map V.int)) := upd_same
    generalize upd H10 p2 (.lst ((es'.map fun (e : Nat) => (e : Int)).map V.int)) = H11 at s11 hp2
    refine ⟨p2, _, rfl, .inl ⟨SqL.of hp2, fun t2 nt2 => ?_⟩⟩
    have s12 := same_new (o := .tup ((es'.map fun (e : Nat) => (e : Int)).map V.int)) nt2
    have ht2 : upd H11 t2 (.tup ((es'.map fun (e : Nat) => (e : Int)).map V.int)) t2 = some (.tup ((es'.map fun (e : Nat) => (e : Int)).map V.int)) := upd_same
    generalize upd H11 t2 (.tup ((es'.map fun (e : Nat) => (e : Int)).map V.int)) = H12 at s12 ht2
    refine ⟨szle (Nat.le_trans (Nat.le_refl 2) (by decide)), fun t3 nt3 => ?_⟩
    have s13 := same_new (o := .tup [.ref t1, .ref t2]) nt3
    have ht3 : upd H12 t3 (.tup [.ref t1, .ref t2]) t3 = some (.tup [.ref t1, .ref t2]) := upd_same
    generalize upd H12 t3 (.tup [.ref t1, .ref t2]) = H13 at s13 ht3
    have sA := (((s9.trans s10).trans s11).trans s12).trans s13
    have hD13 := hD8.mono sA
    have hDD := hD13
    obtain ⟨_, _, _, _, _, g1, _⟩ := hDD
    have ht1 := s13 _ _ (s12 _ _ (s11 _ _ (s10 _ _ ht1)))
    have ht2 := s13 _ _ ht2
    have ne : ∀ {t : Addr} {xs : List V}, H13 t = some (.tup xs) → hide [D] H13 t = some (.tup xs) := fun {t xs} h => by
      rw [hide_out (by simp; intro e; rw [e, g1] at h; cases h)]; exact h
    have nL : ∀ p ∈ [D], ∀ xs, H13 p ≠ some (.tup xs) := fun p hp xs e => by rw [List.mem_singleton.mp hp, g1] at e; cases e
    have iS13 : Ims (hide [D] H13) acc (rows.map rowD) := Ims.hid nL (iT8.mono sA) wdr
    have iE13 : Ims (hide [D] H13) ((es'.map fun (e : Nat) => (e : Int)).map V.int) (es'.map fun (e : Nat) => PyData.int e) := by
      have := Ims.ints (H := hide [D] H13) (es'.map fun (e : Nat) => (e : Int))
      have e : (es'.map fun (e : Nat) => (e : Int)).map PyData.int = es'.map fun (e : Nat) => PyData.int e := by rw [List.map_map]; rfl
      rw [e] at this
      exact this
    refine k ⟨rows, es'⟩ (.ref t3) H13 ⟨by show 0 < rows.length; omega, by show rows.length ≤ 60; omega, fun r hr p hp => ?_, fun r hr => (rok r hr).1, erise, fun e he => ?_, fun j hj => ?_⟩ (by show rows.length ≤ 12; omega) (sF0.trans (hide_mono sA)) hD13 (Im.pair (x := .ref t1) (y := .ref t2) (ne ht3) (.tup (ne ht1) iS13) (.tup (ne ht2) iE13))
    · have := (rok r hr).2.1 p hp
      exact ⟨this.1, by show p.2 < rows.length; omega⟩
    · have := elt e ((emem e).mp he)
      show e < rows.length
      omega
    · have hj : j < rows.length := hj
      exact (hre j (by omega)).wide fun e he => (emem e).mpr he
end
end Tk
set_option maxHeartbeats 4000000
set_option pp.maxSteps 2500
/-! _law_two -/
namespace Tk
open PySem L2
def strV (l : List Nat) : List V := l.map fun z => V.str (sgS z)
def letS : Str := ".abcdefghijklmnopqrstuvwxyABCDEFGHIJKLMNOPQRSTUVWXYZ"
def lets : List Nat := letS.cps.toList
theorem lets_nd : lets.Nodup := by decide +kernel
theorem lets_ok : ∀ z ∈ lets, okSign z = true := by decide +kernel
theorem lets_z : 122 ∉ lets := by decide +kernel
theorem lets_len : lets.length = 52 := by decide +kernel
theorem strV_len (l : List Nat) : (strV l).length = l.length := by unfold strV; rw [List.length_map]
theorem joinS (cs : List Nat) : Txt.join ⟨#[]⟩ (cs.map sgS) = ⟨cs.toArray⟩ := by
  show Builtin.Str.glued ⟨#[]⟩ (cs.map sgS) = _
  rw [StrLaws.glued_eq_join]
  refine TL.ext_tl ((TL.tl_join ⟨#[]⟩ (cs.map sgS)).trans ?_)
  have e2 : ∀ cs : List Nat, TL.joinL [] ((cs.map sgS).map TL.tl) = cs := fun cs => by
    induction cs with
    | nil => rfl
    | cons a l ih =>
      cases l with
      | nil => rfl
      | cons b l => exact congrArg (a :: ·) ih
  exact e2 cs
theorem sum_sgs : ∀ cs : List Nat, ((cs.map sgS).map (·.length)).sum = cs.length
  | [] => rfl
  | a :: l => by
    rw [List.map_cons, List.map_cons, List.sum_cons, sum_sgs l, List.length_cons]
    show 1 + l.length = _
    omega
theorem noL_pl (L : Pl) : noL L.d = true := by
  have h1 : noLs (L.rows.map rowD) = true := noLs_all fun d hd => by
    obtain ⟨r, _, rfl⟩ := List.mem_map.mp hd
    have wd : WD (r.map pairD) := fun d hd => by
      obtain ⟨p, _, rfl⟩ := List.mem_map.mp hd
      exact ⟨_, _, rfl⟩
    exact wd.noL
  have h2 : noLs (L.ends.map fun (e : Nat) => PyData.int e) = true := noLs_all fun d hd => by
    obtain ⟨_, _, rfl⟩ := List.mem_map.mp hd; rfl
  show (noLs (L.rows.map rowD) && (noLs (L.ends.map fun (e : Nat) => PyData.int e) && true)) = true
  rw [h1, h2]; rfl
/-- pool.pop(pick(draw, len(pool))) -/
def tPop : TE := fun σ H Q => ∃ (c : Addr) (cells : List Int) (D aP : Addr) (pl : List Nat) (s2 s3 s4 s5 s6 s7 s8 s9 s10 : Option V), σ = [some (.ref D), some (.ref aP), s2, s3, s4, s5, s6, s7, s8, s9, s10] ∧ DrawO c cells (hide [aP] H) D ∧ H aP = some (.lst (strV pl)) ∧ 0 < pl.length ∧ pl.length ≤ 100 ∧
  ∀ (r : Nat) (hr : r < pl.length) H', Same (hide [D, aP] H) (hide [D, aP] H') → DrawO c cells (hide [aP] H') D → H' aP = some (.lst (strV (pl.eraseIdx r))) → Q (.str (sgS pl[r])) H'
section
variable {P : Program} {w : World} {K : PySem.W.Frag} {mg : Str → Option Value} {base : Heap}
def spTwo : Sp := fun vs H Q _ => ∃ (c : Addr) (cells : List Int) (D : Addr), vs = [.ref D] ∧ DrawO c cells H D ∧
  ∀ (L M : Pl) (v1 v2 : V) (t : Addr) H', L.Ok → M.Ok → L.rows.length ≤ 6 → M.rows.length ≤ 36 → Same (hide [D] H) (hide [D] H') → DrawO c cells H' D → H' t = some (.tup [v1, v2]) → Im (hide [D] H') v1 L.d → Im (hide [D] H') v2 M.d → Q (.ref t) H'
theorem ok_two (T : Fx K mg) : FnOk P w K mg base CX0 4 T.a_two T.d_two ["_law_draw_here"] spTwo := by
  refine T.F_two.ok sc_two (fun vs H Q E h => ?_) (fun cdv A outer s H vs Q E hr h => ?_)
  · obtain ⟨_, _, D, rfl, _⟩ := h; rfl
  obtain ⟨c, cells, D, rfl, hD, k⟩ := h
  have hu := hu_of hr
  refine ⟨_, PSs.nox ((pss_cons (ps_set (i := 1) sc_two.nd rfl (.inr rfl) (pe_lc (own := [("_law_letter", 9)]) (by rfl) sc_two.nd (pi_str pe_str) (blkOk_by (own := [("_law_letter", 9)]) (N := ["_law_draw_here", "_law_pool", "_law_signs", "_law_way", "_law_step", "_law_many", "_law_one", "_law_other", "_law_two_here", "_law_letter", "_law_turn"]) (sc := defScope (top 41)) (by decide +kernel)) (fun _ _ _ _ _ => (pg_name (i := 9) sc_two.nd rfl (.inl rfl) (.inr rfl))) (fun _ _ _ _ _ => pts_nil) (fun _ _ _ _ _ => (pv 9))))
    (pss_cons (ps_set (i := 2) sc_two.nd rfl (.inl rfl) (pe_join pe_str (pe_lc (own := [("_law_turn", 10)]) (by rfl) sc_two.nd (pi_range1 (by rfl) T.z_range (pa_cons (pe_op op_add pe_int (pe_call (ok_pick T) (hr.mono (by decide)) (by rfl) T.g_pick T.F_pick.kp T.b_pick .nil pass0 (pa_cons (pv 0) (pa_cons pe_int pa_nil)))) pa_nil)) (blkOk_by (own := [("_law_turn", 10)]) (N := ["_law_draw_here", "_law_pool", "_law_signs", "_law_way", "_law_step", "_law_many", "_law_one", "_law_other", "_law_two_here", "_law_letter", "_law_turn"]) (sc := defScope (top 41)) (by decide +kernel)) (fun _ _ _ _ _ => (pg_name (i := 10) sc_two.nd rfl (.inl rfl) (.inr rfl))) (fun _ _ _ _ _ => pts_nil) (fun _ _ _ _ _ => (pe_imp (t' := tPop) (pe_bm PySem.F.plainAttrs_list PySem.F.slot_list_pop PySem.F.type_list_pop mt_popAt (pv 1) (pa_cons (pe_call (ok_pick T) (hr.mono (by decide)) (by rfl) T.g_pick T.F_pick.kp T.b_pick .nil pass0 (pa_cons (pv 0) (pa_cons (pe_callB call_len_seq (by rfl) T.z_len (by decide +kernel) (pa_cons (pv 1) pa_nil)) pa_nil))) pa_nil)) ?M2)))))
    (pss_cons (ps_set (i := 3) sc_two.nd rfl (.inl rfl) (pe_call (ok_pick T) (hr.mono (by decide)) (by rfl) T.g_pick T.F_pick.kp T.b_pick .nil pass0 (pa_cons (pv 0) (pa_cons pe_int pa_nil))))
    (pss_cons (ps_if (pt_cmpR op_eq (pv 3) pe_int (nomark _))
      (pss_cons (ps_set (i := 4) sc_two.nd rfl (.inl rfl) (pe_op op_add pe_int (pe_call (ok_pick T) (hr.mono (by decide)) (by rfl) T.g_pick T.F_pick.kp T.b_pick .nil pass0 (pa_cons (pv 0) (pa_cons pe_int pa_nil)))))
      (pss_cons (ps_set (i := 5) sc_two.nd rfl (.inl rfl) (pe_op op_sub (pe_op op_mul (pv 4) (pe_op op_add pe_int (pe_call (ok_pick T) (hr.mono (by decide)) (by rfl) T.g_pick T.F_pick.kp T.b_pick .nil pass0 (pa_cons (pv 0) (pa_cons pe_int pa_nil))))) (pe_ix ix_list (pe_lst (pa_cons pe_int (pa_cons pe_int (pa_cons pe_int (pa_cons pe_int pa_nil))))) (pe_call (ok_pick T) (hr.mono (by decide)) (by rfl) T.g_pick T.F_pick.kp T.b_pick .nil pass0 (pa_cons (pv 0) (pa_cons pe_int pa_nil))) (fun _ _ => rfl))))
      (pss_one (ps_ret (pe_tup (pa_cons (pe_call (ok_ring T) (hr.mono (by decide)) (by rfl) T.g_ring T.F_ring.kp T.b_ring .nil pass0 (pa_cons (pe_item_str (pv 2) pe_int (fun _ _ => rfl)) (pa_cons (pv 4) (pa_cons (pv 4) pa_nil)))) (pa_cons (pe_call (ok_ring T) (hr.mono (by decide)) (by rfl) T.g_ring T.F_ring.kp T.b_ring .nil pass0 (pa_cons (pe_item_str (pv 2) pe_int (fun _ _ => rfl)) (pa_cons (pv 5) (pa_cons (pv 4) pa_nil)))) pa_nil)))))))
      pss_nil)
    (pss_cons (ps_set (i := 6) sc_two.nd rfl (.inl rfl) (pe_call (ok_plan T) (hr.mono (by decide)) (by rfl) T.g_plan T.F_plan.kp T.b_plan .nil pass0 (pa_cons (pv 0) (pa_cons (pv 2) (pa_cons (pe_ix ix_list (pe_lst (pa_cons pe_int (pa_cons pe_int (pa_cons pe_int (pa_cons pe_int (pa_cons pe_int (pa_cons pe_int pa_nil))))))) (pe_call (ok_pick T) (hr.mono (by decide)) (by rfl) T.g_pick T.F_pick.kp T.b_pick .nil pass0 (pa_cons (pv 0) (pa_cons pe_int pa_nil))) (fun _ _ => rfl)) pa_nil)))))
    (pss_cons (ps_if (pt_cmpR op_eq (pv 3) pe_int (nomark _))
      (pss_cons (ps_set (i := 7) sc_two.nd rfl (.inl rfl) (pe_ix ix_list (pe_lst (pa_cons (pv 2) (pa_cons (pe_slice sl_str (pv 2) po_none (po_some pe_int)) (pa_cons (pe_op op_add_str (pv 2) pe_str) pa_nil)))) (pe_call (ok_pick T) (hr.mono (by decide)) (by rfl) T.g_pick T.F_pick.kp T.b_pick .nil pass0 (pa_cons (pv 0) (pa_cons pe_int pa_nil))) (fun _ _ => rfl)))
      (pss_one (ps_ret (pe_tup (pa_cons (pv 6) (pa_cons (pe_call (ok_plan T) (hr.mono (by decide)) (by rfl) T.g_plan T.F_plan.kp T.b_plan .nil pass0 (pa_cons (pv 0) (pa_cons (pv 7) (pa_cons (pe_op op_add pe_int (pe_call (ok_pick T) (hr.mono (by decide)) (by rfl) T.g_pick T.F_pick.kp T.b_pick .nil pass0 (pa_cons (pv 0) (pa_cons pe_int pa_nil)))) pa_nil)))) pa_nil))))))
      pss_nil)
    (pss_cons (ps_set (i := 8) sc_two.nd rfl (.inl rfl) (pe_call (ok_split T) (hr.mono (by decide)) (by rfl) T.g_split T.F_split.kp T.b_split .nil pass0 (pa_cons (pv 0) (pa_cons (pv 6) pa_nil))))
    (pss_cons (ps_if (pt_cmpR op_lt (pv 3) pe_int (nomark _))
      (pss_one (ps_ret (pe_tup (pa_cons (pv 6) (pa_cons (pv 8) pa_nil)))))
      pss_nil)
    (pss_one (ps_ret (pe_tup (pa_cons (pv 6) (pa_cons (pe_call (ok_changed T) (hr.mono (by decide)) (by rfl) T.g_changed T.F_changed.kp T.b_changed .nil pass0 (pa_cons (pv 0) (pa_cons (pv 8) (pa_cons (pv 2) pa_nil)))) pa_nil)))))))))))))), ?_⟩
  case M2 =>
    clear k hD
    intro σ H Q h
    obtain ⟨c, cells, D, aP, pl, s2, s3, s4, s5, s6, s7, s8, s9, s10, rfl, hD, hP, hp0, hp1, k⟩ := h
    have nPD : aP ≠ D := fun e => hD.notin (by simp [e])
    refine ⟨_, rfl, .inl ⟨rfl, _, SqL.of hP⟩, _, rfl, _, rfl, aP, _, rfl, .inl (SqL.of hP), c, cells, D, pl.length, (by rw [strV_len]; rfl), hD.mono (hide_same _ _), hp0, by omega, fun r H1 hr s1 hD1 => ?_⟩
    have hD1 := hD.hid hD1
    have hP1 : H1 aP = some (.lst (strV pl)) := hide_same _ _ _ _ (s1 _ _ (by rw [hide_out (by simpa using nPD)]; exact hP))
    have s1 := hide_wide (M := [D, aP]) s1 (by simp)
    have hz : (strV pl)[r]? = some (.str (sgS pl[r])) := by unfold strV; rw [List.getElem?_map, List.getElem?_eq_getElem hr]; rfl
    have eE : (strV pl).eraseIdx r = strV (pl.eraseIdx r) := by unfold strV; rw [erase_map]
    refine ⟨aP, _, _, r, _, rfl, rfl, hP1, by omega, by omega, (ixN_seq (ixn_nat (by rw [strV_len]; exact hr))).1, hz, ?_⟩
    rw [eE]
    refine k r hr _ ?_ ?_ upd_same
    · rw [hide_mut (by simp)]; exact s1
    · rw [hide_mut (by simp)]; exact hD1
  refine ⟨_, rfl, fun aP nP => lc_it walk_str (fun i G => Same H (hide [aP] G) ∧ G aP = some (.lst (strV (lets.take i)))) ⟨?_, upd_same⟩ (fun i G _ pv => True.intro) (fun i x G G' hi pv y => ?_) fun H1 pv => ?_⟩
  · rw [hide_mut (by simp)]
    exact fun z o e => by rw [hide_out (by simpa using ne_of_none e nP)]; exact e
  · obtain ⟨rfl, ch0, hc0, rfl⟩ := y
    have hi : i < 52 := hi
    have hc0 : lets[i]? = some ch0 := by
      unfold lets
      rw [Array.getElem?_toList]; exact hc0
    refine ⟨rfl, _, rfl, _, pv.2, ?_, ?_, ?_⟩
    · rw [strV_len, List.length_take]; exact szlt (by omega)
    · rw [hide_mut (by simp)]; exact pv.1
    · rw [upd_same, List.take_add_one, hc0]; simp [strV]; rfl
  obtain ⟨sP, hP⟩ := pv
  have e52 : lets.take letS.cps.size = lets := by
    refine List.take_of_length_le ?_
    unfold lets
    rw [Array.length_toList]; exact Nat.le_refl _
  rw [show ((Str.ofString ".abcdefghijklmnopqrstuvwxyABCDEFGHIJKLMNOPQRSTUVWXYZ").cps.size) = letS.cps.size from rfl, e52] at hP
  have nPD : aP ≠ D := by
    obtain ⟨_, _, _, _, _, g1, _⟩ := hD
    exact (ne_of_none g1 nP).symm
  have s01 : Same (hide [D] H) (hide [D, aP] H1) := fun z o e => by
    obtain ⟨q1, q2⟩ := hide_some e
    obtain ⟨q3, q4⟩ := hide_some (sP _ _ q2)
    rw [hide_out (by simp at q1 q3 ⊢; exact ⟨q1, q3⟩)]; exact q4
  have hD1 : DrawO c cells (hide [aP] H1) D := hD.mono sP
  clear sP
  refine ⟨⟨_, rfl⟩, _, rfl, c, cells, D, 3, rfl, hD1.mono (hide_same _ _), by decide, by decide, fun r0 H2 hr0 s2 hD2 => ⟨_, _, rfl, rfl, _, rfl, by omega, by omega, fun aJ nJ => ?_⟩⟩
  have hD2 := hD1.hid hD2
  have hP2 : H2 aP = some (.lst (strV lets)) := hide_same _ _ _ _ (s2 _ _ (by rw [hide_out (by simpa using nPD)]; exact hP))
  have s02 := s01.trans (hide_wide (M := [D, aP]) s2 (by simp))
  clear s01 hD1 hP
  have nJP : aJ ≠ aP := (ne_of_none hP2 nJ).symm
  have nJD : aJ ≠ D := by
    obtain ⟨_, _, _, _, _, g1, _⟩ := hD2
    exact (ne_of_none (hide_same _ _ _ _ g1) nJ).symm
  refine lc_it walk_rng (fun i G => ∃ (cs pl : List Nat), Same (hide [D] H) (hide [D, aP, aJ] G) ∧ DrawO c cells (hide [aP, aJ] G) D ∧ G aP = some (.lst (strV pl)) ∧ G aJ = some (.lst (strV cs)) ∧ (cs ++ pl).Perm lets ∧ cs.length = i) ⟨[], lets, ?_, ?_, (upd_ne nJP.symm).trans hP2, upd_same, List.Perm.refl _, rfl⟩ (fun i G _ pv => True.intro) (fun i x G G' hi pv y => ?_) fun H3 pv => ?_
  · exact s02.trans fun z o e => by
      obtain ⟨q1, q2⟩ := hide_some e
      have := ne_of_none q2 nJ
      rw [hide_out (by simp at q1 ⊢; exact ⟨q1.1, q1.2, this⟩), upd_ne this]; exact q2
  · exact hD2.mono fun z o e => by
      obtain ⟨q1, q2⟩ := hide_some e
      have := ne_of_none q2 nJ
      rw [hide_out (by simp at q1 ⊢; exact ⟨q1, this⟩), upd_ne this]; exact q2
  · obtain ⟨cs, pl, sG, hDG, hPG, hJG, hpm, cl⟩ := pv
    obtain ⟨rfl, rfl⟩ := y
    have hi : i < (1 + (r0 : Int)).toNat := hi
    have pll : i + pl.length = 52 := by
      have := hpm.length_eq
      rw [List.length_append, lets_len, cl] at this
      exact this
    refine ⟨rfl, c, cells, D, aP, pl, _, _, _, _, _, _, _, _, _, rfl, hDG.mono (hide_sub (by simp)), hPG, by omega, by omega, fun r hr G1 s1 hDG1 hPG1 => ?_⟩
    have hJ1 : G1 aJ = some (.lst (strV cs)) := hide_same _ _ _ _ (s1 _ _ (by rw [hide_out (by simp; exact ⟨nJD, nJP⟩)]; exact hJG))
    have hDG1 := hDG.hid (hDG1.mono (hide_same _ _))
    have s1 := hide_wide (M := [D, aP, aJ]) s1 (by simp)
    refine ⟨_, hJ1, by rw [strV_len]; exact szlt (by omega), cs ++ [pl[r]], pl.eraseIdx r, ?_, ?_, (upd_ne nJP.symm).trans hPG1, ?_, ?_, by rw [List.length_append, List.length_singleton, cl]⟩
    · rw [hide_mut (by simp)]; exact sG.trans s1
    · rw [hide_mut (by simp)]; exact hDG1
    · rw [upd_same]; simp [strV]
    · refine List.Perm.trans ?_ hpm
      rw [List.append_assoc]
      exact List.Perm.append_left _ (erase_perm hr)
  obtain ⟨cs, pl, s03, hD3, hP3, hJ3, hpm, cl⟩ := pv
  have cl : cs.length = 1 + r0 := by
    have : cs.length = (1 + (r0 : Int)).toNat := cl
    omega
  have cnd : cs.Nodup := ((hpm.nodup_iff.mpr lets_nd).sublist (List.sublist_append_left _ _))
  have cin : ∀ z ∈ cs, z ∈ lets := fun z hz => hpm.mem_iff.mp (List.mem_append_left _ hz)
  have cok : ∀ z ∈ cs, okSign z = true := fun z hz => lets_ok z (cin z hz)
  have cz : 122 ∉ cs := fun h => lets_z (cin _ h)
  have ejs : strV cs = (cs.map sgS).map V.str := by unfold strV; rw [List.map_map]; rfl
  rw [ejs] at hJ3
  refine ⟨_, aJ, cs.map sgS, rfl, rfl, .inl (SqL.of hJ3), ?_, ?_⟩
  · rw [sum_sgs]
    show cs.length + (cs.map sgS).length * 0 ≤ 16777216
    omega
  rw [show (Txt.join (Str.ofString "") (cs.map sgS)) = ⟨cs.toArray⟩ from joinS cs]
  have hD3 : DrawO c cells H3 D := hD3.mono (hide_same _ _)
  have s03 : Same (hide [D] H) (hide [D] H3) := s03.trans (hide_sub (by simp))
  clear hP3 hJ3 ejs hpm s02 hD2 hP2 cin
  have cne : cs ≠ [] := fun e => by rw [e] at cl; simp at cl; omega
  have csz : (⟨cs.toArray⟩ : Str).length = cs.length := rfl
  refine ⟨_, rfl, c, cells, D, 9, rfl, hD3, by decide, by decide, fun way H4 hw s4 hD4 => ?_⟩
  have s04 := s03.trans s4
  clear s03 hD3 s4
  have nDt : ∀ {G : Hp} (h : DrawO c cells G D), ∀ p ∈ [D], ∀ xs, G p ≠ some (.tup xs) := fun {G} h p hp xs e => by
    obtain ⟨_, _, _, _, _, g1, _⟩ := h
    rw [List.mem_singleton.mp hp, g1] at e; cases e
  refine ⟨_, rfl, rfl, _, rfl, ite2 (fun c1 => ?_) (fun c1 => ?_)⟩
  · refine ⟨_, rfl, c, cells, D, 5, rfl, hD4, by decide, by decide, fun r1 H5 hr1 s5 hD5 => ⟨_, _, rfl, rfl, ?_⟩⟩
    obtain ⟨step, hst⟩ : ∃ step, step = 2 + r1 := ⟨_, rfl⟩
    have est : (2 : Int) + (r1 : Nat) = (step : Nat) := by omega
    refine ⟨_, rfl, _, rfl, c, cells, D, 6, rfl, hD5, by decide, by decide, fun r2 H6 hr2 s6 hD6 => ⟨_, _, rfl, rfl, _, _, rfl, rfl, .inl ⟨by omega, by omega⟩, szle (Nat.le_trans (Nat.le_refl 4) (by decide)), fun aL nL => ?_⟩⟩
    have s7 := same_new (o := .lst [.int 0, .int 0, .int 1, .int 0]) nL
    have hL7 : upd H6 aL (.lst [.int 0, .int 0, .int 1, .int 0]) aL = some (.lst [.int 0, .int 0, .int 1, .int 0]) := upd_same
    have hD7 := hD6.mono s7
    generalize upd H6 aL (.lst [.int 0, .int 0, .int 1, .int 0]) = H7 at s7 hL7 hD7
    have nLD : aL ≠ D := by
      obtain ⟨_, _, _, _, _, g1, _⟩ := hD6
      exact (ne_of_none g1 nL).symm
    refine ⟨_, rfl, c, cells, D, 4, rfl, hD7, by decide, by decide, fun r3 H8 hr3 s8 hD8 => ?_⟩
    have hL8 : H8 aL = some (.lst [.int 0, .int 0, .int 1, .int 0]) := hide_same _ _ _ _ (s8 _ _ (by rw [hide_out (by simpa using nLD)]; exact hL7))
    obtain ⟨b, hb, hbx⟩ : ∃ b : Nat, b ≤ 1 ∧ ([V.int 0, .int 0, .int 1, .int 0])[r3]? = some (.int (b : Nat)) := by
      rcases r3 with _ | _ | _ | _ | r3
      · exact ⟨0, by omega, rfl⟩
      · exact ⟨0, by omega, rfl⟩
      · exact ⟨1, by omega, rfl⟩
      · exact ⟨0, by omega, rfl⟩
      · omega
    refine ⟨aL, _, r3, _, rfl, rfl, SqL.of hL8, atI_nat hbx, _, _, rfl, rfl, ?_⟩
    have em : ((2 : Int) + (r1 : Nat)) * (1 + (r2 : Nat)) - (b : Nat) = ((step * (1 + r2) - b : Nat) : Int) := by
      rw [est]
      have e1 : (1 : Int) + (r2 : Nat) = ((1 + r2 : Nat) : Int) := by omega
      rw [e1, ← Int.natCast_mul]
      have : 2 * 1 ≤ step * (1 + r2) := Nat.mul_le_mul (by omega) (by omega)
      omega
    have m1 : 1 ≤ step * (1 + r2) - b := by
      have : 2 * 1 ≤ step * (1 + r2) := Nat.mul_le_mul (by omega) (by omega)
      omega
    have m2 : step * (1 + r2) - b ≤ 36 := by
      have : step * (1 + r2) ≤ 6 * 6 := Nat.mul_le_mul (by omega) (by omega)
      omega
    generalize step * (1 + r2) - b = many at m1 m2 em
    have s08 := ((((s04.trans s5).trans s6).trans (hide_mono s7)).trans s8)
    have h0 : cs[0]? = some (cs.head cne) := by cases cs with | nil => exact absurd rfl cne | cons a l => rfl
    have okh := cok _ (List.head_mem cne)
    generalize cs.head cne = ch0 at h0 okh
    have h0s : ((⟨cs.toArray⟩ : Str).cps)[(0 : Int).toNat]? = some ch0 := by simpa using h0
    have cl0 : (0 : Int) < ((⟨cs.toArray⟩ : Str).length : Nat) := by rw [csz]; omega
    refine ⟨_, rfl, _, _, ch0, rfl, rfl, by decide, by decide, cl0, h0s, _, rfl, _, rfl, ch0, step, step, (by show [V.str ⟨#[ch0]⟩, V.int (2 + (r1 : Nat)), V.int (2 + (r1 : Nat))] = _; rw [est]; rfl), okh, by omega, by omega, by omega, fun v1 H9 s9 i9 => ?_⟩
    refine ⟨_, rfl, _, _, ch0, rfl, rfl, by decide, by decide, cl0, h0s, _, rfl, _, rfl, ch0, many, step, (by show [V.str ⟨#[ch0]⟩, V.int ((2 + (r1 : Nat)) * (1 + (r2 : Nat)) - (b : Nat)), V.int (2 + (r1 : Nat))] = _; rw [em, est]; rfl), okh, by omega, by omega, by omega, fun v2 H10 s10 i10 => ?_⟩
    refine ⟨szle (Nat.le_trans (Nat.le_refl 2) (by decide)), fun t nt => ?_⟩
    have s11 := same_new (o := .tup [v1, v2]) nt
    have sA := (s9.trans s10).trans s11
    have hD11 := hD8.mono sA
    refine k (ringL ch0 step step) (ringL ch0 many step) v1 v2 t _ (ring_ok okh (by omega) (by omega)) (ring_ok okh (by omega) (by omega)) (by rw [ring_len]; omega) (by rw [ring_len]; omega) (s08.trans (hide_mono sA)) hD11 upd_same ?_ ?_
    · exact Im.hid (nDt hD11) ((i9.mono s10).mono s11) (noL_pl _)
    · exact Im.hid (nDt hD11) (i10.mono s11) (noL_pl _)
  refine ⟨_, rfl, _, rfl, szle (Nat.le_trans (Nat.le_refl 6) (by decide)), fun aL nL => ?_⟩
  have s5 := same_new (o := .lst [.int 3, .int 5, .int 2, .int 4, .int 1, .int 4]) nL
  have hL5 : upd H4 aL (.lst [.int 3, .int 5, .int 2, .int 4, .int 1, .int 4]) aL = some (.lst [.int 3, .int 5, .int 2, .int 4, .int 1, .int 4]) := upd_same
  have hD5 := hD4.mono s5
  generalize upd H4 aL (.lst [.int 3, .int 5, .int 2, .int 4, .int 1, .int 4]) = H5 at s5 hL5 hD5
  have nLD : aL ≠ D := by
    obtain ⟨_, _, _, _, _, g1, _⟩ := hD4
    exact (ne_of_none g1 nL).symm
  refine ⟨_, rfl, c, cells, D, 6, rfl, hD5, by decide, by decide, fun r1 H6 hr1 s6 hD6 => ?_⟩
  have hL6 : H6 aL = some (.lst [.int 3, .int 5, .int 2, .int 4, .int 1, .int 4]) := hide_same _ _ _ _ (s6 _ _ (by rw [hide_out (by simpa using nLD)]; exact hL5))
  obtain ⟨n, n1, n5, hnx⟩ : ∃ n : Nat, 1 ≤ n ∧ n ≤ 5 ∧ ([V.int 3, .int 5, .int 2, .int 4, .int 1, .int 4])[r1]? = some (.int (n : Nat)) := by
    rcases r1 with _ | _ | _ | _ | _ | _ | r1
    · exact ⟨3, by omega, by omega, rfl⟩
    · exact ⟨5, by omega, by omega, rfl⟩
    · exact ⟨2, by omega, by omega, rfl⟩
    · exact ⟨4, by omega, by omega, rfl⟩
    · exact ⟨1, by omega, by omega, rfl⟩
    · exact ⟨4, by omega, by omega, rfl⟩
    · omega
  refine ⟨aL, _, r1, _, rfl, rfl, SqL.of hL6, atI_nat hnx, c, cells, D, cs, n, rfl, hD6, cnd, cok, by omega, cne, n1, by omega, fun L v H7 okL ll lsm s7 hD7 i7 => ?_⟩
  have s07 := (((s04.trans (hide_mono s5)).trans s6).trans s7)
  clear s04 s5 s6 s7 hD4 hD5 hD6 hL5 hL6
  refine ⟨_, rfl, rfl, _, rfl, ite2 (fun c2 => ?_) (fun c2 => ?_)⟩
  · refine ⟨_, rfl, _, rfl, _, rfl, _, rfl, szle (by rw [csz]; omega), _, rfl, _, _, rfl, rfl, szle (by rw [csz]; show cs.length + 1 ≤ 1000000; omega), szle (Nat.le_trans (Nat.le_refl 3) (by decide)), fun aM nM => ?_⟩
    have e1 : cutS ⟨cs.toArray⟩ none (some 1) = ⟨(cs.take 1).toArray⟩ := by
      have q1 : HT.sIx cs.length cs.length (some 1) - 0 = 1 := by
        rw [show (1 : Int) = ((1 : Nat) : Int) from rfl, HT.sIx_nat]
        omega
      show (⟨((cs.drop 0).take (HT.sIx cs.length cs.length (some 1) - 0)).toArray⟩ : Str) = _
      rw [q1, List.drop_zero]
    have e2 : (⟨cs.toArray⟩ : Str) ++ ("z" : Str) = ⟨(cs ++ [122]).toArray⟩ := TL.ext_tl (by rw [TL.tl_append]; rfl)
    obtain ⟨ys, hys⟩ : ∃ ys : List V, ys = [.str ⟨cs.toArray⟩, .str (cutS ⟨cs.toArray⟩ none (some 1)), .str ((⟨cs.toArray⟩ : Str) ++ ("z" : Str))] := ⟨_, rfl⟩
    have hyl : ys.length = 3 := by rw [hys]; rfl
    have hyx : ∀ r, r < 3 → ∃ cs' : List Nat, ys[r]? = some (.str ⟨cs'.toArray⟩) ∧ cs'.Nodup ∧ (∀ z ∈ cs', okSign z = true) ∧ cs'.length ≤ 10 ∧ cs' ≠ [] := fun r hr => by
      rw [hys, e1, e2]
      rcases r with _ | _ | _ | r
      · exact ⟨cs, rfl, cnd, cok, by omega, cne⟩
      · refine ⟨cs.take 1, rfl, cnd.sublist (List.take_sublist _ _), fun z hz => cok z (List.mem_of_mem_take hz), by rw [List.length_take]; omega, ?_⟩
        cases cs with
        | nil => exact absurd rfl cne
        | cons a l => simp
      · refine ⟨cs ++ [122], rfl, ?_, fun z hz => ?_, by rw [List.length_append, List.length_singleton]; omega, by simp⟩
        · rw [List.nodup_append]
          refine ⟨cnd, by simp, fun x hx y hy e => ?_⟩
          have : y = 122 := by simpa using hy
          rw [e, this] at hx
          exact cz hx
        · rcases List.mem_append.mp hz with q | q
          · exact cok z q
          · rw [List.mem_singleton.mp q]; decide
      · omega
    have s8 := same_new (o := .lst ys) nM
    have hM8 : upd H7 aM (.lst ys) aM = some (.lst ys) := upd_same
    have hD8 := hD7.mono s8
    have nMD : aM ≠ D := by
      obtain ⟨_, _, _, _, _, g1, _⟩ := hD7
      exact (ne_of_none g1 nM).symm
    have i8 := i7.mono (hide_mono s8)
    have eH : upd H7 aM (.lst ys) = upd H7 aM (.lst [.str ⟨cs.toArray⟩, .str (cutS ⟨cs.toArray⟩ none (some 1)), .str ((⟨cs.toArray⟩ : Str) ++ ("z" : Str))]) := by rw [hys]
    refine ⟨_, rfl, c, cells, D, 3, rfl, by rw [← eH]; exact hD8, by decide, by decide, fun r2 H9 hr2 s9 hD9 => ?_⟩
    have s9 : Same (hide [D] (upd H7 aM (.lst ys))) (hide [D] H9) := by rw [eH]; exact s9
    have hM9 : H9 aM = some (.lst ys) := hide_same _ _ _ _ (s9 _ _ (by rw [hide_out (by simpa using nMD)]; exact hM8))
    obtain ⟨cs', hx', nd', ok', len', ne'⟩ := hyx r2 hr2
    refine ⟨aM, _, r2, _, rfl, rfl, SqL.of hM9, atI_nat hx', ?_⟩
    refine ⟨_, rfl, _, rfl, _, rfl, _, rfl, c, cells, D, 4, rfl, hD9, by decide, by decide, fun r3 H10 hr3 s10 hD10 => ⟨_, _, rfl, rfl, c, cells, D, cs', 1 + r3, ?_, hD10, nd', ok', len', ne', by omega, by omega, fun M u H11 okM ml msm s11 hD11 i11 => ⟨szle (Nat.le_trans (Nat.le_refl 2) (by decide)), fun t nt => ?_⟩⟩⟩
    · show [V.ref D, V.str ⟨cs'.toArray⟩, V.int (1 + (r3 : Nat))] = [V.ref D, V.str ⟨cs'.toArray⟩, V.int ((1 + r3 : Nat) : Int)]
      rw [show (1 : Int) + (r3 : Nat) = ((1 + r3 : Nat) : Int) by omega]
    have s12 := same_new (o := .tup [v, u]) nt
    exact k L M v u t _ okL okM (by omega) (by omega) (((((s07.trans (hide_mono s8)).trans s9).trans s10).trans s11).trans (hide_mono s12)) (hD11.mono s12) upd_same ((((i8.mono s9).mono s10).mono s11).mono (hide_mono s12)) (i11.mono (hide_mono s12))
  refine ⟨_, rfl, _, rfl, c, cells, D, v, L, rfl, hD7, i7, okL, by omega, lsm, fun M u H8 okM m12 msm s8 hD8 i8 => ?_⟩
  have i78 := i7.mono s8
  refine ⟨_, rfl, _, _, rfl, rfl, _, rfl, ite2 (fun c3 => ?_) (fun c3 => ?_)⟩
  · refine ⟨_, rfl, _, rfl, szle (Nat.le_trans (Nat.le_refl 2) (by decide)), fun t nt => ?_⟩
    have s9 := same_new (o := .tup [v, u]) nt
    exact k L M v u t _ okL okM (by omega) (by omega) ((s07.trans s8).trans (hide_mono s9)) (hD8.mono s9) upd_same (i78.mono (hide_mono s9)) (i8.mono (hide_mono s9))
  refine ⟨_, rfl, _, rfl, _, rfl, _, rfl, c, cells, D, u, M, cs, rfl, hD8, i8, okM, m12, msm, cok, by omega, fun M2 u2 H9 okM2 m2 s9 hD9 i9 => ⟨szle (Nat.le_trans (Nat.le_refl 2) (by decide)), fun t nt => ?_⟩⟩
  have s10 := same_new (o := .tup [v, u2]) nt
  exact k L M2 v u2 t _ okL okM2 (by omega) (by omega) (((s07.trans s8).trans s9).trans (hide_mono s10)) (hD9.mono s10) upd_same ((i78.mono s9).mono (hide_mono s10)) (i9.mono (hide_mono s10))
end
end Tk
set_option maxHeartbeats 4000000
set_option pp.maxSteps 2500
/-! _law_bent -/
namespace Tk
open PySem L2
def OkD (d : PyData) : Prop := d.depth ≤ 2 ∧ sm d = true
theorem Ims.drop {G : Hp} : ∀ {vs : List V} {ds : List PyData} (k : Nat), Ims G vs ds → Ims G (vs.drop k) (ds.drop k)
  | _, _, 0, h => h
  | _, _, k + 1, .nil => .nil
  | _, _, k + 1, .cons h t => Ims.drop k t
theorem Ims.take {G : Hp} : ∀ {vs : List V} {ds : List PyData} (k : Nat), Ims G vs ds → Ims G (vs.take k) (ds.take k)
  | _, _, 0, h => .nil
  | _, _, k + 1, .nil => .nil
  | _, _, k + 1, .cons h t => .cons h (Ims.take k t)
structure BS (c : Addr) (cells : List Int) (D : Addr) (H0 : Hp) (aR : Addr) (xs : List V) (G : Hp) : Prop where
  base : Same (hide [D] H0) (hide [D, aR] G)
  dr : DrawO c cells (hide [aR] G) D
  hR : G aR = some (.lst xs)
section
variable {c : Addr} {cells : List Int} {D : Addr} {H0 : Hp} {aR : Addr} {xs : List V} {G G' : Hp}
theorem BS.nD (h : BS c cells D H0 aR xs G) : aR ≠ D := fun e => h.dr.notin (by simp [e])
theorem BS.mono (h : BS c cells D H0 aR xs G) (s : Same G G') : BS c cells D H0 aR xs G' := ⟨h.base.trans (hide_mono s), h.dr.mono (hide_mono s), s _ _ h.hR⟩
theorem BS.turn (h : BS c cells D H0 aR xs G) (s : Same (hide [D] G) (hide [D] G')) (hD : DrawO c cells G' D) : BS c cells D H0 aR xs G' :=
  ⟨h.base.trans (hide_wide s (by simp)), h.dr.hid hD, hide_same _ _ _ _ (s _ _ (by rw [hide_out (by simpa using h.nD)]; exact h.hR))⟩
theorem BS.tup (h : BS c cells D H0 aR xs G) {t : Addr} {ys : List V} (e : G t = some (.tup ys)) : hide [D, aR] G t = some (.tup ys) := by
  rw [hide_out]
  · exact e
  · simp only [List.mem_cons, List.not_mem_nil, or_false, not_or]
    refine ⟨fun z => ?_, fun z => ?_⟩
    · obtain ⟨_, _, _, _, _, g1, _⟩ := h.dr
      rw [z, (hide_some g1).2] at e; cases e
    · rw [z, h.hR] at e; cases e
theorem BS.new (h : BS c cells D H0 aR xs G) {t : Addr} (n : G t = none) : t ∉ [D, aR] := by
  simp only [List.mem_cons, List.not_mem_nil, or_false, not_or]
  obtain ⟨_, _, _, _, _, g1, _⟩ := h.dr
  exact ⟨(ne_of_none (hide_some g1).2 n).symm, (ne_of_none h.hR n).symm⟩
theorem BS.see (h : BS c cells D H0 aR xs G) {t : Addr} {o : HO} (e : hide [D] H0 t = some o) : G t = some o := hide_same _ _ _ _ (h.base _ _ e)
end
/-- the chain of ifs of _law_bent -/
def tBent : TS := fun E σ H => ∃ (c : Addr) (cells : List Int) (D : Addr) (H0 : Hp) (aR aF aO : Addr) (xs os : List V) (ds od : List PyData) (dF : PyData) (at_ way : Nat) (s1 s2 s3 s9 : Option V), σ = [some (.ref D), s1, s2, s3, some (.ref aR), some (.int at_), some (.ref aF), some (.ref aO), some (.int way), s9] ∧
  BS c cells D H0 aR xs H ∧ Ims (hide [D, aR] H) xs ds ∧ (∀ d ∈ ds, OkD d) ∧ ds.length ≤ 900 ∧ at_ < xs.length ∧ Im (hide [D, aR] H) (.ref aF) dF ∧ OkD dF ∧ H aO = some (.lst os) ∧ aO ≠ D ∧ Ims (hide [D, aR] H) os od ∧ (∀ d ∈ od, OkD d) ∧ os.length = 16 ∧
  ∀ (p : Addr) (xs' : List V) (ds' : List PyData) (s9 : Option V) H', hide [D] H' p = some (.lst xs') → Ims (hide [D] H') xs' ds' → (∀ d ∈ ds', OkD d) → ds'.length ≤ ds.length + 1 → Same (hide [D] H0) (hide [D] H') → DrawO c cells H' D → E.nx [some (.ref D), s1, s2, s3, some (.ref p), some (.int at_), some (.ref aF), some (.ref aO), some (.int way), s9] H'
section
variable {P : Program} {w : World} {K : PySem.W.Frag} {mg : Str → Option Value} {base : Heap}
def spBent : Sp := fun vs H Q _ => ∃ (c : Addr) (cells : List Int) (D a : Addr) (v1 v2 : V) (xs : List V) (ds : List PyData) (L M : Pl), vs = [.ref D, .ref a, v1, v2] ∧ DrawO c cells H D ∧ hide [D] H a = some (.lst xs) ∧ Ims (hide [D] H) xs ds ∧ (∀ d ∈ ds, OkD d) ∧ ds.length ≤ 900 ∧ Im (hide [D] H) v1 L.d ∧ Im (hide [D] H) v2 M.d ∧ L.Ok ∧ M.Ok ∧
  ∀ (p : Addr) (xs' : List V) (ds' : List PyData) H', hide [D] H' p = some (.lst xs') → Ims (hide [D] H') xs' ds' → (∀ d ∈ ds', OkD d) → ds'.length ≤ ds.length + 1 → Same (hide [D] H) (hide [D] H') → DrawO c cells H' D → Q (.ref p) H'
theorem ok_bent (T : Fx K mg) : FnOk P w K mg base CX0 3 T.a_bent T.d_bent ["_law_draw_here", "_law_table", "_law_one", "_law_two_here"] spBent := by
  refine T.F_bent.ok sc_bent (fun vs H Q E h => ?_) (fun cdv A outer s H vs Q E hr h => ?_)
  · obtain ⟨_, _, D, a, v1, v2, xs, ds, L, M, rfl, _⟩ := h; rfl
  obtain ⟨c, cells, D, a, v1, v2, xs, ds, L, M, rfl, hD, ha, ix, hok, dl, i1, i2, okL, okM, k⟩ := h
  have hu := hu_of hr
  refine ⟨_, PSs.nox ((pss_cons (ps_set (i := 4) sc_bent.nd rfl (.inl rfl) (pe_callTy call_list_of (by rfl) T.z_list (by decide +kernel) (pa_cons (pv 1) pa_nil)))
    (pss_cons (ps_if (pt_not (pt_truth (pv 4) (by intro _; rfl)))
      (pss_one (ps_ret (pe_lst (pa_cons (pe_tup (pa_cons pe_int (pa_cons pe_int pa_nil))) pa_nil))))
      pss_nil)
    (pss_cons (ps_set (i := 5) sc_bent.nd rfl (.inl rfl) (pe_call (ok_pick T) (hr.mono (by decide)) (by rfl) T.g_pick T.F_pick.kp T.b_pick .nil pass0 (pa_cons (pv 0) (pa_cons (pe_callB call_len_seq (by rfl) T.z_len (by decide +kernel) (pa_cons (pv 4) pa_nil)) pa_nil))))
    (pss_cons (ps_set (i := 6) sc_bent.nd rfl (.inl rfl) (pe_tup (pa_cons (pe_call (ok_pick T) (hr.mono (by decide)) (by rfl) T.g_pick T.F_pick.kp T.b_pick .nil pass0 (pa_cons (pv 0) (pa_cons (pe_callB call_len_seq (by rfl) T.z_len (by decide +kernel) (pa_cons (pe_ix ix_tup (pv 2) pe_int (fun _ _ => rfl)) pa_nil)) pa_nil))) (pa_cons (pe_call (ok_pick T) (hr.mono (by decide)) (by rfl) T.g_pick T.F_pick.kp T.b_pick .nil pass0 (pa_cons (pv 0) (pa_cons (pe_callB call_len_seq (by rfl) T.z_len (by decide +kernel) (pa_cons (pe_ix ix_tup (pv 3) pe_int (fun _ _ => rfl)) pa_nil)) pa_nil))) pa_nil))))
    (pss_cons (ps_set (i := 7) sc_bent.nd rfl (.inl rfl) (pe_lst (pa_cons pe_non (pa_cons pe_int (pa_cons pe_str (pa_cons (pe_tup (pa_cons pe_int pa_nil)) (pa_cons (pe_tup (pa_cons pe_int (pa_cons pe_int (pa_cons pe_int pa_nil)))) (pa_cons (pe_tup (pa_cons pe_bl (pa_cons pe_int pa_nil))) (pa_cons (pe_tup (pa_cons pe_int (pa_cons pe_bl pa_nil))) (pa_cons (pe_tup (pa_cons (pe_un un_neg pe_int) (pa_cons pe_int pa_nil))) (pa_cons (pe_tup (pa_cons pe_int (pa_cons (pe_un un_neg pe_int) pa_nil))) (pa_cons (pe_tup (pa_cons (pe_callB call_len_seq (by rfl) T.z_len (by decide +kernel) (pa_cons (pe_ix ix_tup (pv 2) pe_int (fun _ _ => rfl)) pa_nil)) (pa_cons pe_int pa_nil))) (pa_cons (pe_tup (pa_cons pe_int (pa_cons (pe_callB call_len_seq (by rfl) T.z_len (by decide +kernel) (pa_cons (pe_ix ix_tup (pv 3) pe_int (fun _ _ => rfl)) pa_nil)) pa_nil))) pa_nil)))))))))))))
    (pss_cons (ps_set (i := 7) sc_bent.nd rfl (.inl rfl) (pe_op op_cat (pv 7) (pe_lst (pa_cons (pe_tup (pa_cons pe_str (pa_cons pe_int pa_nil))) (pa_cons (pe_tup (pa_cons (pe_tup (pa_cons pe_int (pa_cons pe_int pa_nil))) (pa_cons pe_int pa_nil))) (pa_cons (pe_tup (pa_cons pe_int (pa_cons pe_non pa_nil))) (pa_cons (pe_tup pa_nil) (pa_cons (pe_lst (pa_cons pe_int (pa_cons pe_int pa_nil))) pa_nil))))))))
    (pss_cons (ps_set (i := 8) sc_bent.nd rfl (.inl rfl) (pe_call (ok_pick T) (hr.mono (by decide)) (by rfl) T.g_pick T.F_pick.kp T.b_pick .nil pass0 (pa_cons (pv 0) (pa_cons pe_int pa_nil))))
    (pss_cons (ps_imp (t' := tBent) (ps_if (pt_cmpR op_eq (pv 8) pe_int (nomark _))
      (pss_one (ps_asg (pv 6) (pg_sub (pv 4) (pv 5) set_list)))
      (pss_one (ps_if (pt_cmpR op_eq (pv 8) pe_int (nomark _))
        (pss_one (ps_expr (pe_bm PySem.F.plainAttrs_list PySem.F.slot_list_pop PySem.F.type_list_pop mt_popAt (pv 4) (pa_cons (pv 5) pa_nil))))
        (pss_one (ps_if (pt_cmpR op_eq (pv 8) pe_int (nomark _))
          (pss_one (ps_expr (pe_bm PySem.F.plainAttrs_list PySem.F.slot_list_insert PySem.F.type_list_insert mt_insert (pv 4) (pa_cons (pv 5) (pa_cons (pv 6) pa_nil)))))
          (pss_one (ps_if (pt_cmpR op_eq (pv 8) pe_int (nomark _))
            (pss_cons (ps_set (i := 9) sc_bent.nd rfl (.inl rfl) (pe_bm PySem.F.plainAttrs_list PySem.F.slot_list_pop PySem.F.type_list_pop mt_popAt (pv 4) (pa_cons (pv 5) pa_nil)))
            (pss_one (ps_expr (pe_bm PySem.F.plainAttrs_list PySem.F.slot_list_append PySem.F.type_list_append mt_append (pv 4) (pa_cons (pv 9) pa_nil)))))
            (pss_one (ps_if (pt_cmpR op_eq (pv 8) pe_int (nomark _))
              (pss_one (ps_set (i := 4) sc_bent.nd rfl (.inl rfl) (pe_op op_cat (pe_slice sl_list (pv 4) (po_some (pv 5)) po_none) (pe_slice sl_list (pv 4) po_none (po_some (pv 5))))))
              (pss_one (ps_if (pt_cmpR op_eq (pv 8) pe_int (nomark _))
                (pss_one (ps_asg (pe_ix ix_list (pv 7) (pe_call (ok_pick T) (hr.mono (by decide)) (by rfl) T.g_pick T.F_pick.kp T.b_pick .nil pass0 (pa_cons (pv 0) (pa_cons (pe_callB call_len_seq (by rfl) T.z_len (by decide +kernel) (pa_cons (pv 7) pa_nil)) pa_nil))) (fun _ _ => rfl)) (pg_sub (pv 4) (pv 5) set_list)))
                (pss_one (ps_if (pt_cmpR op_eq (pv 8) pe_int (nomark _))
                  (pss_one (ps_expr (pe_bm PySem.F.plainAttrs_list PySem.F.slot_list_insert PySem.F.type_list_insert mt_insert (pv 4) (pa_cons (pv 5) (pa_cons (pe_ix ix_list (pv 7) (pe_call (ok_pick T) (hr.mono (by decide)) (by rfl) T.g_pick T.F_pick.kp T.b_pick .nil pass0 (pa_cons (pv 0) (pa_cons (pe_callB call_len_seq (by rfl) T.z_len (by decide +kernel) (pa_cons (pv 7) pa_nil)) pa_nil))) (fun _ _ => rfl)) pa_nil)))))
                  (pss_one (ps_if (pt_val (pe_callB (cr_is kit_T) (by rfl) T.z_isinstance (by decide +kernel) (pa_cons (pe_ix ix_list (pv 4) (pv 5) (fun _ _ => rfl)) (pa_cons (pe_bltn (v := .ty "tuple") (u := .type "tuple") (by rfl) T.z_tuple (by decide +kernel) rfl) pa_nil))))
                    (pss_one (ps_asg (pe_callTy call_list_of (by rfl) T.z_list (by decide +kernel) (pa_cons (pe_ix ix_list (pv 4) (pv 5) (fun _ _ => rfl)) pa_nil)) (pg_sub (pv 4) (pv 5) set_list)))
                    pss_nil))))))))))))))) ?I2)
    (pss_one (ps_ret (pv 4)))))))))))), ?_⟩
  case I2 =>
    clear k hD ha ix hok dl i1 i2 okL okM
    intro E' σ H h
    obtain ⟨c, cells, D, H0, aR, aF, aO, xs, os, ds, od, dF, at_, way, s1, s2, s3, s9, rfl, bs, ix, hok, dl, hat, iF, okF, hO, nOD, iO, oko, ol, k⟩ := h
    have xl : xs.length = ds.length := ix.len
    have hx : xs[at_]? = some xs[at_] := List.getElem?_eq_getElem hat
    obtain ⟨d, hdd, him⟩ := ix.get hx
    have hdo := hok d (List.mem_of_getElem? hdd)
    generalize xs[at_] = x at hx him
    -- the list itself is written
    have fin : ∀ (G : Hp) (xs' : List V) (ds' : List PyData) (s9 : Option V), BS c cells D H0 aR xs G → Ims (hide [D, aR] G) xs' ds' → (∀ d ∈ ds', OkD d) → ds'.length ≤ ds.length + 1 → E'.nx [some (.ref D), s1, s2, s3, some (.ref aR), some (.int at_), some (.ref aF), some (.ref aO), some (.int way), s9] (upd G aR (.lst xs')) := fun G xs' ds' s9 b i o l => by
      have m1 : hide [D, aR] (upd G aR (.lst xs')) = hide [D, aR] G := hide_mut (by simp)
      have m2 : hide [aR] (upd G aR (.lst xs')) = hide [aR] G := hide_mut (by simp)
      have sub : Same (hide [D, aR] G) (hide [D] (upd G aR (.lst xs'))) := by rw [← m1]; exact hide_sub (by simp)
      refine k aR xs' ds' s9 _ ?_ (i.mono sub) o l (b.base.trans sub) ?_
      · rw [hide_out (by simpa using bs.nD)]; exact upd_same
      · have := b.dr
        rw [← m2] at this
        exact this.mono (hide_same _ _)
    have oset : ∀ (e : PyData), OkD e → ∀ d ∈ ds.set at_ e, OkD d := fun e he d hd => by
      rcases List.mem_or_eq_of_mem_set hd with q | q
      · exact hok d q
      · rw [q]; exact he
    have eat : ((at_ : Nat) : Int).toNat = at_ := by omega
    have oins : ∀ (e : PyData), OkD e → ∀ d ∈ ds.take at_ ++ [e] ++ ds.drop at_, OkD d := fun e he d hd => by
      rcases List.mem_append.mp hd with q | q
      · rcases List.mem_append.mp q with q | q
        · exact hok d (List.mem_of_mem_take q)
        · rw [List.mem_singleton.mp q]; exact he
      · exact hok d (List.mem_of_mem_drop q)
    have lins : ∀ e : PyData, (ds.take at_ ++ [e] ++ ds.drop at_).length ≤ ds.length + 1 := fun e => by
      rw [List.length_append, List.length_append, List.length_take, List.length_drop, List.length_singleton]; omega
    refine ⟨_, rfl, rfl, _, rfl, ite2 (fun c0 => ?_) (fun c0 => ?_)⟩
    · exact ⟨_, rfl, _, rfl, _, rfl, aR, xs, _, at_, rfl, rfl, bs.hR, ixn_nat hat, fin _ _ _ _ bs (Ims.set iF at_ ix) (oset _ okF) (by rw [List.length_set]; omega)⟩
    refine ⟨_, rfl, rfl, _, rfl, ite2 (fun c1 => ?_) (fun c1 => ?_)⟩
    · exact ⟨_, rfl, .inl ⟨rfl, _, SqL.of bs.hR⟩, _, rfl, aR, xs, _, at_, _, rfl, rfl, bs.hR, by omega, by omega, (ixN_seq (ixn_nat hat)).1, hx, fin _ _ _ _ bs (ix.erase at_) (fun d hd => hok d ((List.eraseIdx_sublist ds at_).subset hd)) (by have := (List.eraseIdx_sublist ds at_).length_le; omega)⟩
    refine ⟨_, rfl, rfl, _, rfl, ite2 (fun c2 => ?_) (fun c2 => ?_)⟩
    · refine ⟨_, rfl, .inl ⟨rfl, _, SqL.of bs.hR⟩, _, rfl, _, rfl, aR, xs, _, _, rfl, rfl, bs.hR, szlt (by omega), by omega, by omega, ?_⟩
      rw [eat]
      exact fin _ _ _ _ bs (((ix.take at_).app (.one iF)).app (ix.drop at_)) (oins _ okF) (lins _)
    refine ⟨_, rfl, rfl, _, rfl, ite2 (fun c3 => ?_) (fun c3 => ?_)⟩
    · refine ⟨_, rfl, .inl ⟨rfl, _, SqL.of bs.hR⟩, _, rfl, aR, xs, _, at_, _, rfl, rfl, bs.hR, by omega, by omega, (ixN_seq (ixn_nat hat)).1, hx, ?_⟩
      have el : (xs.eraseIdx at_).length ≤ xs.length := (List.eraseIdx_sublist xs at_).length_le
      refine ⟨_, rfl, .inl ⟨rfl, _, SqL.of upd_same⟩, _, rfl, aR, _, _, rfl, rfl, upd_same, szlt (by omega), ?_⟩
      rw [upd_upd]
      refine fin _ _ _ _ bs ((ix.erase at_).snoc him) (fun e he => ?_) ?_
      · rcases List.mem_append.mp he with q | q
        · exact hok e ((List.eraseIdx_sublist ds at_).subset q)
        · rw [List.mem_singleton.mp q]; exact hdo
      · have := (List.eraseIdx_sublist ds at_).length_le
        rw [List.length_append, List.length_singleton]; omega
    refine ⟨_, rfl, rfl, _, rfl, ite2 (fun c4 => ?_) (fun c4 => ?_)⟩
    · refine ⟨_, rfl, _, rfl, _, rfl, aR, xs, rfl, SqL.of bs.hR, fun p1 n1 => ?_⟩
      have z1 := same_new (o := .lst (cutV xs (some at_) none)) n1
      have g1 : upd H p1 (.lst (cutV xs (some at_) none)) p1 = some (.lst (cutV xs (some at_) none)) := upd_same
      generalize upd H p1 (.lst (cutV xs (some at_) none)) = G1 at z1 g1
      refine ⟨_, rfl, _, rfl, _, rfl, aR, xs, rfl, SqL.of (z1 _ _ bs.hR), fun p2 n2 => ?_⟩
      have z2 := same_new (o := .lst (cutV xs none (some at_))) n2
      have g2 : upd G1 p2 (.lst (cutV xs none (some at_))) p2 = some (.lst (cutV xs none (some at_))) := upd_same
      generalize upd G1 p2 (.lst (cutV xs none (some at_))) = G2 at z2 g2
      have l1 := cutV_length xs (some at_) none
      have l2 := cutV_length xs none (some at_)
      refine ⟨p1, p2, _, _, rfl, rfl, z2 _ _ g1, g2, szle (by omega), fun p3 n3 => ?_⟩
      have z3 := same_new (o := .lst (cutV xs (some at_) none ++ cutV xs none (some at_))) n3
      have g3 : upd G2 p3 (.lst (cutV xs (some at_) none ++ cutV xs none (some at_))) p3 = some (.lst (cutV xs (some at_) none ++ cutV xs none (some at_))) := upd_same
      generalize upd G2 p3 (.lst (cutV xs (some at_) none ++ cutV xs none (some at_))) = G3 at z3 g3
      have b3 := ((bs.mono z1).mono z2).mono z3
      have np3 := ((bs.mono z1).mono z2).new n3
      have ix3 := ix.mono (hide_mono (L := [D, aR]) ((z1.trans z2).trans z3))
      have sub : Same (hide [D, aR] G3) (hide [D] G3) := hide_sub (by simp)
      have q1 : cutV xs (some at_) none = xs.drop at_ := by
        unfold cutV
        rw [HT.sIx_nat, HT.sIx_none, Nat.min_eq_left (by omega)]
        exact List.take_of_length_le (by rw [List.length_drop]; omega)
      have q2 : cutV xs none (some at_) = xs.take at_ := by
        unfold cutV
        rw [HT.sIx_nat, HT.sIx_none, Nat.min_eq_left (by omega)]
        rfl
      rw [q1, q2] at g3
      refine k p3 _ _ _ _ (by rw [hide_out (by simp at np3 ⊢; exact np3.1)]; exact g3) (((ix3.drop at_).app (ix3.take at_)).mono sub) (fun e he => ?_) ?_ (b3.base.trans sub) (b3.dr.mono (hide_same _ _))
      · rcases List.mem_append.mp he with q | q
        · exact hok e (List.mem_of_mem_drop q)
        · exact hok e (List.mem_of_mem_take q)
      · rw [List.length_append, List.length_drop, List.length_take]; omega
    have hOx : ∀ r, r < os.length → ∃ y e, os[r]? = some y ∧ Im (hide [D, aR] H) y e ∧ OkD e := fun r hr => by
      have h1 := List.getElem?_eq_getElem hr
      obtain ⟨e, h2, h3⟩ := iO.get h1
      exact ⟨_, e, h1, h3, oko e (List.mem_of_getElem? h2)⟩
    refine ⟨_, rfl, rfl, _, rfl, ite2 (fun c5 => ?_) (fun c5 => ?_)⟩
    · refine ⟨_, rfl, _, rfl, _, rfl, aO, _, rfl, .inl (SqL.of hO), c, cells, D, os.length, rfl, bs.dr.mono (hide_same _ _), by omega, by omega, fun r G1 hr z1 hD1 => ?_⟩
      have b1 := bs.turn z1 hD1
      have hO1 : G1 aO = some (.lst os) := hide_same _ _ _ _ (z1 _ _ (by rw [hide_out (by simpa using nOD)]; exact hO))
      have z1 := hide_wide (M := [D, aR]) z1 (by simp)
      obtain ⟨y, e, hy, iy, oy⟩ := hOx r hr
      exact ⟨aO, _, r, _, rfl, rfl, SqL.of hO1, atI_nat hy, _, rfl, _, rfl, aR, xs, _, at_, rfl, rfl, b1.hR, ixn_nat hat, fin _ _ _ _ b1 (Ims.set (iy.mono z1) at_ (ix.mono z1)) (oset _ oy) (by rw [List.length_set]; omega)⟩
    refine ⟨_, rfl, rfl, _, rfl, ite2 (fun c6 => ?_) (fun c6 => ?_)⟩
    · refine ⟨_, rfl, .inl ⟨rfl, _, SqL.of bs.hR⟩, _, rfl, _, rfl, _, rfl, _, rfl, aO, _, rfl, .inl (SqL.of hO), c, cells, D, os.length, rfl, bs.dr.mono (hide_same _ _), by omega, by omega, fun r G1 hr z1 hD1 => ?_⟩
      have b1 := bs.turn z1 hD1
      have hO1 : G1 aO = some (.lst os) := hide_same _ _ _ _ (z1 _ _ (by rw [hide_out (by simpa using nOD)]; exact hO))
      have z1 := hide_wide (M := [D, aR]) z1 (by simp)
      obtain ⟨y, e, hy, iy, oy⟩ := hOx r hr
      refine ⟨aO, _, r, _, rfl, rfl, SqL.of hO1, atI_nat hy, aR, xs, _, _, rfl, rfl, b1.hR, szlt (by omega), by omega, by omega, ?_⟩
      rw [eat]
      exact fin _ _ _ _ b1 ((((ix.mono z1).take at_).app (.one (iy.mono z1))).app ((ix.mono z1).drop at_)) (oins _ oy) (lins _)
    have same : E'.nx [some (.ref D), s1, s2, s3, some (.ref aR), some (.int at_), some (.ref aF), some (.ref aO), some (.int way), s9] H := by
      have sub : Same (hide [D, aR] H) (hide [D] H) := hide_sub (by simp)
      exact k aR xs ds s9 H (by rw [hide_out (by simpa using bs.nD)]; exact bs.hR) (ix.mono sub) hok (by omega) (bs.base.trans sub) (bs.dr.mono (hide_same _ _))
    refine ⟨_, rfl, _, rfl, aR, _, at_, _, rfl, rfl, SqL.of bs.hR, atI_nat hx, x, d, rfl, him.mono (hide_same _ _), _, rfl, ?_⟩
    cases him with
    | int n => exact iteF same
    | bl b => exact iteF same
    | non => exact iteF same
    | str x => exact iteF same
    | lst e t => exact iteF same
    | @tup q ys zs e t =>
      have e' := hide_same _ _ _ _ e
      refine iteT ⟨_, rfl, _, rfl, aR, _, at_, _, rfl, rfl, SqL.of bs.hR, atI_nat hx, q, ys, rfl, .inr (SqT.of e'), fun p np => ?_⟩
      have z1 := same_new (o := .lst ys) np
      have b1 := bs.mono z1
      have nph := bs.new np
      have zz := hide_mono (L := [D, aR]) z1
      refine ⟨_, rfl, _, rfl, aR, xs, _, at_, rfl, rfl, b1.hR, ixn_nat hat, fin _ _ _ _ b1 (Ims.set (d := .list zs) (.lst ?_ (t.mono zz)) at_ (ix.mono zz)) (oset _ ?_) (by rw [List.length_set]; omega)⟩
      · rw [hide_out nph]; exact upd_same
      · obtain ⟨o1, o2⟩ := hdo
        rw [PyData.depth] at o1
        rw [sm] at o2
        exact ⟨by rw [PyData.depth]; exact o1, by rw [sm]; exact o2⟩
  have xl : xs.length = ds.length := ix.len
  have ha1 := hide_same _ _ _ _ ha
  refine ⟨_, rfl, a, xs, rfl, .inl (SqL.of ha1), fun aR nR => ?_⟩
  have nRD : aR ≠ D := by
    obtain ⟨_, _, _, _, _, g1, _⟩ := hD
    exact (ne_of_none g1 nR).symm
  have s1 := same_new (o := .lst xs) nR
  have b1 : BS c cells D H aR xs (upd H aR (.lst xs)) := by
    refine ⟨fun z o e => ?_, ?_, upd_same⟩
    · obtain ⟨q1, q2⟩ := hide_some e
      have := ne_of_none q2 nR
      rw [hide_out (by simp at q1 ⊢; exact ⟨q1, this⟩), upd_ne this]; exact q2
    · rw [hide_mut (by simp)]
      exact hD.mono fun z o e => by rw [hide_out (by simpa using ne_of_none e nR)]; exact e
  generalize upd H aR (.lst xs) = H1 at s1 b1
  by_cases hne : xs = []
  · subst hne
    refine ⟨_, rfl, _, truL (SqL.of b1.hR), iteT ⟨szle (Nat.le_trans (Nat.le_refl 2) (by decide)), fun t nt => ⟨szle (Nat.le_trans (Nat.le_refl 1) (by decide)), fun p np => ?_⟩⟩⟩
    have z1 := same_new (o := .tup [.int 0, .int 0]) nt
    have f1 : upd H1 t (.tup [.int 0, .int 0]) t = some (.tup [.int 0, .int 0]) := upd_same
    generalize upd H1 t (.tup [.int 0, .int 0]) = H2 at z1 f1 np
    have z2 := same_new (o := .lst [.ref t]) np
    have f2 : upd H2 p (.lst [.ref t]) p = some (.lst [.ref t]) := upd_same
    have b2 := b1.mono z1
    have npn := b2.new np
    generalize upd H2 p (.lst [.ref t]) = H3 at z2 f2
    have b3 := b2.mono z2
    have sub : Same (hide [D, aR] H3) (hide [D] H3) := hide_sub (by simp)
    refine k p _ [.tuple [.int 0, .int 0]] _ (by rw [hide_out (by simp at npn ⊢; exact npn.1)]; exact f2) (.cons (.tup (sub _ _ (b3.tup (z2 _ _ f1))) (.cons (.int 0) (.cons (.int 0) .nil))) .nil) (fun d hd => ?_) (by simp) (b3.base.trans sub) (b3.dr.mono (hide_same _ _))
    rw [List.mem_singleton.mp hd]
    exact ⟨by decide, by decide⟩
  have hT : TruV K (.ref aR) H1 true := by
    have := truL (K := K) (SqL.of b1.hR)
    rw [show xs.isEmpty = false by cases xs with | nil => exact absurd rfl hne | cons _ _ => rfl] at this
    exact this
  have xpos : 0 < xs.length := List.length_pos_iff.mpr hne
  refine ⟨_, rfl, _, hT, iteF ?_⟩
  refine ⟨_, rfl, _, rfl, aR, _, rfl, .inl (SqL.of b1.hR), c, cells, D, xs.length, rfl, b1.dr.mono (hide_same _ _), xpos, by omega, fun at_ H2 hat s2 hD2 => ?_⟩
  have b2 := b1.turn s2 hD2
  obtain ⟨a1, aS1, e1, y1, rfl, ha1, haS1, iy1, _⟩ := Pl.inv i1
  obtain ⟨a2, aS2, e2, y2, rfl, ha2, haS2, iy2, _⟩ := Pl.inv i2
  have yl1 : y1.length = L.rows.length := by rw [iy1.len, List.length_map]
  have yl2 : y2.length = M.rows.length := by rw [iy2.len, List.length_map]
  have pL := okL.pos
  have pM := okM.pos
  have fL := okL.few
  have fM := okM.few
  refine ⟨_, rfl, _, rfl, a1, _, 0, _, rfl, rfl, SqT.of (b2.see ha1), atI_nat (j := 0) rfl, aS1, _, rfl, .inr (SqT.of (b2.see haS1)), c, cells, D, y1.length, rfl, b2.dr.mono (hide_same _ _), by omega, by omega, fun r1 H3 hr1 s3 hD3 => ?_⟩
  have b3 := b2.turn s3 hD3
  refine ⟨_, rfl, _, rfl, a2, _, 0, _, rfl, rfl, SqT.of (b3.see ha2), atI_nat (j := 0) rfl, aS2, _, rfl, .inr (SqT.of (b3.see haS2)), c, cells, D, y2.length, rfl, b3.dr.mono (hide_same _ _), by omega, by omega, fun r2 H4 hr2 s4 hD4 => ?_⟩
  have b4 := b3.turn s4 hD4
  refine ⟨szle (Nat.le_trans (Nat.le_refl 2) (by decide)), fun aF nF => ?_⟩
  have s5 := same_new (o := .tup [.int (r1 : Nat), .int (r2 : Nat)]) nF
  have fF : upd H4 aF (.tup [.int (r1 : Nat), .int (r2 : Nat)]) aF = some (.tup [.int (r1 : Nat), .int (r2 : Nat)]) := upd_same
  generalize upd H4 aF (.tup [.int (r1 : Nat), .int (r2 : Nat)]) = G0 at s5 fF
  have b5 := b4.mono s5
  have ha1 := b5.see ha1
  have ha2 := b5.see ha2
  have haS1 := b5.see haS1
  have haS2 := b5.see haS2
  clear b4 b3 b2 b1 s5 s4 hD4 s3 hD3 s2 hD2 s1
  refine ⟨szle (Nat.le_trans (Nat.le_refl 1) (by decide)), fun t1 n1 => ?_⟩
  have s1 := same_new (o := .tup [.int 0]) n1
  have f1 : upd G0 t1 (.tup [.int 0]) t1 = some (.tup [.int 0]) := upd_same
  generalize upd G0 t1 (.tup [.int 0]) = G1 at s1 f1
  refine ⟨szle (Nat.le_trans (Nat.le_refl 3) (by decide)), fun t2 n2 => ?_⟩
  have s2 := same_new (o := .tup [.int 0, .int 0, .int 0]) n2
  have f2 : upd G1 t2 (.tup [.int 0, .int 0, .int 0]) t2 = some (.tup [.int 0, .int 0, .int 0]) := upd_same
  generalize upd G1 t2 (.tup [.int 0, .int 0, .int 0]) = G2 at s2 f2
  refine ⟨szle (Nat.le_trans (Nat.le_refl 2) (by decide)), fun t3 n3 => ?_⟩
  have s3 := same_new (o := .tup [.bl true, .int 0]) n3
  have f3 : upd G2 t3 (.tup [.bl true, .int 0]) t3 = some (.tup [.bl true, .int 0]) := upd_same
  generalize upd G2 t3 (.tup [.bl true, .int 0]) = G3 at s3 f3
  refine ⟨szle (Nat.le_trans (Nat.le_refl 2) (by decide)), fun t4 n4 => ?_⟩
  have s4 := same_new (o := .tup [.int 0, .bl false]) n4
  have f4 : upd G3 t4 (.tup [.int 0, .bl false]) t4 = some (.tup [.int 0, .bl false]) := upd_same
  generalize upd G3 t4 (.tup [.int 0, .bl false]) = G4 at s4 f4
  refine ⟨_, rfl, szle (Nat.le_trans (Nat.le_refl 2) (by decide)), fun t5 n5 => ?_⟩
  have s5 := same_new (o := .tup [.int (-1), .int 0]) n5
  have f5 : upd G4 t5 (.tup [.int (-1), .int 0]) t5 = some (.tup [.int (-1), .int 0]) := upd_same
  generalize upd G4 t5 (.tup [.int (-1), .int 0]) = G5 at s5 f5
  refine ⟨_, rfl, szle (Nat.le_trans (Nat.le_refl 2) (by decide)), fun t6 n6 => ?_⟩
  have s6 := same_new (o := .tup [.int 0, .int (-1)]) n6
  have f6 : upd G5 t6 (.tup [.int 0, .int (-1)]) t6 = some (.tup [.int 0, .int (-1)]) := upd_same
  generalize upd G5 t6 (.tup [.int 0, .int (-1)]) = G6 at s6 f6
  refine ⟨_, rfl, a1, _, 0, _, rfl, rfl, SqT.of ((s6 _ _ (s5 _ _ (s4 _ _ (s3 _ _ (s2 _ _ (s1 _ _ ha1))))))), atI_nat (j := 0) rfl, aS1, _, rfl, .inr (SqT.of ((s6 _ _ (s5 _ _ (s4 _ _ (s3 _ _ (s2 _ _ (s1 _ _ haS1)))))))), szle (Nat.le_trans (Nat.le_refl 2) (by decide)), fun t7 n7 => ?_⟩
  have s7 := same_new (o := .tup [.int (y1.length : Nat), .int 0]) n7
  have f7 : upd G6 t7 (.tup [.int (y1.length : Nat), .int 0]) t7 = some (.tup [.int (y1.length : Nat), .int 0]) := upd_same
  generalize upd G6 t7 (.tup [.int (y1.length : Nat), .int 0]) = G7 at s7 f7
  refine ⟨_, rfl, a2, _, 0, _, rfl, rfl, SqT.of ((s7 _ _ (s6 _ _ (s5 _ _ (s4 _ _ (s3 _ _ (s2 _ _ (s1 _ _ ha2)))))))), atI_nat (j := 0) rfl, aS2, _, rfl, .inr (SqT.of ((s7 _ _ (s6 _ _ (s5 _ _ (s4 _ _ (s3 _ _ (s2 _ _ (s1 _ _ haS2))))))))), szle (Nat.le_trans (Nat.le_refl 2) (by decide)), fun t8 n8 => ?_⟩
  have s8 := same_new (o := .tup [.int 0, .int (y2.length : Nat)]) n8
  have f8 : upd G7 t8 (.tup [.int 0, .int (y2.length : Nat)]) t8 = some (.tup [.int 0, .int (y2.length : Nat)]) := upd_same
  generalize upd G7 t8 (.tup [.int 0, .int (y2.length : Nat)]) = G8 at s8 f8
  refine ⟨szle (Nat.le_trans (Nat.le_refl 11) (by decide)), fun t9 n9 => ?_⟩
  have s9 := same_new (o := .lst [.non, .int 7, .str "00", .ref t1, .ref t2, .ref t3, .ref t4, .ref t5, .ref t6, .ref t7, .ref t8]) n9
  have f9 : upd G8 t9 (.lst [.non, .int 7, .str "00", .ref t1, .ref t2, .ref t3, .ref t4, .ref t5, .ref t6, .ref t7, .ref t8]) t9 = some (.lst [.non, .int 7, .str "00", .ref t1, .ref t2, .ref t3, .ref t4, .ref t5, .ref t6, .ref t7, .ref t8]) := upd_same
  generalize upd G8 t9 (.lst [.non, .int 7, .str "00", .ref t1, .ref t2, .ref t3, .ref t4, .ref t5, .ref t6, .ref t7, .ref t8]) = G9 at s9 f9
  refine ⟨_, rfl, szle (Nat.le_trans (Nat.le_refl 2) (by decide)), fun t10 n10 => ?_⟩
  have s10 := same_new (o := .tup [.str "0", .int 0]) n10
  have f10 : upd G9 t10 (.tup [.str "0", .int 0]) t10 = some (.tup [.str "0", .int 0]) := upd_same
  generalize upd G9 t10 (.tup [.str "0", .int 0]) = G10 at s10 f10
  refine ⟨szle (Nat.le_trans (Nat.le_refl 2) (by decide)), fun t11 n11 => ?_⟩
  have s11 := same_new (o := .tup [.int 0, .int 0]) n11
  have f11 : upd G10 t11 (.tup [.int 0, .int 0]) t11 = some (.tup [.int 0, .int 0]) := upd_same
  generalize upd G10 t11 (.tup [.int 0, .int 0]) = G11 at s11 f11
  refine ⟨szle (Nat.le_trans (Nat.le_refl 2) (by decide)), fun t12 n12 => ?_⟩
  have s12 := same_new (o := .tup [.ref t11, .int 0]) n12
  have f12 : upd G11 t12 (.tup [.ref t11, .int 0]) t12 = some (.tup [.ref t11, .int 0]) := upd_same
  generalize upd G11 t12 (.tup [.ref t11, .int 0]) = G12 at s12 f12
  refine ⟨szle (Nat.le_trans (Nat.le_refl 2) (by decide)), fun t13 n13 => ?_⟩
  have s13 := same_new (o := .tup [.int 0, .non]) n13
  have f13 : upd G12 t13 (.tup [.int 0, .non]) t13 = some (.tup [.int 0, .non]) := upd_same
  generalize upd G12 t13 (.tup [.int 0, .non]) = G13 at s13 f13
  refine ⟨szle (Nat.le_trans (Nat.le_refl 0) (by decide)), fun t14 n14 => ?_⟩
  have s14 := same_new (o := .tup []) n14
  have f14 : upd G13 t14 (.tup []) t14 = some (.tup []) := upd_same
  generalize upd G13 t14 (.tup []) = G14 at s14 f14
  refine ⟨szle (Nat.le_trans (Nat.le_refl 2) (by decide)), fun t15 n15 => ?_⟩
  have s15 := same_new (o := .lst [.int 0, .int 0]) n15
  have f15 : upd G14 t15 (.lst [.int 0, .int 0]) t15 = some (.lst [.int 0, .int 0]) := upd_same
  generalize upd G14 t15 (.lst [.int 0, .int 0]) = G15 at s15 f15
  refine ⟨szle (Nat.le_trans (Nat.le_refl 5) (by decide)), fun t16 n16 => ?_⟩
  have s16 := same_new (o := .lst [.ref t10, .ref t12, .ref t13, .ref t14, .ref t15]) n16
  have f16 : upd G15 t16 (.lst [.ref t10, .ref t12, .ref t13, .ref t14, .ref t15]) t16 = some (.lst [.ref t10, .ref t12, .ref t13, .ref t14, .ref t15]) := upd_same
  generalize upd G15 t16 (.lst [.ref t10, .ref t12, .ref t13, .ref t14, .ref t15]) = G16 at s16 f16
  have f9' := s16 _ _ (s15 _ _ (s14 _ _ (s13 _ _ (s12 _ _ (s11 _ _ (s10 _ _ (f9)))))))
  refine ⟨t9, t16, _, _, rfl, rfl, f9', f16, szle (Nat.le_trans (Nat.le_refl 16) (by decide)), fun t17 n17 => ?_⟩
  have s17 := same_new (o := .lst ([.non, .int 7, .str "00", .ref t1, .ref t2, .ref t3, .ref t4, .ref t5, .ref t6, .ref t7, .ref t8] ++ [.ref t10, .ref t12, .ref t13, .ref t14, .ref t15])) n17
  have f17 : upd G16 t17 (.lst ([.non, .int 7, .str "00", .ref t1, .ref t2, .ref t3, .ref t4, .ref t5, .ref t6, .ref t7, .ref t8] ++ [.ref t10, .ref t12, .ref t13, .ref t14, .ref t15])) t17 = some (.lst ([.non, .int 7, .str "00", .ref t1, .ref t2, .ref t3, .ref t4, .ref t5, .ref t6, .ref t7, .ref t8] ++ [.ref t10, .ref t12, .ref t13, .ref t14, .ref t15])) := upd_same
  generalize upd G16 t17 (.lst ([.non, .int 7, .str "00", .ref t1, .ref t2, .ref t3, .ref t4, .ref t5, .ref t6, .ref t7, .ref t8] ++ [.ref t10, .ref t12, .ref t13, .ref t14, .ref t15])) = G17 at s17 f17
  have m1 := s1
  have m2 := m1.trans s2
  have m3 := m2.trans s3
  have m4 := m3.trans s4
  have m5 := m4.trans s5
  have m6 := m5.trans s6
  have m7 := m6.trans s7
  have m8 := m7.trans s8
  have m9 := m8.trans s9
  have m10 := m9.trans s10
  have m11 := m10.trans s11
  have m12 := m11.trans s12
  have m13 := m12.trans s13
  have m14 := m13.trans s14
  have m15 := m14.trans s15
  have m16 := m15.trans s16
  have q17 : Same G17 G17 := fun _ _ e => e
  have q16 : Same G16 G17 := s17.trans q17
  have q15 : Same G15 G17 := s16.trans q16
  have q14 : Same G14 G17 := s15.trans q15
  have q13 : Same G13 G17 := s14.trans q14
  have q12 : Same G12 G17 := s13.trans q13
  have q11 : Same G11 G17 := s12.trans q12
  have q10 : Same G10 G17 := s11.trans q11
  have q9 : Same G9 G17 := s10.trans q10
  have q8 : Same G8 G17 := s9.trans q9
  have q7 : Same G7 G17 := s8.trans q8
  have q6 : Same G6 G17 := s7.trans q7
  have q5 : Same G5 G17 := s6.trans q6
  have q4 : Same G4 G17 := s5.trans q5
  have q3 : Same G3 G17 := s4.trans q4
  have q2 : Same G2 G17 := s3.trans q3
  have q1 : Same G1 G17 := s2.trans q2
  have q0 : Same G0 G17 := s1.trans q1
  have f1 := q1 _ _ f1
  have f2 := q2 _ _ f2
  have f3 := q3 _ _ f3
  have f4 := q4 _ _ f4
  have f5 := q5 _ _ f5
  have f6 := q6 _ _ f6
  have f7 := q7 _ _ f7
  have f8 := q8 _ _ f8
  have f10 := q10 _ _ f10
  have f11 := q11 _ _ f11
  have f12 := q12 _ _ f12
  have f13 := q13 _ _ f13
  have f14 := q14 _ _ f14
  have f15 := q15 _ _ f15
  have bE := b5.mono q0
  have nt17 := (b5.mono m16).new n17
  have nt15 := (b5.mono m14).new n15
  have i18 : Ims (hide [D, aR] G17) ([.non, .int 7, .str "00", .ref t1, .ref t2, .ref t3, .ref t4, .ref t5, .ref t6, .ref t7, .ref t8] ++ [.ref t10, .ref t12, .ref t13, .ref t14, .ref t15]) [.none, .int 7, .str "00", .tuple [.int 0], .tuple [.int 0, .int 0, .int 0], .tuple [.bool true, .int 0], .tuple [.int 0, .bool false], .tuple [.int (-1), .int 0], .tuple [.int 0, .int (-1)], .tuple [.int (y1.length : Nat), .int 0], .tuple [.int 0, .int (y2.length : Nat)], .tuple [.str "0", .int 0], .tuple [.tuple [.int 0, .int 0], .int 0], .tuple [.int 0, .none], .tuple [], .list [.int 0, .int 0]] := by
    refine .cons .non (.cons (.int 7) (.cons (.str _) (.cons (.tup (bE.tup f1) (.cons (.int 0) .nil)) (.cons (.tup (bE.tup f2) (.cons (.int 0) (.cons (.int 0) (.cons (.int 0) .nil)))) (.cons (.tup (bE.tup f3) (.cons (.bl true) (.cons (.int 0) .nil))) (.cons (.tup (bE.tup f4) (.cons (.int 0) (.cons (.bl false) .nil))) ?_))))))
    refine .cons (.tup (bE.tup f5) (.cons (.int _) (.cons (.int _) .nil))) (.cons (.tup (bE.tup f6) (.cons (.int _) (.cons (.int _) .nil))) (.cons (.tup (bE.tup f7) (.cons (.int _) (.cons (.int _) .nil))) (.cons (.tup (bE.tup f8) (.cons (.int _) (.cons (.int _) .nil))) ?_)))
    refine .cons (.tup (bE.tup f10) (.cons (.str _) (.cons (.int _) .nil))) (.cons (.tup (bE.tup f12) (.cons (.tup (bE.tup f11) (.cons (.int _) (.cons (.int _) .nil))) (.cons (.int _) .nil))) (.cons (.tup (bE.tup f13) (.cons (.int _) (.cons .non .nil))) (.cons (.tup (bE.tup f14) .nil) (.cons (.lst ?_ (.cons (.int _) (.cons (.int _) .nil))) .nil))))
    rw [hide_out nt15]; exact f15
  refine ⟨_, rfl, c, cells, D, 8, rfl, bE.dr.mono (hide_same _ _), by decide, by decide, fun way G18 hw s18 hD18 => ?_⟩
  have b18 := bE.turn s18 hD18
  have n17D : t17 ≠ D := fun e => nt17 (by simp [e])
  have f18 : G18 t17 = _ := hide_same _ _ _ _ (s18 _ _ ((hide_out (L := [D]) (by simpa using n17D)).trans f17))
  have w18 := hide_wide (M := [D, aR]) s18 (by simp)
  refine ⟨c, cells, D, H, aR, aF, t17, xs, _, ds, _, .tuple [.int (r1 : Nat), .int (r2 : Nat)], at_, way, _, _, _, _, rfl, b18, ?_, hok, dl, hat, (Im.tup (bE.tup (q0 _ _ fF)) (.cons (.int _) (.cons (.int _) .nil))).mono w18, ⟨by simp [PyData.depth, PyData.depthAll], by simp [sm, sms]⟩, f18, n17D, i18.mono w18, fun d hd => ?_, rfl, fun p xs' ds' s9 H' g1 g2 g3 g4 g5 g6 => ⟨_, rfl, k p xs' ds' H' g1 g2 g3 g4 g5 g6⟩⟩
  · exact (ix.mono (b5.base.trans (hide_mono q0))).mono w18
  · simp only [List.mem_cons, List.not_mem_nil, or_false] at hd
    rcases hd with rfl | rfl | rfl | rfl | rfl | rfl | rfl | rfl | rfl | rfl | rfl | rfl | rfl | rfl | rfl | rfl <;> exact ⟨by simp [PyData.depth, PyData.depthAll], by simp [sm, sms]⟩
end
end Tk
set_option maxHeartbeats 4000000
set_option pp.maxSteps 2500
/-! what the law's own body works at -/
namespace Tk
open PySem L2 NdefX LamX
theorem ExtN.hide {L : List Addr} {H H' : Hp} (s : ExtN H H') : ExtN (hide L H) (hide L H') := fun b o e n => by
  obtain ⟨h1, h2⟩ := hide_some e
  rw [hide_out h1]; exact s b o h2 n
theorem DrawO.ext {c : Addr} {cells : List Int} {H H' : Hp} {D : Addr} (h : DrawO c cells H D) (s : ExtN H H') : DrawO c cells H' D := by
  obtain ⟨a1, a2, a3, a4, a5, h1, h2, h3⟩ := h
  exact ⟨a1, a2, a3, a4, a5, s _ _ h1 (fun _ z => nomatch z), s _ _ h2 (fun _ z => nomatch z), h3⟩
theorem TabN.hid {H : Hp} {P : Addr} {nm : Nat → Nat → Str} {D : Addr} {xs : List V} (t : TabN H P nm) (hD : H D = some (.lst xs)) : TabN (hide [D] H) P nm := by
  have out : ∀ {z : Addr} {o : HO}, H z = some o → o ≠ .lst xs → hide [D] H z = some o := fun {z o} e n => by
    rw [hide_out (by simp; intro q; rw [q, hD] at e; exact n (Option.some.inj e).symm)]; exact e
  obtain ⟨ps, h1, h2, h3⟩ := t
  refine ⟨ps, out h1 (fun z => nomatch z), h2, fun pos cv hc => ?_⟩
  obtain ⟨c, e1, e2⟩ := h3 pos cv hc
  exact ⟨c, e1, out e2 (fun z => by unfold CodeO at z; cases z)⟩
theorem PlanO.hid {C : Addr} {H : Hp} {p D : Addr} {L : Pl} {xs : List V} (h : PlanO C H p L) (hD : H D = some (.lst xs)) : PlanO C (hide [D] H) p L := by
  have out : ∀ {z : Addr} {o : HO}, H z = some o → o ≠ .lst xs → hide [D] H z = some o := fun {z o} e n => by
    rw [hide_out (by simp; intro q; rw [q, hD] at e; exact n (Option.some.inj e).symm)]; exact e
  obtain ⟨dx, fs, sv, t, e, ts, h1, h2, h3, h4, h5, h6, h7, h8⟩ := h
  refine ⟨dx, fs, sv, t, e, ts, out h1 (fun z => nomatch z), h2, h3, h4, ?_, out h6 (fun z => nomatch z), ⟨h7.1, fun i r hr => ?_⟩, out h8 (fun z => nomatch z)⟩
  · exact h5.hid (fun p hp ys q => by rw [List.mem_singleton.mp hp, hD] at q; cases q) L.noL_st
  · obtain ⟨d, g1, g2⟩ := h7.2 i r hr
    exact ⟨d, g1, out g2 (fun z => nomatch z)⟩
theorem Ims.rev {G : Hp} : ∀ {vs : List V} {ds : List PyData}, Ims G vs ds → Ims G vs.reverse ds.reverse
  | _, _, .nil => .nil
  | _, _, .cons h t => by
    rw [List.reverse_cons, List.reverse_cons]
    exact (Ims.rev t).snoc h
/-- all that the law keeps at hand -/
structure LS (C P : Addr) (c : Addr) (cells : List Int) (D : Addr) (v1 v2 : V) (p q : Addr) (L M : Pl) (G : Hp) : Prop where
  dr : DrawO c cells G D
  tabs : TabsN (tabL P) (hide [D] G)
  one : Im (hide [D] G) v1 L.d
  two : Im (hide [D] G) v2 M.d
  fst : PlanO C (hide [D] G) p L
  snd : PlanO C (hide [D] G) q M
section
variable {C P : Addr} {c : Addr} {cells : List Int} {D : Addr} {v1 v2 : V} {p q : Addr} {L M : Pl} {G G' : Hp}
theorem LS.turn (h : LS C P c cells D v1 v2 p q L M G) (s : Same (hide [D] G) (hide [D] G')) (hD : DrawO c cells G' D) : LS C P c cells D v1 v2 p q L M G' :=
  ⟨hD, h.tabs.ext s, h.one.mono s, h.two.mono s, h.fst.ext (ExtN.of s), h.snd.ext (ExtN.of s)⟩
theorem LS.mono (h : LS C P c cells D v1 v2 p q L M G) (s : Same G G') : LS C P c cells D v1 v2 p q L M G' := h.turn (hide_mono s) (h.dr.mono s)
theorem LS.pair (h : LS C P c cells D v1 v2 p q L M G) (s : ExtN G G') (t : TabsN (tabL P) G') : LS C P c cells D v1 v2 p q L M G' :=
  have hD := h.dr.ext s
  have sh : ExtN (hide [D] G) (hide [D] G') := ExtN.hide s
  ⟨hD, fun x hx => by
    obtain ⟨_, _, _, _, _, g1, _⟩ := hD
    exact TabN.hid (t x hx) g1, h.one.ext sh, h.two.ext sh, h.fst.ext sh, h.snd.ext sh⟩
theorem LS.tabs' (h : LS C P c cells D v1 v2 p q L M G) : TabsN (tabL P) G := h.tabs.ext (hide_same _ _)
theorem LS.one' (h : LS C P c cells D v1 v2 p q L M G) : Im G v1 L.d := h.one.mono (hide_same _ _)
theorem LS.two' (h : LS C P c cells D v1 v2 p q L M G) : Im G v2 M.d := h.two.mono (hide_same _ _)
theorem LS.fst' (h : LS C P c cells D v1 v2 p q L M G) : PlanO C G p L := h.fst.ext (ExtN.of (hide_same _ _))
theorem LS.snd' (h : LS C P c cells D v1 v2 p q L M G) : PlanO C G q M := h.snd.ext (ExtN.of (hide_same _ _))
end
theorem tupd_pairD (p : Nat × Nat) : tupd (pairD p) = pairD p := rfl
theorem sm_pairD (p : Nat × Nat) : sm (pairD p) = true := rfl
theorem depth_pairD (p : Nat × Nat) : (pairD p).depth = 1 := rfl
/-- a plan's rows as lists within a list -/
def Pl.sl (L : Pl) : PyData := .list (L.rows.map fun r => .list (r.map pairD))
def Pl.el (L : Pl) : PyData := .list (L.ends.map fun (e : Nat) => PyData.int e)
theorem tupd_row (r : Row) : tupd (.list (r.map pairD)) = rowD r := by
  rw [tupd, tupds_map, List.map_map]
  rfl
theorem tupd_sl (L : Pl) : tupd L.sl = L.st := by
  unfold Pl.sl
  rw [tupd, tupds_map, List.map_map]
  show PyData.tuple (L.rows.map fun r => tupd (.list (r.map pairD))) = _
  unfold Pl.st
  congr 1
  exact List.map_congr_left fun r _ => tupd_row r
theorem tupd_st (L : Pl) : tupd L.st = L.st := by
  unfold Pl.st
  rw [tupd, tupds_map, List.map_map]
  congr 1
  refine List.map_congr_left fun r _ => ?_
  show tupd (.tuple (r.map pairD)) = _
  rw [tupd, tupds_map, List.map_map]
  rfl
theorem tupd_en (L : Pl) : tupd L.en = L.en := by
  unfold Pl.en
  rw [tupd, tupds_map, List.map_map]; rfl
theorem tupd_el (L : Pl) : tupd L.el = L.en := by
  unfold Pl.el Pl.en
  rw [tupd, tupds_map, List.map_map]; rfl
theorem Pl.row_few {L : Pl} (ok : L.Ok) {r : Row} (hr : r ∈ L.rows) : r.length ≤ 123 := by
  have nd : (r.map (·.1)).Nodup := (ok.rise r hr).imp fun h => by omega
  have := few_below 123 _ nd fun x hx => by
    obtain ⟨p, hp, rfl⟩ := List.mem_map.mp hx
    exact okSign_lt (ok.sign r hr p hp).1
  rwa [List.length_map] at this
theorem Pl.ends_few {L : Pl} (ok : L.Ok) : L.ends.length ≤ 60 := Nat.le_trans (few_below L.rows.length L.ends (ok.erise.imp fun h => by omega) ok.elt) ok.few
theorem row_sm {r : Row} (h : r.length ≤ 123) : sms (r.map pairD) = true ∧ decide ((r.map pairD).length ≤ 1000) = true ∧ PyData.depthAll (r.map pairD) ≤ 1 :=
  ⟨sms_of fun d hd => by obtain ⟨p, _, rfl⟩ := List.mem_map.mp hd; rfl, decide_eq_true (by rw [List.length_map]; omega), depth_all fun d hd => by obtain ⟨p, _, rfl⟩ := List.mem_map.mp hd; rw [depth_pairD]; omega⟩
theorem st_ok {L : Pl} (ok : L.Ok) : L.st.depth ≤ 3 ∧ sm L.st = true := by
  have few := ok.few
  constructor
  · unfold Pl.st
    rw [PyData.depth]
    have : PyData.depthAll (L.rows.map rowD) ≤ 2 := depth_all fun d hd => by
      obtain ⟨r, hr, rfl⟩ := List.mem_map.mp hd
      have := (row_sm (Pl.row_few ok hr)).2.2
      show (PyData.tuple (r.map pairD)).depth ≤ 2
      rw [PyData.depth]; omega
    omega
  · unfold Pl.st
    rw [sm, sms_of fun d hd => ?_, decide_eq_true (by rw [List.length_map]; omega)]
    · rfl
    · obtain ⟨r, hr, rfl⟩ := List.mem_map.mp hd
      obtain ⟨h1, h2, _⟩ := row_sm (Pl.row_few ok hr)
      show sm (PyData.tuple (r.map pairD)) = true
      rw [sm, h1, h2]; rfl
theorem sl_ok {L : Pl} (ok : L.Ok) : L.sl.depth ≤ 3 ∧ sm L.sl = true := by
  have few := ok.few
  constructor
  · unfold Pl.sl
    rw [PyData.depth]
    have : PyData.depthAll (L.rows.map fun r => PyData.list (r.map pairD)) ≤ 2 := depth_all fun d hd => by
      obtain ⟨r, hr, rfl⟩ := List.mem_map.mp hd
      have := (row_sm (Pl.row_few ok hr)).2.2
      rw [PyData.depth]; omega
    omega
  · unfold Pl.sl
    rw [sm, sms_of fun d hd => ?_, decide_eq_true (by rw [List.length_map]; omega)]
    · rfl
    · obtain ⟨r, hr, rfl⟩ := List.mem_map.mp hd
      obtain ⟨h1, h2, _⟩ := row_sm (Pl.row_few ok hr)
      rw [sm, h1, h2]; rfl
theorem ints_ok {l : List Nat} (h : l.length ≤ 60) : PyData.depthAll (l.map fun (e : Nat) => PyData.int e) ≤ 0 ∧ sms (l.map fun (e : Nat) => PyData.int e) = true ∧ decide ((l.map fun (e : Nat) => PyData.int e).length ≤ 1000) = true :=
  ⟨depth_all fun d hd => by obtain ⟨_, _, rfl⟩ := List.mem_map.mp hd; exact Nat.le_refl _, sms_of fun d hd => by obtain ⟨_, _, rfl⟩ := List.mem_map.mp hd; rfl, decide_eq_true (by rw [List.length_map]; omega)⟩
theorem en_ok {L : Pl} (ok : L.Ok) : L.en.depth ≤ 3 ∧ sm L.en = true := by
  obtain ⟨h1, h2, h3⟩ := ints_ok (Pl.ends_few ok)
  unfold Pl.en
  rw [PyData.depth, sm, h2, h3]
  exact ⟨by omega, rfl⟩
theorem el_ok {L : Pl} (ok : L.Ok) : L.el.depth ≤ 3 ∧ sm L.el = true := by
  obtain ⟨h1, h2, h3⟩ := ints_ok (Pl.ends_few ok)
  unfold Pl.el
  rw [PyData.depth, sm, h2, h3]
  exact ⟨by omega, rfl⟩
theorem ends_ne {L : Pl} (ok : L.Ok) : L.ends ≠ [] := fun e => by
  have h : ∀ i, Reach L i → False := fun i h => by
    induction h with
    | here q => rw [e] at q; cases q
    | step _ _ _ ih => exact ih
  exact h 0 (ok.live 0 ok.pos)
theorem nodeD_ok (n : Node) : OkD (nodeD n) := ⟨by unfold nodeD; simp [PyData.depth, PyData.depthAll], rfl⟩
theorem keep_map (f : Node → Bool) : ∀ l : List BN, (l.filterMap fun b => if f b.1 = true then some (nodeD b.1) else none) = ((l.map (·.1)).filter f).map nodeD
  | [] => rfl
  | b :: l => by
    rw [List.filterMap_cons, List.map_cons, List.filter_cons]
    by_cases h : f b.1 = true
    · rw [if_pos h, if_pos h, List.map_cons, keep_map f l]
    · rw [if_neg h, if_neg h, keep_map f l]
theorem nodes_ok (ns : List Node) : ∀ d ∈ ns.map nodeD, OkD d := fun d hd => by
  obtain ⟨n, _, rfl⟩ := List.mem_map.mp hd
  exact nodeD_ok n
theorem noL_node (n : Node) : noL (nodeD n) = true := rfl
section
variable {P : Program} {w : World} {K : PySem.W.Frag} {mg : Str → Option Value} {base : Heap}
theorem b_pInit (T : Fx K mg) : Binds K T.d_pInit ["self", "states", "ends"] [] := by
  obtain ⟨ds, hd, hb⟩ := FunD.binds1 (ps := ["self", "states", "ends"]) T.F_pInit 3 1 (by decide) rfl fun Tz kV doc pm an cdv ct us its h1 h2 => by
    match us, h1, its, h2 with
    | [a, b, c], _, [d], _ => exact ⟨_, rfl, rfl⟩
  cases hd
  exact hb
/-- a fresh draw, of a list that may stand anywhere -/
def spDraw2 (K : PySem.W.Frag) : Sp := fun vs H Q _ => ∃ (a : Addr) (cells : List Int), vs = [.ref a] ∧ SqL K H a (cells.map V.int) ∧ cells.length ≤ 1000000 ∧ ∀ (c D : Addr) H', H c = none → H D = none → Same H H' → DrawO c cells H' D → Q (.ref D) H'
theorem ok_draw2 (T : Fx K mg) : FnOk P w K mg base CX0 1 T.a_draw T.d_draw ["_law_script"] (spDraw2 K) := by
  refine T.F_draw.ok sc_draw (fun vs H Q E h => ?_) (fun cdv A outer s H vs Q E hr h => ?_)
  · obtain ⟨a, cells, rfl, _⟩ := h; rfl
  obtain ⟨a, cells, rfl, ha, hl, k⟩ := h
  have hu := hu_of hr
  refine ⟨_, (pss_cons (ps_setLc (i := 1) (own := [("_law_cell", 2)]) (by rfl) sc_draw.nd rfl rfl (sw_true rfl rfl rfl (by decide +kernel)) (pi_list (pv 0)) (blkOk_by (own := [("_law_cell", 2)]) (N := ["_law_script", "_law_cells", "_law_cell"]) (sc := defScope (top 32)) (by decide +kernel)) (fun _ _ _ _ _ => (pg_name (i := 2) sc_draw.nd rfl (.inl rfl) (.inr rfl))) (fun _ _ _ _ _ => pts_nil) (fun _ _ _ _ _ => (pv 2)))
    (pss_one (ps_ret (pe_lst (pa_cons (pv 1) (pa_cons pe_int (pa_cons pe_int (pa_cons pe_int (pa_cons pe_int (pa_cons (pe_op op_add (pe_op op_modN (pe_callTy call_int1 (by rfl) T.z_int (by decide +kernel) (pa_cons (pe_callB (cr_sum rfl) (by rfl) T.z_sum (by decide +kernel) (pa_cons (pv 1) pa_nil)) pa_nil)) pe_int) (pe_op op_mul pe_int (pe_callB call_len_seq (by rfl) T.z_len (by decide +kernel) (pa_cons (pv 1) pa_nil)))) pa_nil)))))))))), ?_⟩
  refine ⟨_, rfl, a, rfl, ⟨_, ha⟩, fun c nc => lc_it (walk_list (xs := cells.map V.int)) (fun i H' => Same H (hide [c] H') ∧ H' c = some (.lst ((cells.map V.int).take i))) ⟨?_, upd_same⟩ (fun i H' _ pv => Same.seq (pv.1.trans (hide_same _ _)) ha) (fun i x H' H'' hi pv y => ?_) fun H1 pv => ?_⟩
  · rw [hide_mut (by simp)]
    exact fun z o e => by rw [hide_out (by simpa using ne_of_none e nc)]; exact e
  · obtain ⟨rfl, hx⟩ := y
    rw [List.length_map] at hi
    refine ⟨rfl, _, rfl, _, pv.2, ?_, ?_, ?_⟩
    · rw [List.length_take]; exact szlt (by omega)
    · rw [hide_mut (by simp)]; exact pv.1
    · rw [upd_same, List.take_add_one, hx]; rfl
  obtain ⟨s1, hc⟩ := pv
  rw [List.take_length] at hc
  have s1 := s1.trans (hide_same _ _)
  have n1 : (1000003 : Int) ≠ 0 := by decide
  refine ⟨_, rfl, _, rfl, c, cells, rfl, SqL.of hc, .inl ⟨_, rfl, _, _, rfl, rfl, n1, ?_⟩⟩
  refine ⟨_, rfl, c, _, rfl, .inl (SqL.of hc), _, _, rfl, rfl, .inl ⟨by decide, by decide⟩, _, _, rfl, rfl, szle (Nat.le_trans (Nat.le_refl 6) (by decide)), fun D nD => ?_⟩
  have hDn : H D = none := by
    cases e : H D with
    | none => rfl
    | some o => rw [s1 _ _ e] at nD; cases nD
  exact k c D _ nc hDn (s1.trans (same_new nD)) (DrawO.turn hc (ne_of_none hc nD) (Int.le_refl 0) (Int.le_refl 0))
end
end Tk
set_option maxHeartbeats 4000000
set_option pp.maxSteps 2500
/-! the law -/
namespace Tk
open PySem L2 NdefX LamX
def keepN (n : Node) : Bool := decide (0 ≤ n.1) && decide (0 ≤ n.2)
section
variable {P : Program} {w : World} {K : PySem.W.Frag} {mg : Str → Option Value} {base : Heap}
def spLaw (K : PySem.W.Frag) (P : Addr) : Sp := fun vs H Q _ => ∃ (a : Addr) (cells : List Int), vs = [.ref a] ∧ SqL K H a (cells.map V.int) ∧ cells.length ≤ 1000000 ∧ TabsN (tabL P) H ∧ ∀ H', Q (.bl true) H'
theorem ok_law (T : Fx K mg) (TB : TabB base mg T.c_lp T.P_lp) : FnOk P w K mg base CX0 7 T.a_law T.d_law ["_law_script"] (spLaw K T.P_lp) := by
  refine T.F_law.ok sc_law (fun vs H Q E h => ?_) (fun cdv A outer s H vs Q E hr h => ?_)
  · obtain ⟨a, cells, rfl, _⟩ := h; rfl
  obtain ⟨a, cells, rfl, ha, hl, hT, k⟩ := h
  have hu := hu_of hr
  refine ⟨_, PSs.nox ((pss_cons (ps_set (i := 1) sc_law.nd rfl (.inl rfl) (pe_call (ok_draw2 T) (hr.mono (by decide)) (by rfl) T.g_draw T.F_draw.kp T.b_draw .nil pass0 (pa_cons (pv 0) pa_nil)))
    (pss_cons (ps_asg (pe_call (ok_two T) (hr.mono (by decide)) (by rfl) T.g_two T.F_two.kp T.b_two .nil pass0 (pa_cons (pv 1) pa_nil)) (pg_tup rfl (pgs_cons (pg_name (i := 2) sc_law.nd rfl (.inl rfl)) (pgs_cons (pg_name (i := 3) sc_law.nd rfl (.inl rfl)) pgs_nil))))
    (pss_cons (ps_set (i := 4) sc_law.nd rfl (.inl rfl) (pe_make T.mkP (ok_pInit T) (hr.mono (by decide)) (by rfl) T.g_Plan (b_pInit T) .nil pass0 (pa_cons (pe_ix ix_tup (pv 2) pe_int (fun _ _ => rfl)) (pa_cons (pe_ix ix_tup (pv 2) pe_int (fun _ _ => rfl)) pa_nil))))
    (pss_cons (ps_set (i := 5) sc_law.nd rfl (.inl rfl) (pe_make T.mkP (ok_pInit T) (hr.mono (by decide)) (by rfl) T.g_Plan (b_pInit T) .nil pass0 (pa_cons (pe_lc (own := [("_law_row", 11)]) (by rfl) sc_law.nd (pi_tup (pe_ix ix_tup (pv 3) pe_int (fun _ _ => rfl))) (blkOk_by (own := [("_law_row", 11)]) (N := ["_law_script", "_law_draw_here", "_law_one", "_law_two_here", "_law_first", "_law_second", "_law_table", "_law_turn", "_law_bent_here", "_law_step", "_law_pair", "_law_row"]) (sc := defScope (top 48)) (by decide +kernel)) (fun _ _ _ _ _ => (pg_name (i := 11) sc_law.nd rfl (.inl rfl) (.inr rfl))) (fun _ _ _ _ _ => pts_nil) (fun _ _ _ _ _ => (pe_callTy call_list_lt (by rfl) T.z_list (by decide +kernel) (pa_cons (pv 11) pa_nil)))) (pa_cons (pe_callTy call_list_of (by rfl) T.z_list (by decide +kernel) (pa_cons (pe_ix ix_tup (pv 3) pe_int (fun _ _ => rfl)) pa_nil)) pa_nil))))
    (pss_cons (ps_if (PW.pt (pw_or (pt_not (pt_val (pe_call (ok_verdict T) (hr.mono (by decide)) (by rfl) T.g_verdict T.F_verdict.kp T.b_verdict .nil pass0 (pa_cons (pe_make T.mkQ (ok_ppInit T TB) (hr.mono (by decide)) (by rfl) T.g_PlanPair T.b_ppInit .nil pass0 (pa_cons (pv 4) (pa_cons (pv 5) pa_nil))) (pa_cons (pv 2) (pa_cons (pv 3) pa_nil)))))) (pw_or1 (pt_not (pt_val (pe_call (ok_verdict T) (hr.mono (by decide)) (by rfl) T.g_verdict T.F_verdict.kp T.b_verdict .nil pass0 (pa_cons (pe_make T.mkQ (ok_ppInit T TB) (hr.mono (by decide)) (by rfl) T.g_PlanPair T.b_ppInit .nil pass0 (pa_cons (pv 5) (pa_cons (pv 4) pa_nil))) (pa_cons (pv 3) (pa_cons (pv 2) pa_nil)))))))))
      (pss_one (ps_ret pe_bl))
      pss_nil)
    (pss_cons (ps_if (PW.pt (pw_or (pt_not (pt_val (pe_call (ok_verdict T) (hr.mono (by decide)) (by rfl) T.g_verdict T.F_verdict.kp T.b_verdict .nil pass0 (pa_cons (pe_make T.mkQ (ok_ppInit T TB) (hr.mono (by decide)) (by rfl) T.g_PlanPair T.b_ppInit .nil pass0 (pa_cons (pv 4) (pa_cons (pv 4) pa_nil))) (pa_cons (pv 2) (pa_cons (pv 2) pa_nil)))))) (pw_or1 (pt_not (pt_val (pe_call (ok_verdict T) (hr.mono (by decide)) (by rfl) T.g_verdict T.F_verdict.kp T.b_verdict .nil pass0 (pa_cons (pe_make T.mkQ (ok_ppInit T TB) (hr.mono (by decide)) (by rfl) T.g_PlanPair T.b_ppInit .nil pass0 (pa_cons (pv 4) (pa_cons (pv 5) pa_nil))) (pa_cons (pv 2) (pa_cons (pv 3) pa_nil)))))))))
      (pss_one (ps_ret pe_bl))
      pss_nil)
    (pss_cons (ps_setLc (i := 6) (own := [("_law_pair", 10)]) (by rfl) sc_law.nd rfl rfl (sw_true rfl rfl rfl (by decide +kernel)) (pi_list (pe_ix ix_tup (pe_call (ok_pairs T) (hr.mono (by decide)) (by rfl) T.g_pairs T.F_pairs.kp T.b_pairs .nil pass0 (pa_cons (pv 2) (pa_cons (pv 3) pa_nil))) pe_int (fun _ _ => rfl))) (blkOk_by (own := [("_law_pair", 10)]) (N := ["_law_script", "_law_draw_here", "_law_one", "_law_two_here", "_law_first", "_law_second", "_law_table", "_law_turn", "_law_bent_here", "_law_step", "_law_pair", "_law_row"]) (sc := defScope (top 48)) (by decide +kernel)) (fun _ _ _ _ _ => (pg_name (i := 10) sc_law.nd rfl (.inl rfl) (.inr rfl))) (fun _ _ _ _ _ => (pts_one (PW.pt (pw_and (pt_cmpR op_ge (pe_ix ix_lt (pv 10) pe_int (fun _ _ => rfl)) pe_int (nomark _)) (pw_and1 (pt_cmpR op_ge (pe_ix ix_lt (pv 10) pe_int (fun _ _ => rfl)) pe_int (nomark _))))))) (fun _ _ _ _ _ => (pv 10)))
    (pss_cons (ps_if (PW.pt (pw_or (pt_not (pt_val (pe_call (ok_judged T) (hr.mono (by decide)) (by rfl) T.g_judged T.F_judged.kp T.b_judged .nil pass0 (pa_cons (pv 2) (pa_cons (pv 3) (pa_cons (pv 4) (pa_cons (pv 5) (pa_cons (pv 6) pa_nil)))))))) (pw_or1 (pt_not (pt_val (pe_call (ok_judged T) (hr.mono (by decide)) (by rfl) T.g_judged T.F_judged.kp T.b_judged .nil pass0 (pa_cons (pv 2) (pa_cons (pv 3) (pa_cons (pv 4) (pa_cons (pv 5) (pa_cons (pe_revL (pv 6)) pa_nil)))))))))))
      (pss_one (ps_ret pe_bl))
      pss_nil)
    (pss_cons (ps_if (pt_not (pt_val (pe_call (ok_judged T) (hr.mono (by decide)) (by rfl) T.g_judged T.F_judged.kp T.b_judged .nil pass0 (pa_cons (pv 3) (pa_cons (pv 2) (pa_cons (pv 5) (pa_cons (pv 4) (pa_cons (pe_lc (own := [("_law_pair", 10)]) (by rfl) sc_law.nd (pi_list (pv 6)) (blkOk_by (own := [("_law_pair", 10)]) (N := ["_law_script", "_law_draw_here", "_law_one", "_law_two_here", "_law_first", "_law_second", "_law_table", "_law_turn", "_law_bent_here", "_law_step", "_law_pair", "_law_row"]) (sc := defScope (top 48)) (by decide +kernel)) (fun _ _ _ _ _ => (pg_name (i := 10) sc_law.nd rfl (.inl rfl) (.inr rfl))) (fun _ _ _ _ _ => pts_nil) (fun _ _ _ _ _ => (pe_tup (pa_cons (pe_ix ix_lt (pv 10) pe_int (fun _ _ => rfl)) (pa_cons (pe_ix ix_lt (pv 10) pe_int (fun _ _ => rfl)) pa_nil))))) pa_nil))))))))
      (pss_one (ps_ret pe_bl))
      pss_nil)
    (pss_cons (ps_for PassesOwn.never rfl (pi_range1 (by rfl) T.z_range (pa_cons pe_int pa_nil)) (pg_name (i := 7) sc_law.nd rfl (.inl rfl))
      (pss_cons (ps_set (i := 8) sc_law.nd rfl (.inl rfl) (pe_call (ok_bent T) (hr.mono (by decide)) (by rfl) T.g_bent T.F_bent.kp T.b_bent .nil pass0 (pa_cons (pv 1) (pa_cons (pv 6) (pa_cons (pv 2) (pa_cons (pv 3) pa_nil))))))
      (pss_cons (ps_for PassesOwn.never rfl (pi_range1 (by rfl) T.z_range (pa_cons (pe_call (ok_pick T) (hr.mono (by decide)) (by rfl) T.g_pick T.F_pick.kp T.b_pick .nil pass0 (pa_cons (pv 1) (pa_cons pe_int pa_nil))) pa_nil)) (pg_name (i := 9) sc_law.nd rfl (.inl rfl))
        (pss_one (ps_set (i := 8) sc_law.nd rfl (.inl rfl) (pe_call (ok_bent T) (hr.mono (by decide)) (by rfl) T.g_bent T.F_bent.kp T.b_bent .nil pass0 (pa_cons (pv 1) (pa_cons (pv 8) (pa_cons (pv 2) (pa_cons (pv 3) pa_nil))))))))
      (pss_one (ps_if (pt_not (pt_val (pe_call (ok_judged T) (hr.mono (by decide)) (by rfl) T.g_judged T.F_judged.kp T.b_judged .nil pass0 (pa_cons (pv 2) (pa_cons (pv 3) (pa_cons (pv 4) (pa_cons (pv 5) (pa_cons (pv 8) pa_nil))))))))
        (pss_one (ps_ret pe_bl))
        pss_nil)))))
    (pss_one (ps_ret (pe_cmpR op_eq (pe_call (ok_judge T) (hr.mono (by decide)) (by rfl) T.g_judge T.F_judge.kp T.b_judge .nil pass0 (pa_cons (pv 4) (pa_cons (pv 5) (pa_cons (pe_tup pa_nil) pa_nil)))) (pe_un un_neg pe_int) (nomark _))))))))))))))), ?_⟩
  refine ⟨_, rfl, a, cells, rfl, ha, hl, fun c D H1 nc nD s1 hD1 => ?_⟩
  have hT1 : TabsN (tabL T.P_lp) (hide [D] H1) := hT.ext fun z o e => by
    rw [hide_out (by simpa using ne_of_none e nD)]; exact s1 _ _ e
  clear s1 hT nc nD ha hl
  refine ⟨_, rfl, c, cells, D, rfl, hD1, fun L M v1 v2 t H2 okL okM l6 m36 s2 hD2 ht i1 i2 => ?_⟩
  have hT2 := hT1.ext s2
  refine ⟨t, _, rfl, SqT.of ht, rfl, _, _, rfl, _, _, rfl, rfl, ?_⟩
  clear ht hT1 s2 hD1
  have hlm : (L.rows.length + 1) * (M.rows.length + 1) ≤ 400 := Nat.le_trans (Nat.mul_le_mul (by omega : _ ≤ 7) (by omega : _ ≤ 37)) (by decide)
  have hml : (M.rows.length + 1) * (L.rows.length + 1) ≤ 400 := Nat.le_trans (Nat.mul_le_mul (by omega : _ ≤ 37) (by omega : _ ≤ 7)) (by decide)
  have hll : (L.rows.length + 1) * (L.rows.length + 1) ≤ 400 := Nat.le_trans (Nat.mul_le_mul (by omega : _ ≤ 7) (by omega : _ ≤ 7)) (by decide)
  have DT : ∀ {G : Hp} {z : Addr} {o : HO}, DrawO c cells G D → G z = some o → (∀ xs, o ≠ .lst xs) → hide [D] G z = some o := fun {G z o} h e n => by
    obtain ⟨_, _, _, _, _, g1, _⟩ := h
    rw [hide_out (by simp; intro q; rw [q, g1] at e; exact n _ (Option.some.inj e).symm)]; exact e
  have lsD : ∀ {G : Hp}, DrawO c cells G D → ∃ xs, G D = some (.lst xs) := fun {G} h => by
    obtain ⟨_, _, _, _, _, g1, _⟩ := h
    exact ⟨_, g1⟩
  clear DT
  -- the first plan
  obtain ⟨a1, x1, x2, e1, ha1, j1, j2⟩ := Im.pair_inv (d := L.st) (e := L.en) i1
  have ha1' := hide_same _ _ _ _ ha1
  refine ⟨_, rfl, a1, _, 0, _, e1, rfl, SqT.of ha1', atI_nat (j := 0) rfl, _, rfl, a1, _, 1, _, e1, rfl, SqT.of ha1', atI_nat (j := 1) rfl, fun p dx np ndx nxd => ?_⟩
  have s3 : Same H2 (upd (upd H2 dx (.own p)) p (.ins T.cP dx [])) := (same_new ndx).trans (same_new (by rw [upd_ne (Ne.symm nxd)]; exact np))
  refine ⟨H2, p, dx, x1, x2, L.st, L.en, L, rfl, s3, np, upd_same, j1.mono (hide_same _ _), j2.mono (hide_same _ _), (st_ok okL).1, (en_ok okL).1, (st_ok okL).2, (en_ok okL).2, tupd_st L, tupd_en L, okL, ends_ne okL, fun H4 s4 hp => ⟨rfl, ?_⟩⟩
  have hD4 := hD2.mono s4
  have hT4 := hT2.ext (hide_mono (L := [D]) s4)
  have i1 := i1.mono (hide_mono (L := [D]) s4)
  have i2 := i2.mono (hide_mono (L := [D]) s4)
  clear s3 s4 hT2 hD2 ha1 ha1' j1 j2 np ndx nxd dx e1
  -- the second plan
  obtain ⟨a2, y1, y2, e2, ha2, j1, j2⟩ := Im.pair_inv (d := M.st) (e := M.en) i2
  have ha2' := hide_same _ _ _ _ ha2
  obtain ⟨aS, ss, rfl, hS, iS⟩ := (j1.mono (hide_same _ _)).tup_inv
  obtain ⟨aE, es, rfl, hE, iE⟩ := (j2.mono (hide_same _ _)).tup_inv
  have sl : ss.length = M.rows.length := by rw [iS.len, List.length_map]
  refine ⟨_, rfl, a2, _, 0, _, e2, rfl, SqT.of ha2', atI_nat (j := 0) rfl, aS, rfl, ⟨_, SqT.of hS⟩, fun aL nL => lc_it (walk_tup (xs := ss)) (PvIm H4 aL fun i => (M.rows[i]?).map fun r => .list (r.map pairD)) (PvIm.zero nL) (fun i G _ pv => SqT.of (pv.base _ _ hS)) (fun i x G G' hi pv y => ?_) fun H5 pv => ?_⟩
  · obtain ⟨rfl, hx⟩ := y
    obtain ⟨d, hdd, him⟩ := iS.get hx
    have hir : i < M.rows.length := by rw [← sl]; exact hi
    have hri : M.rows[i]? = some M.rows[i] := List.getElem?_eq_getElem hir
    generalize M.rows[i] = r at hri
    rw [List.getElem?_map, hri] at hdd
    cases hdd
    obtain ⟨q0, ys, rfl, hq0, iy⟩ := him.tup_inv
    refine ⟨rfl, _, rfl, q0, ys, rfl, .inr (pv.base _ _ hq0), fun l nl => ?_⟩
    obtain ⟨acc0, hacc0⟩ : ∃ acc, G' aL = some (.lst acc) := by obtain ⟨_, acc, h, _⟩ := pv; exact ⟨acc, h⟩
    have nla : l ≠ aL := (ne_of_none hacc0 nl).symm
    exact pv.push (hide_upd nl) (upd_ne nla.symm) (d := .list (r.map pairD)) (by rw [hri]; rfl) (Im.lst (by rw [hide_out (by simpa using nla)]; exact upd_same) ((Ims.mono pv.1 iy).mono (hide_upd nl))) (by omega)
  have s5 := pv.base
  obtain ⟨_, acc, hacc, _, him⟩ := pv
  rw [sl, map_range] at him
  have iSl : Im H5 (.ref aL) M.sl := .lst hacc (him.mono (hide_same _ _))
  refine ⟨_, rfl, a2, _, 1, _, e2, rfl, SqT.of (s5 _ _ ha2'), atI_nat (j := 1) rfl, aE, _, rfl, .inr (SqT.of (s5 _ _ hE)), fun aM nM => ?_⟩
  have s6 := same_new (o := .lst es) nM
  have iEl : Im (upd H5 aM (.lst es)) (.ref aM) M.el := .lst upd_same ((Ims.mono s5 iE).mono s6)
  have iSl := iSl.mono s6
  generalize upd H5 aM (.lst es) = H6 at s6 iEl iSl
  refine fun q dx nq ndx nxd => ?_
  have s7 : Same H6 (upd (upd H6 dx (.own q)) q (.ins T.cP dx [])) := (same_new ndx).trans (same_new (by rw [upd_ne (Ne.symm nxd)]; exact nq))
  refine ⟨H6, q, dx, _, _, M.sl, M.el, M, rfl, s7, nq, upd_same, iSl, iEl, (sl_ok okM).1, (el_ok okM).1, (sl_ok okM).2, (el_ok okM).2, tupd_sl M, tupd_el M, okM, ends_ne okM, fun H8 s8 hq => ⟨rfl, ?_⟩⟩
  have s48 := (s5.trans s6).trans s8
  have ls0 : LS T.cP T.P_lp c cells D v1 v2 p q L M H8 := by
    have hD8 := hD4.mono s48
    obtain ⟨_, g1⟩ := lsD hD8
    exact ⟨hD8, hT4.ext (hide_mono s48), i1.mono (hide_mono s48), i2.mono (hide_mono s48), (hp.mono s48).hid g1, hq.hid g1⟩
  clear s48 s8 s7 iEl iSl s6 nM him hacc s5 hT4 hD4 i1 i2 j1 j2 hS hE iS iE ha2 ha2' e2 nL nq ndx nxd dx hq hp
  -- four pairs of plans
  refine ⟨_, rfl, _, rfl, fun x dx nx ndx nxd => ⟨_, x, dx, p, q, L, M, rfl, (same_new ndx).trans (same_new (o := .ins T.cQ dx []) (by rw [upd_ne (Ne.symm nxd)]; exact nx)), nx, upd_same, ls0.tabs'.ext ((same_new ndx).trans (same_new (o := .ins T.cQ dx []) (by rw [upd_ne (Ne.symm nxd)]; exact nx))), ls0.fst', ls0.snd', okL, okM, hlm, fun G1 e1 t1 pp1 => ⟨rfl, ?_⟩⟩⟩
  have lsA := ls0.pair e1 t1
  refine ⟨_, rfl, _, rfl, x, v1, v2, L, M, rfl, pp1, lsA.one', lsA.two', okL, okM, hlm, fun G2 s2 => ⟨_, rfl, iteF ?_⟩⟩
  have ls1 := lsA.mono s2
  clear s2 lsA pp1 e1 t1 nx ndx nxd x dx
  refine ⟨_, rfl, _, rfl, fun x dx nx ndx nxd => ⟨_, x, dx, q, p, M, L, rfl, (same_new ndx).trans (same_new (o := .ins T.cQ dx []) (by rw [upd_ne (Ne.symm nxd)]; exact nx)), nx, upd_same, ls1.tabs'.ext ((same_new ndx).trans (same_new (o := .ins T.cQ dx []) (by rw [upd_ne (Ne.symm nxd)]; exact nx))), ls1.snd', ls1.fst', okM, okL, hml, fun G1 e1 t1 pp1 => ⟨rfl, ?_⟩⟩⟩
  have lsA := ls1.pair e1 t1
  refine ⟨_, rfl, _, rfl, x, v2, v1, M, L, rfl, pp1, lsA.two', lsA.one', okM, okL, hml, fun G2 s2 => ⟨_, rfl, iteF ?_⟩⟩
  have ls2 := lsA.mono s2
  clear s2 lsA pp1 e1 t1 nx ndx nxd x dx
  refine ⟨_, rfl, _, rfl, fun x dx nx ndx nxd => ⟨_, x, dx, p, p, L, L, rfl, (same_new ndx).trans (same_new (o := .ins T.cQ dx []) (by rw [upd_ne (Ne.symm nxd)]; exact nx)), nx, upd_same, ls2.tabs'.ext ((same_new ndx).trans (same_new (o := .ins T.cQ dx []) (by rw [upd_ne (Ne.symm nxd)]; exact nx))), ls2.fst', ls2.fst', okL, okL, hll, fun G1 e1 t1 pp1 => ⟨rfl, ?_⟩⟩⟩
  have lsA := ls2.pair e1 t1
  refine ⟨_, rfl, _, rfl, x, v1, v1, L, L, rfl, pp1, lsA.one', lsA.one', okL, okL, hll, fun G2 s2 => ⟨_, rfl, iteF ?_⟩⟩
  have ls3 := lsA.mono s2
  clear s2 lsA pp1 e1 t1 nx ndx nxd x dx
  refine ⟨_, rfl, _, rfl, fun x dx nx ndx nxd => ⟨_, x, dx, p, q, L, M, rfl, (same_new ndx).trans (same_new (o := .ins T.cQ dx []) (by rw [upd_ne (Ne.symm nxd)]; exact nx)), nx, upd_same, ls3.tabs'.ext ((same_new ndx).trans (same_new (o := .ins T.cQ dx []) (by rw [upd_ne (Ne.symm nxd)]; exact nx))), ls3.fst', ls3.snd', okL, okM, hlm, fun G1 e1 t1 pp1 => ⟨rfl, ?_⟩⟩⟩
  have lsA := ls3.pair e1 t1
  refine ⟨_, rfl, _, rfl, x, v1, v2, L, M, rfl, pp1, lsA.one', lsA.two', okL, okM, hlm, fun G2 s2 => ⟨_, rfl, iteF ?_⟩⟩
  have ls4 := lsA.mono s2
  clear s2 lsA pp1 e1 t1 nx ndx nxd x dx
  -- the table
  refine ⟨_, rfl, _, rfl, v1, v2, L, M, rfl, ls4.one', ls4.two', okL, okM, hlm, fun G t aO aX ov kvs s5 nt nO ht hO hX iO kX => ⟨t, _, 0, _, rfl, rfl, SqT.of ht, atI_nat (j := 0) rfl, aO, rfl, ⟨_, SqL.of hO⟩, fun aT nT => ?_⟩⟩
  have ls5 := ls4.mono s5
  have ovl : ov.length = (fin L M).length := by rw [iO.len, List.length_map]
  have few := fin_few okL okM hlm
  refine lc_it (walk_list (xs := ov)) (PvIm G aT fun i => ((fin L M)[i]?).bind fun b => if keepN b.1 = true then some (nodeD b.1) else none) (PvIm.zero nT) (fun i G' _ pv => SqL.of (pv.base _ _ hO)) (fun i x G1 G1' hi pv y => ?_) fun G1 pv => ?_
  · obtain ⟨rfl, hx⟩ := y
    obtain ⟨d, hdd, him⟩ := iO.get hx
    have hir : i < (fin L M).length := by rw [← ovl]; exact hi
    have hri : (fin L M)[i]? = some (fin L M)[i] := List.getElem?_eq_getElem hir
    generalize (fin L M)[i] = b at hri
    rw [List.getElem?_map, hri] at hdd
    cases hdd
    have him2 := him.mono pv.1
    obtain ⟨cc, u1, u2, rfl, hcc, j1, j2⟩ := him.pair_inv
    cases j1.int_inv
    cases j2.int_inv
    have hcc := pv.base _ _ hcc
    have no : keepN b.1 = false → PvIm G aT (fun i => ((fin L M)[i]?).bind fun b => if keepN b.1 = true then some (nodeD b.1) else none) (i + 1) G1' := fun h => pv.skip (fun _ _ e => e) rfl (by rw [hri]; show (if keepN b.1 = true then _ else none) = none; rw [h]; rfl)
    refine ⟨rfl, _, rfl, cc, _, _, _, rfl, rfl, .inr hcc, atI_nat (j := 0) rfl, _, _, rfl, rfl, _, rfl, ite2 (fun c1 => ?_) (fun c1 => iteF (no ?_))⟩
    · refine ⟨_, rfl, cc, _, _, _, rfl, rfl, .inr hcc, atI_nat (j := 1) rfl, _, _, rfl, rfl, _, rfl, ite2 (fun c2 => ?_) (fun c2 => no ?_)⟩
      · have c1 : 0 ≤ b.1.1 := by simpa using c1
        have c2 : 0 ≤ b.1.2 := by simpa using c2
        have hk : keepN b.1 = true := by unfold keepN; rw [decide_eq_true c1, decide_eq_true c2]; rfl
        exact ⟨_, rfl, pv.push (fun _ _ e => e) rfl (d := nodeD b.1) (by rw [hri]; show (if keepN b.1 = true then _ else none) = _; rw [hk]; rfl) him2 (by omega)⟩
      · have c2 : ¬ 0 ≤ b.1.2 := by simpa using c2
        unfold keepN; rw [decide_eq_false c2, Bool.and_false]
    · have c1 : ¬ 0 ≤ b.1.1 := by simpa using c1
      unfold keepN; rw [decide_eq_false c1]; rfl
  have s6 := pv.base
  obtain ⟨_, acc, hacc, _, him⟩ := pv
  rw [ovl, filterMap_range, keep_map] at him
  have nl : (((fin L M).map (·.1)).filter keepN).length ≤ 400 := Nat.le_trans (List.length_filter_le _ _) (by rw [List.length_map]; exact few)
  generalize ((fin L M).map (·.1)).filter keepN = ns at him nl
  have ls6 := ls5.mono s6
  have nTD : aT ≠ D := by
    obtain ⟨_, g1⟩ := lsD ls5.dr
    exact (ne_of_none g1 nT).symm
  have hTab : hide [D] G1 aT = some (.lst acc) := by rw [hide_out (by simpa using nTD)]; exact hacc
  have iTab : Ims (hide [D] G1) acc (ns.map nodeD) := by
    obtain ⟨_, g1⟩ := lsD ls6.dr
    refine Ims.hid (fun p hp xs e => ?_) (him.mono (hide_same _ _)) (noLs_all fun d hd => by obtain ⟨n, _, rfl⟩ := List.mem_map.mp hd; rfl)
    rw [List.mem_singleton.mp hp, g1] at e; cases e
  clear s5 s6 hacc him ls4 ls5 hO hX iO kX ht nO nt nT few ovl
  have al : acc.length = ns.length := by rw [iTab.len, List.length_map]
  have dl : (ns.map nodeD).length ≤ 400 := by rw [List.length_map]; exact nl
  have nok := nodes_ok ns
  -- three tables judged
  refine ⟨_, rfl, _, rfl, _, rfl, _, rfl, _, rfl, v1, v2, p, q, aT, acc, ns.map nodeD, L, M, rfl, ls6.one', ls6.two', ls6.fst', ls6.snd', okL, okM, hide_same _ _ _ _ hTab, iTab.mono (hide_same _ _), by omega, nok, fun G2 s2 => ⟨_, rfl, iteF ?_⟩⟩
  have ls7 := ls6.mono s2
  have hTab := hide_mono (L := [D]) s2 _ _ hTab
  have iTab := iTab.mono (hide_mono (L := [D]) s2)
  clear s2 ls6
  refine ⟨_, rfl, _, rfl, _, rfl, _, rfl, _, rfl, aT, acc, rfl, SqL.of (hide_same _ _ _ _ hTab), fun z nz => ?_⟩
  have s3 := same_new (o := .lst acc.reverse) nz
  have hz : upd G2 z (.lst acc.reverse) z = some (.lst acc.reverse) := upd_same
  have ls8 := ls7.mono s3
  have hTab := hide_mono (L := [D]) s3 _ _ hTab
  have iTab := iTab.mono (hide_mono (L := [D]) s3)
  generalize upd G2 z (.lst acc.reverse) = G3 at s3 hz ls8 hTab iTab
  refine ⟨v1, v2, p, q, z, acc.reverse, (ns.map nodeD).reverse, L, M, rfl, ls8.one', ls8.two', ls8.fst', ls8.snd', okL, okM, hz, (iTab.mono (hide_same _ _)).rev, by rw [List.length_reverse]; omega, fun d hd => nok d (List.mem_reverse.mp hd), fun G4 s4 => ⟨_, rfl, iteF ?_⟩⟩
  have ls9 := ls8.mono s4
  have hTab := hide_mono (L := [D]) s4 _ _ hTab
  have iTab := iTab.mono (hide_mono (L := [D]) s4)
  clear s3 s4 hz ls8 ls7 nz
  have hT0 := hide_same _ _ _ _ hTab
  refine ⟨_, rfl, _, rfl, _, rfl, _, rfl, _, rfl, aT, rfl, ⟨_, SqL.of hT0⟩, fun aZ nZ => lc_it (walk_list (xs := acc)) (PvIm G4 aZ fun i => (ns[i]?).map fun n => nodeD (n.2, n.1)) (PvIm.zero nZ) (fun i G _ pv => SqL.of (pv.base _ _ hT0)) (fun i x G G' hi pv y => ?_) fun G5 pv => ?_⟩
  · obtain ⟨rfl, hx⟩ := y
    obtain ⟨d, hdd, him⟩ := (iTab.mono (hide_same _ _)).get hx
    have hir : i < ns.length := by rw [← al]; exact hi
    have hri : ns[i]? = some ns[i] := List.getElem?_eq_getElem hir
    generalize ns[i] = n at hri
    rw [List.getElem?_map, hri] at hdd
    cases hdd
    obtain ⟨cc, u1, u2, rfl, hcc, j1, j2⟩ := him.pair_inv
    cases j1.int_inv
    cases j2.int_inv
    have hcc := pv.base _ _ hcc
    refine ⟨rfl, _, rfl, cc, _, _, _, rfl, rfl, .inr hcc, atI_nat (j := 1) rfl, _, rfl, cc, _, _, _, rfl, rfl, .inr hcc, atI_nat (j := 0) rfl, szle (Nat.le_trans (Nat.le_refl 2) (by decide)), fun t nt => ?_⟩
    obtain ⟨acc0, hacc0⟩ : ∃ acc, G' aZ = some (.lst acc) := by obtain ⟨_, acc, h, _⟩ := pv; exact ⟨acc, h⟩
    have nta : t ≠ aZ := (ne_of_none hacc0 nt).symm
    exact pv.push (hide_upd nt) (upd_ne nta.symm) (d := nodeD (n.2, n.1)) (by rw [hri]; rfl) (Im.pair (x := .int n.2) (y := .int n.1) (by rw [hide_out (by simpa using nta)]; exact upd_same) (.int _) (.int _)) (by omega)
  have s5 := pv.base
  obtain ⟨_, acc2, hacc2, _, him⟩ := pv
  rw [al, map_range] at him
  have ls10 := ls9.mono s5
  have hTab := hide_mono (L := [D]) s5 _ _ hTab
  have iTab := iTab.mono (hide_mono (L := [D]) s5)
  refine ⟨v2, v1, q, p, aZ, acc2, ns.map fun n => nodeD (n.2, n.1), M, L, rfl, ls10.two', ls10.one', ls10.snd', ls10.fst', okM, okL, hacc2, him.mono (hide_same _ _), by rw [List.length_map]; omega, fun d hd => by obtain ⟨n, _, rfl⟩ := List.mem_map.mp hd; exact nodeD_ok _, fun G6 s6 => ⟨_, rfl, iteF ?_⟩⟩
  have ls11 := ls10.mono s6
  have hTab := hide_mono (L := [D]) s6 _ _ hTab
  have iTab := iTab.mono (hide_mono (L := [D]) s6)
  clear s5 s6 hacc2 him ls9 ls10 hT0 nZ
  -- four turns of bent tables
  refine ⟨_, rfl, by decide, by decide, for_it walk_rng (fun i σ G => ∃ (o0 o7 o8 o9 o10 o11 : Option V), σ = [o0, some (.ref D), some v1, some v2, some (.ref p), some (.ref q), some (.ref aT), o7, o8, o9, o10, o11] ∧ LS T.cP T.P_lp c cells D v1 v2 p q L M G ∧ hide [D] G aT = some (.lst acc) ∧ Ims (hide [D] G) acc (ns.map nodeD))
    ⟨_, _, _, _, _, _, rfl, ls11, hTab, iTab⟩ (fun i σ G _ h => True.intro) (fun i x σ G G' hi h y => ?_) fun σ G h => ?_⟩
  · clear ls11 hTab iTab
    obtain ⟨o0, o7, o8, o9, o10, o11, rfl, ls, hTab, iTab⟩ := h
    obtain ⟨rfl, rfl⟩ := y
    refine ⟨_, rfl, _, rfl, _, rfl, _, rfl, c, cells, D, aT, v1, v2, acc, ns.map nodeD, L, M, rfl, ls.dr, hTab, iTab, nok, by omega, ls.one, ls.two, okL, okM, fun b xs ds G2 hb ib okb lb s2 hD2 => ?_⟩
    have ls2 := ls.turn s2 hD2
    have hTab := s2 _ _ hTab
    have iTab := iTab.mono s2
    clear ls s2 hD2
    refine ⟨_, rfl, c, cells, D, 3, rfl, ls2.dr, by decide, by decide, fun r G3 hr s3 hD3 => ?_⟩
    have ls3 := ls2.turn s3 hD3
    have hTab := s3 _ _ hTab
    have iTab := iTab.mono s3
    have hb := s3 _ _ hb
    have ib := ib.mono s3
    clear ls2 s3 hD3
    refine ⟨_, rfl, by omega, by omega, for_it walk_rng (fun j σ G => ∃ (o0 o7 o9 o10 o11 : Option V) (b : Addr) (xs : List V) (ds : List PyData), σ = [o0, some (.ref D), some v1, some v2, some (.ref p), some (.ref q), some (.ref aT), o7, some (.ref b), o9, o10, o11] ∧ LS T.cP T.P_lp c cells D v1 v2 p q L M G ∧ hide [D] G aT = some (.lst acc) ∧ Ims (hide [D] G) acc (ns.map nodeD) ∧
      hide [D] G b = some (.lst xs) ∧ Ims (hide [D] G) xs ds ∧ (∀ d ∈ ds, OkD d) ∧ ds.length ≤ 401 + j)
      ⟨_, _, _, _, _, b, xs, ds, rfl, ls3, hTab, iTab, hb, ib, okb, by omega⟩ (fun j σ G _ h => True.intro) (fun j x σ G4 G5 hj h y => ?_) fun σ G4 h => ?_⟩
    · clear ls3 hTab iTab hb ib okb lb
      obtain ⟨o0, o7, o9, o10, o11, b, xs, ds, rfl, ls, hTab, iTab, hb, ib, okb, lb⟩ := h
      obtain ⟨rfl, rfl⟩ := y
      have hj : j < ((r : Int)).toNat := hj
      refine ⟨_, rfl, _, rfl, _, rfl, _, rfl, c, cells, D, b, v1, v2, xs, ds, L, M, rfl, ls.dr, hb, ib, okb, by omega, ls.one, ls.two, okL, okM, fun b2 xs2 ds2 G6 hb2 ib2 okb2 lb2 s6 hD6 => ?_⟩
      exact ⟨_, _, _, _, _, b2, xs2, ds2, rfl, ls.turn s6 hD6, s6 _ _ hTab, iTab.mono s6, hb2, ib2, okb2, by omega⟩
    · clear ls3 hTab iTab hb ib okb lb
      obtain ⟨o0, o7, o9, o10, o11, b, xs, ds, rfl, ls, hTab, iTab, hb, ib, okb, lb⟩ := h
      have lb : ds.length ≤ 401 + ((r : Int)).toNat := lb
      refine ⟨_, rfl, _, rfl, _, rfl, _, rfl, _, rfl, v1, v2, p, q, b, xs, ds, L, M, rfl, ls.one', ls.two', ls.fst', ls.snd', okL, okM, hide_same _ _ _ _ hb, ib.mono (hide_same _ _), by omega, okb, fun G6 s6 => ⟨_, rfl, iteF ?_⟩⟩
      exact ⟨_, _, _, _, _, _, rfl, ls.mono s6, hide_mono (L := [D]) s6 _ _ hTab, iTab.mono (hide_mono (L := [D]) s6)⟩
  · clear ls11 hTab iTab
    obtain ⟨o0, o7, o8, o9, o10, o11, rfl, ls, hTab, iTab⟩ := h
    refine ⟨_, rfl, _, rfl, szle (Nat.zero_le _), fun t nt => ?_⟩
    have ls2 := ls.mono (same_new (o := .tup []) nt)
    refine ⟨p, q, .ref t, .tuple [], [], L, M, rfl, ls2.fst', ls2.snd', okL, okM, .tup upd_same .nil, .inl rfl, by decide, rfl, fun G2 s2 => ?_⟩
    have e : jud L M (tupds []) = some (-1) := jud_not (by show (0, 0) ∉ thereT L M []; simp [thereT])
    rw [e]
    refine ⟨_, rfl, rfl, ?_⟩
    show Q (V.bl (decide (V.int (-1) = V.int (-1)))) _
    rw [decide_eq_true rfl]
    exact k _
end
end Tk
set_option maxHeartbeats 0
/-! the head and the end -/
namespace Tk
open PySem PySem.Spec PyProof.Rows L2
def dd_listed : He.DefD := ⟨("listed", none), "listed", "listed", defArgs (top 9), defBody (top 9), defScope (top 9), [], []⟩
def dd_isint : He.DefD := ⟨("is_integer", none), "is_integer", "is_integer", defArgs (top 11), defBody (top 11), defScope (top 11), [], []⟩
def dd_deep : He.DefD := ⟨("deep", none), "deep", "deep", defArgs (top 12), defBody (top 12), defScope (top 12), [.int 12], []⟩
def dd_rising : He.DefD := ⟨("is_rising", none), "is_rising", "is_rising", defArgs (top 13), defBody (top 13), defScope (top 13), [], []⟩
def dd_psteps : He.DefD := ⟨("pair_steps", none), "pair_steps", "pair_steps", defArgs (top 15), defBody (top 15), defScope (top 15), [], []⟩
def dd_isfinal : He.DefD := ⟨("is_final", none), "is_final", "is_final", defArgs (top 16), defBody (top 16), defScope (top 16), [], []⟩
def dd_lpairs : He.DefD := ⟨("listed_pairs", none), "listed_pairs", "listed_pairs", defArgs (top 17), defBody (top 17), defScope (top 17), [], []⟩
def dd_ppInit : He.DefD := ⟨("PlanPair", some "__init__"), "__init__", "PlanPair.__init__", defArgs (inClass (top 18) 0), defBody (inClass (top 18) 0), defScope (inClass (top 18) 0), [], []⟩
def dd_ppBool : He.DefD := ⟨("PlanPair", some "__bool__"), "__bool__", "PlanPair.__bool__", defArgs (inClass (top 18) 1), defBody (inClass (top 18) 1), defScope (inClass (top 18) 1), [], []⟩
def dd_ppLen : He.DefD := ⟨("PlanPair", some "__len__"), "__len__", "PlanPair.__len__", defArgs (inClass (top 18) 2), defBody (inClass (top 18) 2), defScope (inClass (top 18) 2), [], []⟩
def dd_ppIter : He.DefD := ⟨("PlanPair", some "__iter__"), "__iter__", "PlanPair.__iter__", defArgs (inClass (top 18) 3), defBody (inClass (top 18) 3), defScope (inClass (top 18) 3), [], []⟩
def dd_ispair : He.DefD := ⟨("is_state_pair", none), "is_state_pair", "is_state_pair", defArgs (top 19), defBody (top 19), defScope (top 19), [], []⟩
def dd_judge : He.DefD := ⟨("judge_plans", none), "judge_plans", "judge_plans", defArgs (top 20), defBody (top 20), defScope (top 20), [], []⟩
def dd_issign : He.DefD := ⟨("is_plan_sign", none), "is_plan_sign", "is_plan_sign", defArgs (top 22), defBody (top 22), defScope (top 22), [], []⟩
def dd_isstate : He.DefD := ⟨("is_state", none), "is_state", "is_state", defArgs (top 23), defBody (top 23), defScope (top 23), [], []⟩
def dd_live : He.DefD := ⟨("live_states", none), "live_states", "live_states", defArgs (top 24), defBody (top 24), defScope (top 24), [], []⟩
def dd_srows : He.DefD := ⟨("step_rows_of", none), "step_rows_of", "step_rows_of", defArgs (top 29), defBody (top 29), defScope (top 29), [], []⟩
def dd_pInit : He.DefD := ⟨("Plan", some "__init__"), "__init__", "Plan.__init__", defArgs (inClass (top 30) 0), defBody (inClass (top 30) 0), defScope (inClass (top 30) 0), [.non], []⟩
def dd_draw : He.DefD := ⟨("_law_draw", none), "_law_draw", "_law_draw", defArgs (top 32), defBody (top 32), defScope (top 32), [], []⟩
def dd_mix : He.DefD := ⟨("_law_mix", none), "_law_mix", "_law_mix", defArgs (top 33), defBody (top 33), defScope (top 33), [], []⟩
def dd_pick : He.DefD := ⟨("_law_pick", none), "_law_pick", "_law_pick", defArgs (top 34), defBody (top 34), defScope (top 34), [], []⟩
def dd_lisint : He.DefD := ⟨("_law_is_int", none), "_law_is_int", "_law_is_int", defArgs (top 35), defBody (top 35), defScope (top 35), [], []⟩
def dd_plan : He.DefD := ⟨("_law_plan", none), "_law_plan", "_law_plan", defArgs (top 36), defBody (top 36), defScope (top 36), [], []⟩
def dd_reaches : He.DefD := ⟨("_law_reaches", none), "_law_reaches", "_law_reaches", defArgs (top 37), defBody (top 37), defScope (top 37), [], []⟩
def dd_ring : He.DefD := ⟨("_law_ring", none), "_law_ring", "_law_ring", defArgs (top 38), defBody (top 38), defScope (top 38), [], []⟩
def dd_split : He.DefD := ⟨("_law_split", none), "_law_split", "_law_split", defArgs (top 39), defBody (top 39), defScope (top 39), [], []⟩
def dd_changed : He.DefD := ⟨("_law_changed", none), "_law_changed", "_law_changed", defArgs (top 40), defBody (top 40), defScope (top 40), [], []⟩
def dd_two : He.DefD := ⟨("_law_two", none), "_law_two", "_law_two", defArgs (top 41), defBody (top 41), defScope (top 41), [], []⟩
def dd_pairs : He.DefD := ⟨("_law_pairs", none), "_law_pairs", "_law_pairs", defArgs (top 42), defBody (top 42), defScope (top 42), [], []⟩
def dd_verdict : He.DefD := ⟨("_law_verdict", none), "_law_verdict", "_law_verdict", defArgs (top 43), defBody (top 43), defScope (top 43), [], []⟩
def dd_inform : He.DefD := ⟨("_law_in_form", none), "_law_in_form", "_law_in_form", defArgs (top 44), defBody (top 44), defScope (top 44), [], []⟩
def dd_looker : He.DefD := ⟨("_law_looker", none), "_law_looker", "_law_looker", defArgs (top 45), defBody (top 45), defScope (top 45), [], []⟩
def dd_bent : He.DefD := ⟨("_law_bent", none), "_law_bent", "_law_bent", defArgs (top 46), defBody (top 46), defScope (top 46), [], []⟩
def dd_judged : He.DefD := ⟨("_law_judged", none), "_law_judged", "_law_judged", defArgs (top 47), defBody (top 47), defScope (top 47), [], []⟩
def dd_law : He.DefD := ⟨("law", none), "law", "law", defArgs (top 48), defBody (top 48), defScope (top 48), [], []⟩
def fnL : List He.DefD := [dd_listed, dd_isint, dd_deep, dd_rising, dd_psteps, dd_isfinal, dd_lpairs, dd_ppInit, dd_ppBool, dd_ppLen, dd_ppIter, dd_ispair, dd_judge, dd_issign, dd_isstate, dd_live, dd_srows, dd_pInit, dd_draw, dd_mix, dd_pick, dd_lisint, dd_plan, dd_reaches, dd_ring, dd_split, dd_changed, dd_two, dd_pairs, dd_verdict, dd_inform, dd_looker, dd_bent, dd_judged, dd_law]
def faL0 : List He.Fa := [.glo "listed", .glo "is_integer", .glo "deep", .glo "is_rising", .glo "pair_steps", .glo "is_final", .glo "listed_pairs", .glo "is_state_pair", .glo "judge_plans", .glo "is_plan_sign", .glo "is_state", .glo "live_states", .glo "step_rows_of", .glo "_law_draw", .glo "_law_mix", .glo "_law_pick", .glo "_law_is_int", .glo "_law_plan", .glo "_law_reaches", .glo "_law_ring", .glo "_law_split", .glo "_law_changed", .glo "_law_two", .glo "_law_pairs", .glo "_law_verdict", .glo "_law_in_form", .glo "_law_looker", .glo "_law_bent", .glo "_law_judged", .glo "law"]
def faL1 : List He.Fa := [.free "len", .free "int", .free "bool", .free "list", .free "tuple", .free "str", .free "range", .free "enumerate", .free "sorted", .free "zip", .free "all", .free "isinstance", .free "iter", .free "sum", .free "abs", .free "set", .glo "Plan", .cls "Plan", .mkr "Plan", .glo "PlanPair", .cls "PlanPair", .mkr "PlanPair", .noat "Plan" "states", .noat "Plan" "ends", .noat "Plan" "table", .noat "Plan" "is_end", .noat "Plan" "step_rows", .noat "PlanPair" "holds", .noat "PlanPair" "table", .noat "PlanPair" "text"]
def faL2 : List He.Fa := [.noat "PlanPair" "bearer", .noat "PlanPair" "rows", .meth "PlanPair" "__bool__", .meth "PlanPair" "__len__", .meth "PlanPair" "__iter__"]
def faL : List He.Fa := faL0 ++ (faL1 ++ (faL2))
def namesL0 : List Str := ["_wall", "TailError", "BadPlan", "BadMost", "TooMany", "Empty", "NoStanding", "listed", "is_integer", "deep", "is_rising", "pair_steps", "is_final", "listed_pairs", "PlanPair", "is_state_pair", "judge_plans", "is_plan_sign", "is_state", "live_states", "classes_of", "least_of", "paired", "ends_within", "step_rows_of", "Plan", "_law_draw", "_law_mix", "_law_pick", "_law_is_int"]
def namesL1 : List Str := ["_law_plan", "_law_reaches", "_law_ring", "_law_split", "_law_changed", "_law_two", "_law_pairs", "_law_verdict", "_law_in_form", "_law_looker", "_law_bent", "_law_judged"]
def namesL : List Str := namesL0 ++ (namesL1)
def tfL : List He.Defn := [("listed_pairs", none)]
def exB : PySem.W.Frag → Bool := fun _ => true
abbrev Row_ : PySem.W.OpenRow := PySem.W.OpenLaw.row PySem.Challenge.rw_tailheard_k08_whole_plans_alike
abbrev hk : PySem.W.Hook := He.hookX 5 faL fnL [] tfL exB
def ob (s : PySem.W.SharedT) : He.AlX := He.obsX 5 faL fnL [] tfL exB (HandSHeadRun.getT s)
theorem ob_eq (s : PySem.W.SharedT) : ob s = hk.obs s.abs := He.obsX_eq (HandSHeadRun.getT_eq s)
theorem run (w : World) : HandSHeadRun.RunEq Row_ (PySem.W.view Row_.prog [48]) hk ob 4000 namesL w := by
  intro os
  kernel_rfl
theorem lp_code {K : PySem.W.Frag} {x qual : Str} {params : Arguments} {body : List Stmt} {scope : Scope} {dvs : List V} {kws : List (Str × V)} {p : Str × Option Str} {fd : FuncData} (F : FunD K x qual params body scope dvs kws (He.fAd K p) fd) : fd.code = .ref (He.codeOf K p) := by
  obtain ⟨oc, od, dV, kV, doc, pm, an, cdv, ct, osl, e, lk, hcd, _, _⟩ := F.ex
  obtain ⟨c, hc⟩ := He.codeIn_ref hcd
  have e2 : fd.code = .ref c := by rw [e]; exact hc
  rw [e2, He.codeOf_eq lk e2]
theorem fx_of {w : World} {K : PySem.W.Frag} {h : Heap} {mg : Str → Option Value} (X : K.In h) (G : h.Ns mainGlobals mg) (c : He.SaysX faL fnL [] tfL exB w h K) :
    ∃ T : Fx K mg, T.a_law = He.ga K "law" ∧ T.c_lp = (He.cT K ("listed_pairs", none)).1 ∧ T.P_lp = (He.cT K ("listed_pairs", none)).2 := by
  obtain ⟨d_listed, F_listed⟩ := c.t.d.def_ 0 (d := dd_listed) rfl
  obtain ⟨d_isint, F_isint⟩ := c.t.d.def_ 1 (d := dd_isint) rfl
  obtain ⟨d_deep, F_deep⟩ := c.t.d.def_ 2 (d := dd_deep) rfl
  obtain ⟨d_rising, F_rising⟩ := c.t.d.def_ 3 (d := dd_rising) rfl
  obtain ⟨d_psteps, F_psteps⟩ := c.t.d.def_ 4 (d := dd_psteps) rfl
  obtain ⟨d_isfinal, F_isfinal⟩ := c.t.d.def_ 5 (d := dd_isfinal) rfl
  obtain ⟨d_lpairs, F_lpairs⟩ := c.t.d.def_ 6 (d := dd_lpairs) rfl
  obtain ⟨d_ppInit, F_ppInit⟩ := c.t.d.def_ 7 (d := dd_ppInit) rfl
  obtain ⟨d_ppBool, F_ppBool⟩ := c.t.d.def_ 8 (d := dd_ppBool) rfl
  obtain ⟨d_ppLen, F_ppLen⟩ := c.t.d.def_ 9 (d := dd_ppLen) rfl
  obtain ⟨d_ppIter, F_ppIter⟩ := c.t.d.def_ 10 (d := dd_ppIter) rfl
  obtain ⟨d_ispair, F_ispair⟩ := c.t.d.def_ 11 (d := dd_ispair) rfl
  obtain ⟨d_judge, F_judge⟩ := c.t.d.def_ 12 (d := dd_judge) rfl
  obtain ⟨d_issign, F_issign⟩ := c.t.d.def_ 13 (d := dd_issign) rfl
  obtain ⟨d_isstate, F_isstate⟩ := c.t.d.def_ 14 (d := dd_isstate) rfl
  obtain ⟨d_live, F_live⟩ := c.t.d.def_ 15 (d := dd_live) rfl
  obtain ⟨d_srows, F_srows⟩ := c.t.d.def_ 16 (d := dd_srows) rfl
  obtain ⟨d_pInit, F_pInit⟩ := c.t.d.def_ 17 (d := dd_pInit) rfl
  obtain ⟨d_draw, F_draw⟩ := c.t.d.def_ 18 (d := dd_draw) rfl
  obtain ⟨d_mix, F_mix⟩ := c.t.d.def_ 19 (d := dd_mix) rfl
  obtain ⟨d_pick, F_pick⟩ := c.t.d.def_ 20 (d := dd_pick) rfl
  obtain ⟨d_lisint, F_lisint⟩ := c.t.d.def_ 21 (d := dd_lisint) rfl
  obtain ⟨d_plan, F_plan⟩ := c.t.d.def_ 22 (d := dd_plan) rfl
  obtain ⟨d_reaches, F_reaches⟩ := c.t.d.def_ 23 (d := dd_reaches) rfl
  obtain ⟨d_ring, F_ring⟩ := c.t.d.def_ 24 (d := dd_ring) rfl
  obtain ⟨d_split, F_split⟩ := c.t.d.def_ 25 (d := dd_split) rfl
  obtain ⟨d_changed, F_changed⟩ := c.t.d.def_ 26 (d := dd_changed) rfl
  obtain ⟨d_two, F_two⟩ := c.t.d.def_ 27 (d := dd_two) rfl
  obtain ⟨d_pairs, F_pairs⟩ := c.t.d.def_ 28 (d := dd_pairs) rfl
  obtain ⟨d_verdict, F_verdict⟩ := c.t.d.def_ 29 (d := dd_verdict) rfl
  obtain ⟨d_inform, F_inform⟩ := c.t.d.def_ 30 (d := dd_inform) rfl
  obtain ⟨d_looker, F_looker⟩ := c.t.d.def_ 31 (d := dd_looker) rfl
  obtain ⟨d_bent, F_bent⟩ := c.t.d.def_ 32 (d := dd_bent) rfl
  obtain ⟨d_judged, F_judged⟩ := c.t.d.def_ 33 (d := dd_judged) rfl
  obtain ⟨d_law, F_law⟩ := c.t.d.def_ 34 (d := dd_law) rfl
  have FF : ∀ (i : Nat) {f : He.Fa}, faL[i]? = some f → f.ok K = true := fun i f e => c.t.d.fact i e
  exact ⟨{ a_listed := _, d_listed := d_listed, F_listed := F_listed, g_listed := He.glo_ok X G (FF 0 rfl), a_isint := _, d_isint := d_isint, F_isint := F_isint, g_isint := He.glo_ok X G (FF 1 rfl), a_deep := _, d_deep := d_deep, F_deep := F_deep, g_deep := He.glo_ok X G (FF 2 rfl), a_rising := _, d_rising := d_rising, F_rising := F_rising, g_rising := He.glo_ok X G (FF 3 rfl), a_psteps := _, d_psteps := d_psteps, F_psteps := F_psteps, g_psteps := He.glo_ok X G (FF 4 rfl), a_isfinal := _, d_isfinal := d_isfinal, F_isfinal := F_isfinal, g_isfinal := He.glo_ok X G (FF 5 rfl), a_lpairs := _, d_lpairs := d_lpairs, F_lpairs := F_lpairs, g_lpairs := He.glo_ok X G (FF 6 rfl), c_lp := He.codeOf K ("listed_pairs", none), P_lp := (He.cT K ("listed_pairs", none)).2, code_lp := lp_code F_lpairs, a_ppInit := _, d_ppInit := d_ppInit, F_ppInit := F_ppInit, a_ppBool := _, d_ppBool := d_ppBool, F_ppBool := F_ppBool, a_ppLen := _, d_ppLen := d_ppLen, F_ppLen := F_ppLen, a_ppIter := _, d_ppIter := d_ppIter, F_ppIter := F_ppIter, a_ispair := _, d_ispair := d_ispair, F_ispair := F_ispair, g_ispair := He.glo_ok X G (FF 7 rfl), a_judge := _, d_judge := d_judge, F_judge := F_judge, g_judge := He.glo_ok X G (FF 8 rfl), a_issign := _, d_issign := d_issign, F_issign := F_issign, g_issign := He.glo_ok X G (FF 9 rfl), a_isstate := _, d_isstate := d_isstate, F_isstate := F_isstate, g_isstate := He.glo_ok X G (FF 10 rfl), a_live := _, d_live := d_live, F_live := F_live, g_live := He.glo_ok X G (FF 11 rfl), a_srows := _, d_srows := d_srows, F_srows := F_srows, g_srows := He.glo_ok X G (FF 12 rfl), a_pInit := _, d_pInit := d_pInit, F_pInit := F_pInit, a_draw := _, d_draw := d_draw, F_draw := F_draw, g_draw := He.glo_ok X G (FF 13 rfl), a_mix := _, d_mix := d_mix, F_mix := F_mix, g_mix := He.glo_ok X G (FF 14 rfl), a_pick := _, d_pick := d_pick, F_pick := F_pick, g_pick := He.glo_ok X G (FF 15 rfl), a_lisint := _, d_lisint := d_lisint, F_lisint := F_lisint, g_lisint := He.glo_ok X G (FF 16 rfl), a_plan := _, d_plan := d_plan, F_plan := F_plan, g_plan := He.glo_ok X G (FF 17 rfl), a_reaches := _, d_reaches := d_reaches, F_reaches := F_reaches, g_reaches := He.glo_ok X G (FF 18 rfl), a_ring := _, d_ring := d_ring, F_ring := F_ring, g_ring := He.glo_ok X G (FF 19 rfl), a_split := _, d_split := d_split, F_split := F_split, g_split := He.glo_ok X G (FF 20 rfl), a_changed := _, d_changed := d_changed, F_changed := F_changed, g_changed := He.glo_ok X G (FF 21 rfl), a_two := _, d_two := d_two, F_two := F_two, g_two := He.glo_ok X G (FF 22 rfl), a_pairs := _, d_pairs := d_pairs, F_pairs := F_pairs, g_pairs := He.glo_ok X G (FF 23 rfl), a_verdict := _, d_verdict := d_verdict, F_verdict := F_verdict, g_verdict := He.glo_ok X G (FF 24 rfl), a_inform := _, d_inform := d_inform, F_inform := F_inform, g_inform := He.glo_ok X G (FF 25 rfl), a_looker := _, d_looker := d_looker, F_looker := F_looker, g_looker := He.glo_ok X G (FF 26 rfl), a_bent := _, d_bent := d_bent, F_bent := F_bent, g_bent := He.glo_ok X G (FF 27 rfl), a_judged := _, d_judged := d_judged, F_judged := F_judged, g_judged := He.glo_ok X G (FF 28 rfl), a_law := _, d_law := d_law, F_law := F_law, g_law := He.glo_ok X G (FF 29 rfl), z_len := He.free_ok X G (FF 30 rfl), z_int := He.free_ok X G (FF 31 rfl), z_bool := He.free_ok X G (FF 32 rfl), z_list := He.free_ok X G (FF 33 rfl), z_tuple := He.free_ok X G (FF 34 rfl), z_str := He.free_ok X G (FF 35 rfl), z_range := He.free_ok X G (FF 36 rfl), z_enumerate := He.free_ok X G (FF 37 rfl), z_sorted := He.free_ok X G (FF 38 rfl), z_zip := He.free_ok X G (FF 39 rfl), z_all := He.free_ok X G (FF 40 rfl), z_isinstance := He.free_ok X G (FF 41 rfl), z_iter := He.free_ok X G (FF 42 rfl), z_sum := He.free_ok X G (FF 43 rfl), z_abs := He.free_ok X G (FF 44 rfl), z_set := He.free_ok X G (FF 45 rfl), cP := He.ga K "Plan", cQ := He.ga K "PlanPair", g_Plan := He.glo_ok X G (FF 46 rfl), g_PlanPair := He.glo_ok X G (FF 49 rfl), clP := He.cls_ok (FF 47 rfl), clQ := He.cls_ok (FF 50 rfl), mkP := He.mkr_ok (FF 48 rfl), mkQ := He.mkr_ok (FF 51 rfl), nP_states := He.noat_ok (FF 52 rfl), nP_ends := He.noat_ok (FF 53 rfl), nP_table := He.noat_ok (FF 54 rfl), nP_is_end := He.noat_ok (FF 55 rfl), nP_step_rows := He.noat_ok (FF 56 rfl), nQ_holds := He.noat_ok (FF 57 rfl), nQ_table := He.noat_ok (FF 58 rfl), nQ_text := He.noat_ok (FF 59 rfl), nQ_bearer := He.noat_ok (FF 60 rfl), nQ_rows := He.noat_ok (FF 61 rfl), m_ppBool := He.meth_ok (FF 62 rfl), m_ppLen := He.meth_ok (FF 63 rfl), m_ppIter := He.meth_ok (FF 64 rfl) }, rfl, rfl, rfl⟩
end Tk
open PySem PySem.W PySem.Calls PyProof.Rows
theorem PySem.Challenge.cw_tailheard_k08_whole_plans_alike_holds : PySem.Challenge.rw_tailheard_k08_whole_plans_alike.Holds := by
  w_on; o_law
  refine HandSHeadRun.head_any (r := OpenLaw.row PySem.Challenge.rw_tailheard_k08_whole_plans_alike) (q := view (OpenLaw.row PySem.Challenge.rw_tailheard_k08_whole_plans_alike).prog [48]) (H := Tk.hk) (ob := Tk.ob) (M := 4000) (loose := Tk.namesL) (d := HandSHeadRun.topDef (OpenLaw.row PySem.Challenge.rw_tailheard_k08_whole_plans_alike).prog 48) (kwd := []) Tk.ob_eq
    (by kernel_rfl) (fun s => by kernel_rfl) Tk.run (by kernel_rfl) (by kernel_rfl) (by kernel_rfl) (by rfl) (by first | assumption | decide +kernel) (by decide +kernel) ⟨rfl, rfl, rfl, rfl, rfl, by decide +kernel⟩ ?hw ?hc
  case hw => w_witness2
  case hc =>
    refine LamX.walk_ofTsE (l := PySem.Challenge.rw_tailheard_k08_whole_plans_alike) (n := 63) (k := 7) (x := "_law_script") (CX := fun _ => L2.CX0) rfl (by decide) (by kernel_rfl) ⟨rfl, by decide, by decide⟩ ?F (fun _ _ _ _ _ z => z)
    intro w mg fa h Y G hmg0
    obtain ⟨K, KX, c⟩ := Y
    have hmg : mg ("law" : PySem.Str) = some (.ref fa) := by
      have e : (HandSHeadRun.topDef (OpenLaw.row PySem.Challenge.rw_tailheard_k08_whole_plans_alike).prog 48).name = ("law" : PySem.Str) := by kernel_rfl
      rw [← e]
      exact hmg0
    obtain ⟨T, ea, ec, ep⟩ := Tk.fx_of KX G c
    have e2 := hmg.symm.trans T.g_law
    cases e2
    have mem : (("listed_pairs", none) : He.Defn) ∈ Tk.tfL := List.mem_singleton.mpr rfl
    have b := L2.FunD.bindsA (ps := ["_law_script"]) T.F_law fun _ _ _ _ _ _ us hl => match us, hl with | [_], _ => rfl
    refine ⟨K, KX, T.d_law, [(T.c_lp, T.P_lp)], Tk.spLaw K T.P_lp, fun p hp => ?_, fun p hp => ?_, fun p hp => ?_, fun s v => b s [v] rfl, fun H a ns hl _ hH hS => ⟨a, ns, rfl, hS, Nat.le_trans hl (by decide), fun p hp => ?_, fun _ => rfl⟩, fun base _ _ hTB => Tk.ok_law T (hTB (T.c_lp, T.P_lp) (List.mem_singleton.mpr rfl))⟩
    · rw [List.mem_singleton.mp hp]
      show h.get? T.P_lp = _
      rw [ep]; exact c.empty _ mem
    · rw [List.mem_singleton.mp hp]
      show K.lookup T.P_lp = _
      rw [ep]; exact c.out _ mem
    · rw [List.mem_singleton.mp hp]
      show CodeHd h T.c_lp T.P_lp
      rw [ec, ep]; exact codeHd_of_K KX (c.hd _ mem)
    · rw [List.mem_singleton.mp hp]
      exact NdefX.TabN.nil (hH (T.c_lp, T.P_lp) (List.mem_singleton.mpr rfl))
