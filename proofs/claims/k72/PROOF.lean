import PyProof.Rows.All
import Wide.All
import OpenK.AllK
import Wide.FinOn
import HandS.ForMost
import HandS.Defaults
import HandS.Head0
import HandS.Head1
import HandS.Head2
import HandS.HeadEnd
import HandS.HeadHook1
import HandS.HeadHook2
import HandS.Evl
import HandS.Zip
import HandS.Walk
import HandS.TupAny
import HandS.TupMul
import HandS.IsInst
import HandS.Conv
import HandS.Wide
import HandS.Style
import KE.SortData
import KE.DataMinMax
import KE.KTupSum
import HandS.Deep
import HandS.SetFor
import KE.GoesEnum
import PyProof.SumAny
import PyProof.TwoTypesSub
import HandS.Star
import PySem.Challenge.RW_coinsonwebs_k72_across_least_coins_and_r
set_option Elab.async false
set_option linter.all false
set_option maxRecDepth 100000
set_option maxHeartbeats 0
namespace K79
open PySem PySem.Spec PyProof.Rows L2
def top (i : Nat) : Stmt := PySem.Challenge.pw_coinsonwebs_k72_across_least_coins_and_r.main.body.getD i (.Pass ⟨0, 0, 0, 0⟩)
/-! ### the head: facts by names -/
def dd (x : Str) (i : Nat) : He.DefD := ⟨(x, none), x, x, defArgs (top i), defBody (top i), defScope (top i), [], []⟩
def fn0 : List He.DefD := [dd "is_number" 6, dd "are_numbers" 7, dd "determinant" 8, dd "solved" 9, dd "hangs_together" 13, dd "is_tie" 14, dd "is_web_of" 15, dd "need_web" 16, dd "ties_by" 17, dd "rings_by" 18, dd "table_by" 19, dd "is_heap_of" 21, dd "need_heap" 22, dd "plus_by" 23, dd "rounds_by" 25, dd "unburnt_by" 26, dd "given_by_row" 28, dd "row_of_places" 29, dd "without" 31, dd "whole_row" 32, dd "layers" 33, dd "paid_with" 34, dd "reduced_with" 35, dd "reduced_by" 36, dd "all_by" 37, dd "far_by" 39, dd "partner_by" 40, dd "can_by" 42, dd "taken" 43, dd "lots_of" 44]
def fn1 : List He.DefD := [dd "small_bar" 45, dd "rank_by" 46, dd "rank" 47, dd "need_few_rank" 50, dd "fewest_by" 51, dd "least_coins" 52, dd "heap_of_rank" 53, dd "is_heap_of_rank" 54, dd "freed_by" 56, dd "can_be_freed" 57, dd "_law_begun" 59, dd "_law_mixed" 60, dd "_law_take" 61, dd "_law_shuffled" 62, dd "_law_near_to" 63, dd "_law_web_of" 64, dd "_law_given" 65, dd "_law_rounds" 66, dd "_law_unburnt" 67, dd "_law_many_trees" 68, dd "_law_reduced" 69, dd "_law_can_be_freed" 70, dd "_law_taken" 71, dd "_law_rings" 72, dd "_law_few_heap" 73, dd "law" 74]
def fnA : List He.DefD := fn0 ++ (fn1)
def fa0 : List He.Fa := [.glo "is_number", .glo "are_numbers", .glo "determinant", .glo "solved", .glo "hangs_together", .glo "is_tie", .glo "is_web_of", .glo "need_web", .glo "ties_by", .glo "rings_by", .glo "table_by", .glo "is_heap_of", .glo "need_heap", .glo "plus_by", .glo "rounds_by", .glo "unburnt_by", .glo "given_by_row", .glo "row_of_places", .glo "without", .glo "whole_row", .glo "layers", .glo "paid_with", .glo "reduced_with", .glo "reduced_by", .glo "all_by", .glo "far_by", .glo "partner_by", .glo "can_by", .glo "taken", .glo "lots_of"]
def fa1 : List He.Fa := [.glo "small_bar", .glo "rank_by", .glo "rank", .glo "need_few_rank", .glo "fewest_by", .glo "least_coins", .glo "heap_of_rank", .glo "is_heap_of_rank", .glo "freed_by", .glo "can_be_freed", .glo "_law_begun", .glo "_law_mixed", .glo "_law_take", .glo "_law_shuffled", .glo "_law_near_to", .glo "_law_web_of", .glo "_law_given", .glo "_law_rounds", .glo "_law_unburnt", .glo "_law_many_trees", .glo "_law_reduced", .glo "_law_can_be_freed", .glo "_law_taken", .glo "_law_rings", .glo "_law_few_heap", .glo "law", .free "isinstance", .free "int", .free "bool", .free "tuple"]
def fa2 : List He.Fa := [.free "list", .free "len", .free "all", .free "any", .free "sum", .free "range", .free "zip", .free "enumerate", .free "sorted", .free "min", .free "max", .free "abs", .int "MOST_PLACES" 6, .int "MOST_TIES" 12, .int "MOST_RANK" 3]
def faA : List He.Fa := fa0 ++ (fa1 ++ (fa2))
def lo0 : List Str := ["CoinError", "BadHeap", "BadMany", "BadWeb", "MOST_PLACES", "MOST_TIES", "MOST_RANK", "is_number", "are_numbers", "determinant", "solved", "hangs_together", "is_tie", "is_web_of", "need_web", "ties_by", "rings_by", "table_by", "is_heap_of", "need_heap", "plus_by", "rounds_by", "unburnt_by", "given_by_row", "row_of_places", "without", "whole_row", "layers", "paid_with", "reduced_with"]
def lo1 : List Str := ["reduced_by", "all_by", "far_by", "partner_by", "can_by", "taken", "lots_of", "small_bar", "rank_by", "rank", "need_few_rank", "fewest_by", "least_coins", "heap_of_rank", "is_heap_of_rank", "freed_by", "can_be_freed", "_law_begun", "_law_mixed", "_law_take", "_law_shuffled", "_law_near_to", "_law_web_of", "_law_given", "_law_rounds", "_law_unburnt", "_law_many_trees", "_law_reduced", "_law_can_be_freed", "_law_taken"]
def lo2 : List Str := ["_law_rings", "_law_few_heap"]
def loA : List Str := lo0 ++ (lo1 ++ (lo2))
abbrev R : PySem.W.OpenRow := PySem.W.OpenLaw.row PySem.Challenge.rw_coinsonwebs_k72_across_least_coins_and_r
abbrev hk : PySem.W.Hook := He.hookD 4 faA fnA
def ob (s : PySem.W.SharedT) : He.AlD := He.obsDG 4 faA fnA (HandSHeadRun.getT s)
theorem ob_eq (s : PySem.W.SharedT) : ob s = hk.obs s.abs := He.obsDG_eq (HandSHeadRun.getT_eq s)
theorem run (w : World) : HandSHeadRun.RunEq R (PySem.W.view R.prog [74]) hk ob 4000 loA w := by
  intro os
  kernel_rfl
end K79
set_option maxHeartbeats 4000000
namespace Lf
open PySem L2 Evl

abbrev D := PyData
variable {K : PySem.W.Frag}

/-! ### data at values, kept as the heap grows -/
mutual
inductive Dq (H : Hp) : V → D → Prop
  | non : Dq H .non .none
  | bl (b : Bool) : Dq H (.bl b) (.bool b)
  | int (i : Int) : Dq H (.int i) (.int i)
  | str (x : Str) : Dq H (.str x) (.str x)
  | lst {a : Addr} {xs : List V} {ds : List D} : H a = some (.lst xs) → DqAll H xs ds → Dq H (.ref a) (.list ds)
  | tup {a : Addr} {xs : List V} {ds : List D} : H a = some (.tup xs) → DqAll H xs ds → Dq H (.ref a) (.tuple ds)
inductive DqAll (H : Hp) : List V → List D → Prop
  | nil : DqAll H [] []
  | cons {v : V} {vs : List V} {d : D} {ds : List D} : Dq H v d → DqAll H vs ds → DqAll H (v :: vs) (d :: ds)
end
mutual
theorem dp_ex {H H' : Hp} (e : Ex H H') : ∀ (d : D) (v : V), Dq H v d → Dq H' v d
  | .none, _, .non => .non
  | .bool _, _, .bl b => .bl b
  | .int _, _, .int i => .int i
  | .str _, _, .str x => .str x
  | .list ds, _, .lst h a => .lst (e _ _ h) (dpa_ex e ds _ a)
  | .tuple ds, _, .tup h a => .tup (e _ _ h) (dpa_ex e ds _ a)
theorem dpa_ex {H H' : Hp} (e : Ex H H') : ∀ (ds : List D) (vs : List V), DqAll H vs ds → DqAll H' vs ds
  | [], _, .nil => .nil
  | d :: ds, _, .cons h t => .cons (dp_ex e d _ h) (dpa_ex e ds _ t)
end
mutual
theorem dq_dp {H : Hp} : ∀ (d : D) (v : V), Dq H v d → Dp K H v d
  | .none, _, .non => .non
  | .bool _, _, .bl b => .bl b
  | .int _, _, .int i => .int i
  | .str _, _, .str x => .str x
  | .list ds, _, .lst h a => .lst (sq_of h) (dqa_dpa ds _ a)
  | .tuple ds, _, .tup h a => .tup (st_of h) (dqa_dpa ds _ a)
theorem dqa_dpa {H : Hp} : ∀ (ds : List D) (vs : List V), DqAll H vs ds → DpAll K H vs ds
  | [], _, .nil => .nil
  | d :: ds, _, .cons h t => .cons (dq_dp d _ h) (dqa_dpa ds _ t)
end
theorem dpa_len {H : Hp} : ∀ {vs : List V} {ds : List D}, DqAll H vs ds → vs.length = ds.length
  | _, _, .nil => rfl
  | _, _, .cons _ t => congrArg (· + 1) (dpa_len t)
theorem dpa_get {H : Hp} : ∀ {vs : List V} {ds : List D}, DqAll H vs ds → ∀ {i : Nat} {d : D}, ds[i]? = some d → ∃ v, vs[i]? = some v ∧ Dq H v d
  | _, _, .nil, i, d, h => by simp at h
  | _, _, .cons a t, 0, d, h => by simp at h; subst h; exact ⟨_, rfl, a⟩
  | _, _, .cons a t, i + 1, d, h => by simpa using dpa_get t (by simpa using h)
theorem dpa_app {H : Hp} : ∀ {vs ws : List V} {ds es : List D}, DqAll H vs ds → DqAll H ws es → DqAll H (vs ++ ws) (ds ++ es)
  | _, _, _, _, .nil, h => h
  | _, _, _, _, .cons a t, h => .cons a (dpa_app t h)
theorem dpa_take {H : Hp} : ∀ {vs : List V} {ds : List D} (n : Nat), DqAll H vs ds → DqAll H (vs.take n) (ds.take n)
  | _, _, 0, _ => by simp; exact .nil
  | _, _, _ + 1, .nil => .nil
  | _, _, n + 1, .cons a t => .cons a (dpa_take n t)
theorem dpa_drop {H : Hp} : ∀ {vs : List V} {ds : List D} (n : Nat), DqAll H vs ds → DqAll H (vs.drop n) (ds.drop n)
  | _, _, 0, h => h
  | _, _, _ + 1, .nil => .nil
  | _, _, n + 1, .cons a t => dpa_drop n t
theorem dpa_set {H : Hp} {v : V} {d : D} (h : Dq H v d) : ∀ {vs : List V} {ds : List D} (i : Nat), DqAll H vs ds → DqAll H (vs.set i v) (ds.set i d)
  | _, _, _, .nil => .nil
  | _, _, 0, .cons _ t => .cons h t
  | _, _, i + 1, .cons a t => .cons a (dpa_set h i t)
theorem dpa_erase {H : Hp} : ∀ {vs : List V} {ds : List D} (i : Nat), DqAll H vs ds → DqAll H (vs.eraseIdx i) (ds.eraseIdx i)
  | _, _, _, .nil => .nil
  | _, _, 0, .cons _ t => t
  | _, _, i + 1, .cons a t => .cons a (dpa_erase i t)
theorem dpa_ints {H : Hp} : ∀ (ns : List Int), DqAll H (ns.map V.int) (ns.map PyData.int)
  | [] => .nil
  | _ :: ns => .cons (.int _) (dpa_ints ns)
theorem dpa_ints_inv {H : Hp} : ∀ {vs : List V} {ns : List Int}, DqAll H vs (ns.map PyData.int) → vs = ns.map V.int
  | _, [], .nil => rfl
  | _, _ :: _, .cons (.int _) t => by rw [dpa_ints_inv t]; rfl
theorem dpa_bls_inv {H : Hp} : ∀ {vs : List V} {bs : List Bool}, DqAll H vs (bs.map PyData.bool) → vs = bs.map V.bl
  | _, [], .nil => rfl
  | _, _ :: _, .cons (.bl _) t => by rw [dpa_bls_inv t]; rfl

/-! ### slots -/
inductive Sl where
  | no
  | sh (d : D)
  | ol (ds : List D)
  | oll (dss : List (List D))
  | od (kvs : List (Key × D))
  | bo (i : Nat)
  | boi (i k : Nat)
  | ob (R : V → List (Addr × HO) → Prop)
  | lk (ks : List Key)

abbrev Id := Nat ⊕ Nat
abbrev Own := Addr → Option Id

/-- what stands behind the value w: s; its own objects belong to id -/
def Ok (K : PySem.W.Frag) (G H : Hp) (σ : L2.St) (O : Own) (id : Id) (w : V) : Sl → Prop
  | .no => True
  | .sh d => Dq G w d
  | .ol ds => ∃ (p : Addr) (vs : List V), w = .ref p ∧ O p = some id ∧ H p = some (.lst vs) ∧ DqAll G vs ds
  | .oll dss => ∃ (p : Addr) (ps : List Addr), w = .ref p ∧ O p = some id ∧ H p = some (.lst (ps.map V.ref)) ∧ (p :: ps).Nodup ∧ Paired (fun q ds => O q = some id ∧ ∃ vs, H q = some (.lst vs) ∧ DqAll G vs ds) ps dss
  | .od kvs => ∃ (p : Addr) (vs : List (Key × V)), w = .ref p ∧ O p = some id ∧ H p = some (.dK vs) ∧ Paired (fun (a : Key × V) (b : Key × D) => a.1 = b.1 ∧ Dq G a.2 b.2) vs kvs
  | .bo i => (∀ j, id ≠ .inl j) ∧ σ[i]? = some (some w)
  | .boi i k => (∀ j, id ≠ .inl j) ∧ ∃ (p : Addr) (ps : List Addr) (q : Addr), σ[i]? = some (some (.ref p)) ∧ O p = some (.inl i) ∧ H p = some (.lst (ps.map V.ref)) ∧ ps[k]? = some q ∧ w = .ref q
  | .ob R => ∃ cs : List (Addr × HO), (∀ c, c ∈ cs → O c.1 = some id ∧ H c.1 = some c.2) ∧ R w cs
  | .lk ks => ∃ (p : Addr) (od : Obj) (vs : List (Key × V)), w = .ref p ∧ G p = some (.frz od (.dK vs)) ∧ vs.map (·.1) = ks
def OkS (K : PySem.W.Frag) (G H : Hp) (σ : L2.St) (O : Own) (i : Nat) (s : Sl) : Prop := s = .no ∨ ∃ w, σ[i]? = some (some w) ∧ Ok K G H σ O (.inl i) w s
def OkTs (K : PySem.W.Frag) (G H : Hp) (σ : L2.St) (O : Own) : List V → List Sl → Prop
  | [], [] => True
  | w :: ws, s :: τ => Ok K G H σ O (.inr τ.length) w s ∧ OkTs K G H σ O ws τ
  | _, _ => False
structure WkO (K : PySem.W.Frag) (F G0 : Hp) (Γ τ : List Sl) (G H : Hp) (σ : L2.St) (ws : List V) (O : Own) : Prop where
  len : Γ.length = σ.length
  sl : ∀ i s, Γ[i]? = some s → OkS K G H σ O i s
  ts : OkTs K G H σ O ws τ
  own : ∀ a, O a ≠ none → G a = none ∧ F a = none
  g0 : Ex G0 G
  gh : Ex G H
  fh : Ex F H
  gf : ∀ a, G a ≠ none → G0 a ≠ none ∨ F a = none
def Wk (K : PySem.W.Frag) (F G0 : Hp) (Γ τ : List Sl) (G H : Hp) (σ : L2.St) (ws : List V) : Prop := ∃ O, WkO K F G0 Γ τ G H σ ws O

theorem paired_mono {α β : Type} {R R' : α → β → Prop} (h : ∀ a b, R a b → R' a b) : ∀ {l : List α} {m : List β}, Paired R l m → Paired R' l m
  | _, _, .nil => .nil
  | _, _, .cons a t => .cons (h _ _ a) (paired_mono h t)

/-- the heap, the ground and the owners grow -/
theorem Ok.mono {G G' H H' : Hp} {σ : L2.St} {O O' : Own} {id : Id} {w : V} (eg : Ex G G') (k : ∀ a, O a ≠ none → H a ≠ none → O' a = O a ∧ H' a = H a) : ∀ {s : Sl}, Ok K G H σ O id w s → Ok K G' H' σ O' id w s
  | .no, _ => trivial
  | .sh d, h => dp_ex eg d w h
  | .ol ds, ⟨p, vs, e, o, hp, a⟩ => by
    obtain ⟨k1, k2⟩ := k p (by rw [o]; simp) (by rw [hp]; simp)
    exact ⟨p, vs, e, k1.trans o, k2.trans hp, dpa_ex eg _ _ a⟩
  | .oll dss, ⟨p, ps, e, o, hp, nd, a⟩ => by
    obtain ⟨k1, k2⟩ := k p (by rw [o]; simp) (by rw [hp]; simp)
    refine ⟨p, ps, e, k1.trans o, k2.trans hp, nd, paired_mono (fun q ds h => ?_) a⟩
    obtain ⟨oq, vs, hq, aq⟩ := h
    obtain ⟨k1, k2⟩ := k q (by rw [oq]; simp) (by rw [hq]; simp)
    exact ⟨k1.trans oq, vs, k2.trans hq, dpa_ex eg _ _ aq⟩
  | .od kvs, ⟨p, vs, e, o, hp, a⟩ => by
    obtain ⟨k1, k2⟩ := k p (by rw [o]; simp) (by rw [hp]; simp)
    exact ⟨p, vs, e, k1.trans o, k2.trans hp, paired_mono (fun x y h => ⟨h.1, dp_ex eg _ _ h.2⟩) a⟩
  | .bo i, h => h
  | .boi i j, ⟨n, p, ps, q, e, o, hp, hq, ew⟩ => by
    obtain ⟨k1, k2⟩ := k p (by rw [o]; simp) (by rw [hp]; simp)
    exact ⟨n, p, ps, q, e, k1.trans o, k2.trans hp, hq, ew⟩
  | .lk ks, ⟨p, od, vs, e, h, m⟩ => ⟨p, od, vs, e, eg _ _ h, m⟩
  | .ob R, ⟨cs, h, r⟩ => ⟨cs, fun c hc => by
    obtain ⟨o, e⟩ := h c hc
    obtain ⟨k1, k2⟩ := k c.1 (by rw [o]; simp) (by rw [e]; simp)
    exact ⟨k1.trans o, k2.trans e⟩, r⟩
theorem OkTs.mono {G G' H H' : Hp} {σ : L2.St} {O O' : Own} (eg : Ex G G') (k : ∀ a, O a ≠ none → H a ≠ none → O' a = O a ∧ H' a = H a) : ∀ {ws : List V} {τ : List Sl}, OkTs K G H σ O ws τ → OkTs K G' H' σ O' ws τ
  | [], [], _ => trivial
  | _ :: _, _ :: _, ⟨a, b⟩ => ⟨a.mono eg k, OkTs.mono eg k b⟩
  | [], _ :: _, h => h
  | _ :: _, [], h => h
theorem OkS.mono {G G' H H' : Hp} {σ : L2.St} {O O' : Own} {i : Nat} {s : Sl} (eg : Ex G G') (k : ∀ a, O a ≠ none → H a ≠ none → O' a = O a ∧ H' a = H a) (h : OkS K G H σ O i s) : OkS K G' H' σ O' i s := by
  rcases h with h | ⟨w, e, h⟩
  · exact .inl h
  · exact .inr ⟨w, e, h.mono eg k⟩
theorem OkTs.len {G H : Hp} {σ : L2.St} {O : Own} : ∀ {ws : List V} {τ : List Sl}, OkTs K G H σ O ws τ → ws.length = τ.length
  | [], [], _ => rfl
  | _ :: _, _ :: _, ⟨_, b⟩ => congrArg (· + 1) (OkTs.len b)
  | [], _ :: _, h => h.elim
  | _ :: _, [], h => h.elim

section
variable {F G0 : Hp} {Γ τ : List Sl} {G H : Hp} {σ : L2.St} {ws : List V} {s : Sl} {w : V}
theorem Wk.drop (h : Wk K F G0 Γ (s :: τ) G H σ (w :: ws)) : Wk K F G0 Γ τ G H σ ws := let ⟨O, a⟩ := h; ⟨O, a.len, a.sl, a.ts.2, a.own, a.g0, a.gh, a.fh, a.gf⟩
theorem Wk.sh (h : Wk K F G0 Γ τ G H σ ws) {d : D} (hd : Dq G w d) : Wk K F G0 Γ (.sh d :: τ) G H σ (w :: ws) := let ⟨O, a⟩ := h; ⟨O, a.len, a.sl, ⟨hd, a.ts⟩, a.own, a.g0, a.gh, a.fh, a.gf⟩
theorem Wk.top (h : Wk K F G0 Γ (s :: τ) G H σ (w :: ws)) : ∃ O, Ok K G H σ O (.inr τ.length) w s := let ⟨O, a⟩ := h; ⟨O, a.ts.1⟩
theorem Wk.top_sh {d : D} (h : Wk K F G0 Γ (.sh d :: τ) G H σ (w :: ws)) : Dq G w d := let ⟨_, a⟩ := h; a.ts.1
theorem Wk.gh (h : Wk K F G0 Γ τ G H σ ws) : Ex G H := let ⟨_, a⟩ := h; a.gh
theorem Wk.slot (h : Wk K F G0 Γ τ G H σ ws) {i : Nat} (e : Γ[i]? = some s) (n : s ≠ .no) : ∃ w, σ[i]? = some (some w) := by
  obtain ⟨O, a⟩ := h
  rcases a.sl i s e with z | ⟨w, e, _⟩
  · exact absurd z n
  · exact ⟨w, e⟩
theorem Wk.slot_sh (h : Wk K F G0 Γ τ G H σ ws) {i : Nat} {d : D} (e : Γ[i]? = some (.sh d)) : ∃ w, σ[i]? = some (some w) ∧ Dq G w d := by
  obtain ⟨O, a⟩ := h
  rcases a.sl i _ e with z | ⟨w, e, h⟩
  · cases z
  · exact ⟨w, e, h⟩
theorem Wk.bo (h : Wk K F G0 Γ τ G H σ ws) {i : Nat} (e : σ[i]? = some (some w)) : Wk K F G0 Γ (.bo i :: τ) G H σ (w :: ws) := let ⟨O, a⟩ := h; ⟨O, a.len, a.sl, ⟨⟨fun _ z => (nomatch z), e⟩, a.ts⟩, a.own, a.g0, a.gh, a.fh, a.gf⟩

theorem ex_new2 {G H : Hp} {p : Addr} {o : HO} (gh : Ex G H) (hp : H p = none) : Ex (upd G p o) (upd H p o) := fun a u e => by
  by_cases h : a = p
  · subst h; rw [upd_same] at e ⊢; exact e
  · rw [upd_ne h] at e ⊢; exact gh a u e
/-- a new object on the ground -/
theorem Wk.ground (h : Wk K F G0 Γ τ G H σ ws) {p : Addr} (hp : H p = none) (o : HO) : Wk K F G0 Γ τ (upd G p o) (upd H p o) σ ws := by
  obtain ⟨O, a⟩ := h
  have gp : G p = none := fresh_back a.gh hp
  have fp : F p = none := fresh_back a.fh hp
  have kk : ∀ b, O b ≠ none → H b ≠ none → (if b = p then none else O b) = O b ∧ upd H p o b = H b := fun b _ hb => by
    have : b ≠ p := fun e => hb (by rw [e]; exact hp)
    exact ⟨if_neg this, upd_ne this⟩
  refine ⟨fun b => if b = p then none else O b, a.len, fun i s e => (a.sl i s e).mono (Ex.new gp) kk, a.ts.mono (Ex.new gp) kk, fun b hb => ?_, a.g0.trans (Ex.new gp), ex_new2 a.gh hp, a.fh.trans (Ex.new hp), fun b hb => ?_⟩
  · by_cases e : b = p
    · exact absurd (if_pos e) hb
    · have hb' : O b ≠ none := by simpa [e] using hb
      rw [upd_ne e]
      exact a.own b hb'
  · by_cases e : b = p
    · rw [e]; exact .inr fp
    · rw [upd_ne e] at hb; exact a.gf b hb
theorem Wk.newT (h : Wk K F G0 Γ τ G H σ ws) {p : Addr} (hp : H p = none) {vs : List V} {ds : List D} (a : DqAll G vs ds) : Wk K F G0 Γ (.sh (.tuple ds) :: τ) (upd G p (.tup vs)) (upd H p (.tup vs)) σ (.ref p :: ws) :=
  (h.ground hp _).sh (.tup upd_same (dpa_ex (Ex.new (fresh_back h.gh hp)) _ _ a))
/-- a new object of a temporary's own -/
theorem Wk.newO (h : Wk K F G0 Γ τ G H σ ws) {p : Addr} (hp : H p = none) {o : HO} (hs : ∀ O : Own, O p = some (.inr τ.length) → Ok K G (upd H p o) σ O (.inr τ.length) (.ref p) s) : Wk K F G0 Γ (s :: τ) G (upd H p o) σ (.ref p :: ws) := by
  obtain ⟨O, a⟩ := h
  have gp : G p = none := fresh_back a.gh hp
  have fp : F p = none := fresh_back a.fh hp
  have kk : ∀ b, O b ≠ none → H b ≠ none → (if b = p then some (Sum.inr τ.length) else O b) = O b ∧ upd H p o b = H b := fun b _ hb => by
    have : b ≠ p := fun e => hb (by rw [e]; exact hp)
    exact ⟨if_neg this, upd_ne this⟩
  refine ⟨fun b => if b = p then some (.inr τ.length) else O b, a.len, fun i s e => (a.sl i s e).mono (Ex.refl _) kk, ⟨hs _ (if_pos rfl), a.ts.mono (Ex.refl _) kk⟩, fun b hb => ?_, a.g0, a.gh.trans (Ex.new hp), a.fh.trans (Ex.new hp), a.gf⟩
  by_cases e : b = p
  · rw [e]; exact ⟨gp, fp⟩
  · have hb' : O b ≠ none := by simpa [e] using hb
    exact a.own b hb'
theorem Wk.newL (h : Wk K F G0 Γ τ G H σ ws) {p : Addr} (hp : H p = none) {vs : List V} {ds : List D} (a : DqAll G vs ds) : Wk K F G0 Γ (.ol ds :: τ) G (upd H p (.lst vs)) σ (.ref p :: ws) :=
  h.newO hp fun _ o => ⟨p, vs, rfl, o, upd_same, a⟩
theorem Wk.newD (h : Wk K F G0 Γ τ G H σ ws) {p : Addr} (hp : H p = none) {vs : List (Key × V)} {kvs : List (Key × D)} (a : Paired (fun (a : Key × V) (b : Key × D) => a.1 = b.1 ∧ Dq G a.2 b.2) vs kvs) : Wk K F G0 Γ (.od kvs :: τ) G (upd H p (.dK vs)) σ (.ref p :: ws) :=
  h.newO hp fun _ o => ⟨p, vs, rfl, o, upd_same, a⟩
end
end Lf
set_option maxHeartbeats 4000000
namespace Lf
open PySem L2 Evl

/-- what a context is known by -/
structure Stat where
  P : Program
  w : World
  K : PySem.W.Frag
  mg : Str → Option Value
  base : Heap
  N : List Str
  names : List (Str × NameKind)
  fn : Str → Bool
  k : Nat
structure Stat.Is (S : Stat) (X : Cx) : Prop where
  prog : X.prog = S.P
  w : X.w = S.w
  K : X.K = S.K
  mg : X.mg = S.mg
  base : X.base = S.base
  N : X.N = S.N
  names : X.env.scope.names = S.names
  kind : X.env.scope.kind = .function
  fn : X.fn = S.fn
  calm : X.calm = true
  room : Room S.k X.A
  xe : X.xe = fun _ _ => False
  nd : S.N.Nodup
theorem Stat.Is.hu {S : Stat} {X : Cx} (h : S.Is X) : X.A.units + 64 < cLine := h.room.units
theorem Stat.Is.hu1 {S : Stat} {X : Cx} (h : S.Is X) : X.A.units + 1 < cLine := by have := h.hu; omega
theorem Stat.Is.nd' {S : Stat} {X : Cx} (h : S.Is X) : X.N.Nodup := h.N ▸ h.nd
theorem Stat.Is.gl {S : Stat} {X : Cx} (h : S.Is X) {x : Str} (e : S.names.lookup x = some .globalImplicit) : Gl X x := by
  show X.env.scope.names.lookup x = _
  rw [h.names]; exact e
theorem Stat.Is.passes {S : Stat} {X : Cx} (h : S.Is X) : PassesOwn (model X.prog X.w) X.A X.env X.xe := by
  rw [h.xe]; exact PassesOwn.never

/-! ### judgements by data -/
def EE (K : PySem.W.Frag) (te : TE) (Γ τ Γ' : List Sl) (s : Sl) : Prop :=
  ∀ F G0 G H σ ws, Wk K F G0 Γ τ G H σ ws → ∀ Q : VK, (∀ w G' H', Wk K F G0 Γ' (s :: τ) G' H' σ (w :: ws) → Q w H') → te σ H Q
def ET (K : PySem.W.Frag) (tt : TT) (Γ τ Γ' : List Sl) (b : Bool) : Prop :=
  ∀ F G0 G H σ ws, Wk K F G0 Γ τ G H σ ws → ∀ Q : Bool → Hp → Prop, (∀ G' H', Wk K F G0 Γ' τ G' H' σ ws → Q b H') → tt σ H Q
/-- arguments: the temporaries are laid one over the other -/
def EA (K : PySem.W.Frag) (ta : TA) (Γ τ Γ' : List Sl) (ss : List Sl) : Prop :=
  ∀ F G0 G H σ ws, Wk K F G0 Γ τ G H σ ws → ∀ Q : List V → Hp → Prop, (∀ vs G' H', vs.length = ss.length → Wk K F G0 Γ' (ss.reverse ++ τ) G' H' σ (vs.reverse ++ ws) → Q vs H') → ta σ H Q
def GE (S : Stat) (e : Expr) (Γ τ Γ' : List Sl) (s : Sl) : Prop := ∃ te, (∀ X, S.Is X → PE X e te) ∧ EE S.K te Γ τ Γ' s
def GT (S : Stat) (e : Expr) (Γ τ Γ' : List Sl) (b : Bool) : Prop := ∃ tt, (∀ X, S.Is X → PT X e tt) ∧ ET S.K tt Γ τ Γ' b
def GW (S : Stat) (e : Expr) (Γ τ Γ' : List Sl) (b : Bool) : Prop := ∃ tt, (∀ X, S.Is X → PW X e tt) ∧ ET S.K tt Γ τ Γ' b
def GA (S : Stat) (es : List Expr) (Γ τ Γ' : List Sl) (ss : List Sl) : Prop := ∃ ta, (∀ X, S.Is X → PA X es ta) ∧ EA S.K ta Γ τ Γ' ss

section
variable {S : Stat} {Γ Γ1 Γ2 Γ3 τ : List Sl} {s s1 s2 s3 : Sl} {a b c e : Expr} {pos : Pos} {d : D}

/-! ### names, constants -/
theorem ge_sh (i : Nat) {x : Str} (hN : S.N[i]? = some x) (hv : S.names.lookup x = some .local ∨ S.names.lookup x = some .cell ∨ S.names.lookup x = some .free) (hd : (x == ("__debug__" : Str)) = false) (hcd : (x == ("__classdict__" : Str)) = false)
    (h : Γ[i]? = some (.sh d)) : GE S (.Name x pos) Γ τ Γ (.sh d) := by
  refine ⟨tVar i, fun X I => pe_var (by rw [I.N]; exact hN) (by rw [← I.names] at hv; exact hv) hd hcd, fun F G0 G H σ ws wk Q q => ?_⟩
  obtain ⟨w, e, hd⟩ := wk.slot_sh h
  exact ⟨w, e, q w G H (wk.sh hd)⟩
theorem ge_bo (i : Nat) {x : Str} (hN : S.N[i]? = some x) (hv : S.names.lookup x = some .local ∨ S.names.lookup x = some .cell ∨ S.names.lookup x = some .free) (hd : (x == ("__debug__" : Str)) = false) (hcd : (x == ("__classdict__" : Str)) = false)
    (h : Γ[i]? = some s) (hn : s ≠ .no) : GE S (.Name x pos) Γ τ Γ (.bo i) := by
  refine ⟨tVar i, fun X I => pe_var (by rw [I.N]; exact hN) (by rw [← I.names] at hv; exact hv) hd hcd, fun F G0 G H σ ws wk Q q => ?_⟩
  obtain ⟨w, e⟩ := wk.slot h hn
  exact ⟨w, e, q w G H (wk.bo e)⟩
theorem ee_c {v : V} (h : ∀ G, Dq G v d) : EE S.K (tC v) Γ τ Γ (.sh d) := fun F G0 G H σ ws wk Q q => q v G H (wk.sh (h G))
theorem ge_int {i : Int} {j} : GE S (.Constant (.int i) j pos) Γ τ Γ (.sh (.int i)) := ⟨_, fun _ _ => pe_int, ee_c fun _ => .int i⟩
theorem ge_bl {i : Bool} {j} : GE S (.Constant (.bool i) j pos) Γ τ Γ (.sh (.bool i)) := ⟨_, fun _ _ => pe_bl, ee_c fun _ => .bl i⟩
theorem ge_non {j} : GE S (.Constant .none j pos) Γ τ Γ (.sh .none) := ⟨_, fun _ _ => pe_non, ee_c fun _ => .non⟩
theorem ge_str {i : Str} {j} : GE S (.Constant (.str i) j pos) Γ τ Γ (.sh (.str i)) := ⟨_, fun _ _ => pe_str, ee_c fun _ => .str i⟩
/-- a module's int constant -/
theorem ge_globI {x : Str} {i : Int} (hg : S.names.lookup x = some .globalImplicit) (hm : ∃ t, S.mg x = some (.int i t)) (hd : (x == ("__debug__" : Str)) = false) : GE S (.Name x pos) Γ τ Γ (.sh (.int i)) := by
  obtain ⟨t, hm⟩ := hm
  exact ⟨tC (.int i), fun X I => pe_glob (I.gl hg) (by rw [I.mg]; exact hm) ⟨t, rfl⟩ hd, ee_c fun _ => .int i⟩

/-! ### freezing -/
theorem Wk.frz {K : PySem.W.Frag} {F G0 G H : Hp} {σ : L2.St} {ws : List V} {w : V} {ds : List D} (h : Wk K F G0 Γ (.ol ds :: τ) G H σ (w :: ws)) : ∃ G', Wk K F G0 Γ (.sh (.list ds) :: τ) G' H σ (w :: ws) := by
  obtain ⟨O, a⟩ := h
  obtain ⟨⟨p, vs, rfl, o, hp, ha⟩, ts⟩ := a.ts
  have gp : G p = none := (a.own p (by rw [o]; simp)).1
  have fp : F p = none := (a.own p (by rw [o]; simp)).2
  have eg : Ex G (upd G p (.lst vs)) := Ex.new gp
  have hlen := ts.len
  -- the others don't own p
  have okS : ∀ {i s}, OkS K G H σ O i s → OkS K (upd G p (.lst vs)) H σ (fun b => if b = p then none else O b) i s := fun {i s} h => by
    rcases h with h | ⟨w, e, h⟩
    · exact .inl h
    · refine .inr ⟨w, e, ?_⟩
      cases s with
      | no => trivial
      | sh d => exact dp_ex eg d w h
      | ol ds' =>
        obtain ⟨q, vs', e1, o', hq, ha'⟩ := h
        have ne : q ≠ p := fun z => by rw [z, o] at o'; cases o'
        exact ⟨q, vs', e1, (if_neg ne).trans o', hq, dpa_ex eg _ _ ha'⟩
      | oll dss =>
        obtain ⟨q, ps, e1, o', hq, nd, ha'⟩ := h
        have ne : q ≠ p := fun z => by rw [z, o] at o'; cases o'
        refine ⟨q, ps, e1, (if_neg ne).trans o', hq, nd, paired_mono (fun q' ds' h' => ?_) ha'⟩
        obtain ⟨o2, vs', hq', ha2⟩ := h'
        have ne2 : q' ≠ p := fun z => by rw [z, o] at o2; cases o2
        exact ⟨(if_neg ne2).trans o2, vs', hq', dpa_ex eg _ _ ha2⟩
      | od kvs =>
        obtain ⟨q, vs', e1, o', hq, ha'⟩ := h
        have ne : q ≠ p := fun z => by rw [z, o] at o'; cases o'
        exact ⟨q, vs', e1, (if_neg ne).trans o', hq, paired_mono (fun x y h => ⟨h.1, dp_ex eg _ _ h.2⟩) ha'⟩
      | bo j => exact h
      | boi j k =>
        obtain ⟨n0, q, ps, q2, e1, o', hq, h2, h3⟩ := h
        have ne : q ≠ p := fun z => by rw [z, o] at o'; cases o'
        exact ⟨n0, q, ps, q2, e1, (if_neg ne).trans o', hq, h2, h3⟩
      | lk ks => obtain ⟨p, od, vs, e, h, m⟩ := h; exact ⟨p, od, vs, e, eg _ _ h, m⟩
      | ob R => obtain ⟨cs, hc, r⟩ := h; exact ⟨cs, fun c m => ⟨(if_neg (fun z => by have := (hc c m).1; rw [z, o] at this; cases this)).trans (hc c m).1, (hc c m).2⟩, r⟩
  have okT : ∀ {w s} {j : Nat}, j < τ.length → Ok K G H σ O (.inr j) w s → Ok K (upd G p (.lst vs)) H σ (fun b => if b = p then none else O b) (.inr j) w s := fun {w s j} hj h => by
    have nj : ∀ q, O q = some (.inr j) → q ≠ p := fun q o' z => by
      rw [z, o] at o'
      have := Sum.inr.inj (Option.some.inj o')
      omega
    cases s with
    | no => trivial
    | sh d => exact dp_ex eg d w h
    | ol ds' =>
      obtain ⟨q, vs', e1, o', hq, ha'⟩ := h
      exact ⟨q, vs', e1, (if_neg (nj q o')).trans o', hq, dpa_ex eg _ _ ha'⟩
    | oll dss =>
      obtain ⟨q, ps, e1, o', hq, nd, ha'⟩ := h
      refine ⟨q, ps, e1, (if_neg (nj q o')).trans o', hq, nd, paired_mono (fun q' ds' h' => ?_) ha'⟩
      obtain ⟨o2, vs', hq', ha2⟩ := h'
      exact ⟨(if_neg (nj q' o2)).trans o2, vs', hq', dpa_ex eg _ _ ha2⟩
    | od kvs =>
      obtain ⟨q, vs', e1, o', hq, ha'⟩ := h
      exact ⟨q, vs', e1, (if_neg (nj q o')).trans o', hq, paired_mono (fun x y h => ⟨h.1, dp_ex eg _ _ h.2⟩) ha'⟩
    | bo j => exact h
    | boi j' k =>
      obtain ⟨n0, q, ps, q2, e1, o', hq, h2, h3⟩ := h
      have ne : q ≠ p := fun z => by rw [z, o] at o'; cases o'
      exact ⟨n0, q, ps, q2, e1, (if_neg ne).trans o', hq, h2, h3⟩
    | lk ks => obtain ⟨p, od, vs, e, h, m⟩ := h; exact ⟨p, od, vs, e, eg _ _ h, m⟩
    | ob R => obtain ⟨cs, hc, r⟩ := h; exact ⟨cs, fun c m => ⟨(if_neg (nj c.1 (hc c m).1)).trans (hc c m).1, (hc c m).2⟩, r⟩
  have okTs : ∀ {ws : List V} {τ' : List Sl}, τ'.length ≤ τ.length → OkTs K G H σ O ws τ' → OkTs K (upd G p (.lst vs)) H σ (fun b => if b = p then none else O b) ws τ' := by
    intro ws τ'
    induction τ' generalizing ws with
    | nil => intro _ h; cases ws with
      | nil => trivial
      | cons _ _ => exact h
    | cons s τ' ih => intro hl h; cases ws with
      | nil => exact h
      | cons w ws =>
        simp only [List.length_cons] at hl
        exact ⟨okT (by omega) h.1, ih (by omega) h.2⟩
  refine ⟨upd G p (.lst vs), fun b => if b = p then none else O b, a.len, fun i s e => okS (a.sl i s e), ⟨.lst upd_same (dpa_ex eg _ _ ha), okTs (Nat.le_refl _) ts⟩, fun b hb => ?_, a.g0.trans eg, fun b u hb => ?_, a.fh, fun b hb => ?_⟩
  · by_cases z : b = p
    · exact absurd (if_pos z) hb
    · have hb' : O b ≠ none := by simpa [z] using hb
      rw [upd_ne z]; exact a.own b hb'
  · by_cases z : b = p
    · subst z; rw [upd_same] at hb; cases hb; exact hp
    · rw [upd_ne z] at hb; exact a.gh b u hb
  · by_cases z : b = p
    · rw [z]; exact .inr fp
    · rw [upd_ne z] at hb; exact a.gf b hb
theorem ge_frz {ds : List D} (h : GE S e Γ τ Γ1 (.ol ds)) : GE S e Γ τ Γ1 (.sh (.list ds)) := by
  obtain ⟨te, hp, he⟩ := h
  refine ⟨te, hp, fun F G0 G H σ ws wk Q q => he F G0 G H σ ws wk Q fun w G' H' wk' => ?_⟩
  obtain ⟨G2, wk2⟩ := wk'.frz
  exact q w G2 H' wk2

/-! ### operations by values -/
def RR (K : PySem.W.Frag) (r : R2) (Γ τ : List Sl) (s1 s2 : Sl) (Γ' : List Sl) (s : Sl) : Prop :=
  ∀ F G0 G H σ ws w1 w2, Wk K F G0 Γ (s2 :: s1 :: τ) G H σ (w2 :: w1 :: ws) → ∀ Q : VK, (∀ w G' H', Wk K F G0 Γ' (s :: τ) G' H' σ (w :: ws) → Q w H') → r w1 w2 H Q
def OpG (S : Stat) (f : Value → Value → Sem Value) (Γ τ : List Sl) (s1 s2 : Sl) (Γ' : List Sl) (s : Sl) : Prop := ∃ r, (∀ X, S.Is X → OpR X f r) ∧ RR S.K r Γ τ s1 s2 Γ' s
theorem ge_bin {op : Operator} (ha : GE S a Γ τ Γ1 s1) (hb : GE S b Γ1 (s1 :: τ) Γ2 s2) (ho : OpG S (binaryOp op) Γ2 τ s1 s2 Γ3 s) : GE S (.BinOp a op b pos) Γ τ Γ3 s := by
  obtain ⟨ta, pa, ea⟩ := ha
  obtain ⟨tb, pb, eb⟩ := hb
  obtain ⟨r, po, rr⟩ := ho
  exact ⟨tOp r ta tb, fun X I => pe_op (po X I) (pa X I) (pb X I), fun F G0 G H σ ws wk Q q => ea F G0 G H σ ws wk _ fun w1 G1 H1 wk1 => eb F G0 G1 H1 σ _ wk1 _ fun w2 G2 H2 wk2 => rr F G0 G2 H2 σ ws w1 w2 wk2 Q q⟩
theorem ge_cmp {op : CmpOp} (ha : GE S a Γ τ Γ1 s1) (hb : GE S b Γ1 (s1 :: τ) Γ2 s2) (ho : OpG S (compareOp op) Γ2 τ s1 s2 Γ3 s) (hm : behindInMarks op b = false) : GE S (.Compare a [op] [b] pos) Γ τ Γ3 s := by
  obtain ⟨ta, pa, ea⟩ := ha
  obtain ⟨tb, pb, eb⟩ := hb
  obtain ⟨r, po, rr⟩ := ho
  exact ⟨tOp r ta tb, fun X I => pe_cmpR (po X I) (pa X I) (pb X I) hm, fun F G0 G H σ ws wk Q q => ea F G0 G H σ ws wk _ fun w1 G1 H1 wk1 => eb F G0 G1 H1 σ _ wk1 _ fun w2 G2 H2 wk2 => rr F G0 G2 H2 σ ws w1 w2 wk2 Q q⟩
theorem gt_cmp {op : CmpOp} {k : Bool} (ha : GE S a Γ τ Γ1 s1) (hb : GE S b Γ1 (s1 :: τ) Γ2 s2) (ho : OpG S (compareOp op) Γ2 τ s1 s2 Γ3 (.sh (.bool k))) (hm : behindInMarks op b = false) : GT S (.Compare a [op] [b] pos) Γ τ Γ3 k := by
  obtain ⟨ta, pa, ea⟩ := ha
  obtain ⟨tb, pb, eb⟩ := hb
  obtain ⟨r, po, rr⟩ := ho
  refine ⟨tTest (tOp r ta tb), fun X I => pt_cmpR (po X I) (pa X I) (pb X I) hm, fun F G0 G H σ ws wk Q q => ea F G0 G H σ ws wk _ fun w1 G1 H1 wk1 => eb F G0 G1 H1 σ _ wk1 _ fun w2 G2 H2 wk2 => rr F G0 G2 H2 σ ws w1 w2 wk2 _ fun w G' H' wk' => ?_⟩
  have := wk'.top_sh
  cases this
  exact ⟨k, rfl, q G' H' wk'.drop⟩
theorem rr_shv {r : R2} {d1 d2 : D} (h : ∀ G H w1 w2, Ex G H → Dq G w1 d1 → Dq G w2 d2 → ∃ w, Dq G w d ∧ ∀ Q : VK, Q w H → r w1 w2 H Q) : RR S.K r Γ τ (.sh d1) (.sh d2) Γ (.sh d) :=
  fun F G0 G H σ ws w1 w2 wk Q q => by
    obtain ⟨w, hw, k⟩ := h G H w1 w2 wk.gh wk.drop.top_sh wk.top_sh
    exact k Q (q w G H (wk.drop.drop.sh hw))
theorem rr_int {C : Int → Int → Prop} {g : Int → Int → V} {i j : Int} (hc : C i j) (hg : ∀ G, Dq G (g i j) d) : RR S.K (rI C g) Γ τ (.sh (.int i)) (.sh (.int j)) Γ (.sh d) :=
  rr_shv fun G H w1 w2 _ h1 h2 => by cases h1; cases h2; exact ⟨_, hg G, fun Q q => ⟨i, j, rfl, rfl, hc, q⟩⟩
theorem rr_int0 {g : Int → Int → V} {i j : Int} (hg : ∀ G, Dq G (g i j) d) : RR S.K (rI0 g) Γ τ (.sh (.int i)) (.sh (.int j)) Γ (.sh d) :=
  rr_shv fun G H w1 w2 _ h1 h2 => by cases h1; cases h2; exact ⟨_, hg G, fun Q q => ⟨i, j, rfl, rfl, q⟩⟩
theorem og_add {i j : Int} : OpG S (binaryOp .Add) Γ τ (.sh (.int i)) (.sh (.int j)) Γ (.sh (.int (i + j))) := ⟨_, fun _ _ => op_add, rr_int0 fun _ => .int _⟩
theorem og_sub {i j : Int} : OpG S (binaryOp .Sub) Γ τ (.sh (.int i)) (.sh (.int j)) Γ (.sh (.int (i - j))) := ⟨_, fun _ _ => op_sub, rr_int0 fun _ => .int _⟩
theorem og_mul {i j : Int} (h : CMul i j) : OpG S (binaryOp .Mult) Γ τ (.sh (.int i)) (.sh (.int j)) Γ (.sh (.int (i * j))) := ⟨_, fun _ _ => op_mul, rr_int h fun _ => .int _⟩
theorem og_mulW {i j : Int} (h : CMulW i j) : OpG S (binaryOp .Mult) Γ τ (.sh (.int i)) (.sh (.int j)) Γ (.sh (.int (i * j))) := ⟨_, fun _ _ => op_mulW, rr_int h fun _ => .int _⟩
theorem og_fdiv {i j : Int} (h : CDivN i j) : OpG S (binaryOp .FloorDiv) Γ τ (.sh (.int i)) (.sh (.int j)) Γ (.sh (.int (i.fdiv j))) := ⟨_, fun _ _ => op_fdivN, rr_int h fun _ => .int _⟩
/-- a divisor of whatever sign, below 2^9000 -/
def CDivZ (_ j : Int) : Prop := j ≠ 0 ∧ j.natAbs.log2 < 9000
theorem op_fdivZ {X : Cx} : OpR X (binaryOp .FloorDiv) (rI CDivZ fun i j => .int (i.fdiv j)) := opI fun _ _ _ _ _ _ _ hc q => PyProof.Rows.floordiv_int hc.1 q (.inl (PyProof.noPylong_of_log2 hc.2))
theorem og_fdivZ {i j : Int} (h : CDivZ i j) : OpG S (binaryOp .FloorDiv) Γ τ (.sh (.int i)) (.sh (.int j)) Γ (.sh (.int (i.fdiv j))) := ⟨_, fun _ _ => op_fdivZ, rr_int h fun _ => .int _⟩
theorem og_mod {i j : Int} (h : j ≠ 0) : OpG S (binaryOp .Mod) Γ τ (.sh (.int i)) (.sh (.int j)) Γ (.sh (.int (i.fmod j))) := ⟨_, fun _ _ => op_modN, rr_int h fun _ => .int _⟩
theorem og_pow {i j : Int} (h : CPow i j) : OpG S (binaryOp .Pow) Γ τ (.sh (.int i)) (.sh (.int j)) Γ (.sh (.int (i ^ j.toNat))) := ⟨_, fun _ _ => op_pow, rr_int h fun _ => .int _⟩
theorem og_lt {i j : Int} : OpG S (compareOp .Lt) Γ τ (.sh (.int i)) (.sh (.int j)) Γ (.sh (.bool (decide (i < j)))) := ⟨_, fun _ _ => op_lt, rr_int0 fun _ => .bl _⟩
theorem og_le {i j : Int} : OpG S (compareOp .LtE) Γ τ (.sh (.int i)) (.sh (.int j)) Γ (.sh (.bool (decide (i ≤ j)))) := ⟨_, fun _ _ => op_le, rr_int0 fun _ => .bl _⟩
theorem og_gt {i j : Int} : OpG S (compareOp .Gt) Γ τ (.sh (.int i)) (.sh (.int j)) Γ (.sh (.bool (decide (j < i)))) := ⟨_, fun _ _ => op_gt, rr_int0 fun _ => .bl _⟩
theorem og_ge {i j : Int} : OpG S (compareOp .GtE) Γ τ (.sh (.int i)) (.sh (.int j)) Γ (.sh (.bool (decide (j ≤ i)))) := ⟨_, fun _ _ => op_ge, rr_int0 fun _ => .bl _⟩
theorem og_eqI {i j : Int} : OpG S (compareOp .Eq) Γ τ (.sh (.int i)) (.sh (.int j)) Γ (.sh (.bool (decide (i = j)))) := ⟨_, fun _ _ => op_eq, rr_shv fun G H w1 w2 _ h1 h2 => by
  cases h1; cases h2; exact ⟨.bl (decide (i = j)), .bl _, fun Q q => ⟨rfl, by rw [show decide (V.int i = V.int j) = decide (i = j) from by rw [dec_int]; exact Bool.beq_eq_decide_eq ..]; exact q⟩⟩⟩
theorem og_neI {i j : Int} : OpG S (compareOp .NotEq) Γ τ (.sh (.int i)) (.sh (.int j)) Γ (.sh (.bool (!decide (i = j)))) := ⟨_, fun _ _ => op_ne, rr_shv fun G H w1 w2 _ h1 h2 => by
  cases h1; cases h2; exact ⟨.bl (!decide (i = j)), .bl _, fun Q q => ⟨rfl, by rw [show decide (V.int i = V.int j) = decide (i = j) from by rw [dec_int]; exact Bool.beq_eq_decide_eq ..]; exact q⟩⟩⟩
theorem og_eqB {i j : Bool} : OpG S (compareOp .Eq) Γ τ (.sh (.bool i)) (.sh (.bool j)) Γ (.sh (.bool (decide (i = j)))) := ⟨_, fun _ _ => op_eq, rr_shv fun G H w1 w2 _ h1 h2 => by
  cases h1; cases h2; exact ⟨.bl (decide (i = j)), .bl _, fun Q q => ⟨rfl, by rw [show decide (V.bl i = V.bl j) = decide (i = j) from by rw [dec_bl]; exact Bool.beq_eq_decide_eq ..]; exact q⟩⟩⟩
theorem og_neB {i j : Bool} : OpG S (compareOp .NotEq) Γ τ (.sh (.bool i)) (.sh (.bool j)) Γ (.sh (.bool (!decide (i = j)))) := ⟨_, fun _ _ => op_ne, rr_shv fun G H w1 w2 _ h1 h2 => by
  cases h1; cases h2; exact ⟨.bl (!decide (i = j)), .bl _, fun Q q => ⟨rfl, by rw [show decide (V.bl i = V.bl j) = decide (i = j) from by rw [dec_bl]; exact Bool.beq_eq_decide_eq ..]; exact q⟩⟩⟩
/-- equality of data -/
theorem rr_eqD {d1 d2 : D} (h1 : SeqAt.shaped d1 = true) (h2 : SeqAt.shaped d2 = true) : RR S.K (rEqD S.K) Γ τ (.sh d1) (.sh d2) Γ (.sh (.bool (PyData.eqv d1 d2))) :=
  rr_shv fun G H w1 w2 e q1 q2 => ⟨.bl _, .bl _, fun Q q => ⟨d1, d2, dq_dp _ _ (dp_ex e _ _ q1), dq_dp _ _ (dp_ex e _ _ q2), h1, h2, q⟩⟩
theorem rr_neD {d1 d2 : D} (h1 : SeqAt.shaped d1 = true) (h2 : SeqAt.shaped d2 = true) : RR S.K (rNeD S.K) Γ τ (.sh d1) (.sh d2) Γ (.sh (.bool (!PyData.eqv d1 d2))) :=
  rr_shv fun G H w1 w2 e q1 q2 => ⟨.bl _, .bl _, fun Q q => ⟨d1, d2, dq_dp _ _ (dp_ex e _ _ q1), dq_dp _ _ (dp_ex e _ _ q2), h1, h2, q⟩⟩
theorem og_eqD {d1 d2 : D} (h1 : SeqAt.shaped d1 = true) (h2 : SeqAt.shaped d2 = true) : OpG S (compareOp .Eq) Γ τ (.sh d1) (.sh d2) Γ (.sh (.bool (PyData.eqv d1 d2))) :=
  ⟨rEqD S.K, fun X I => by rw [← I.K]; exact op_eqD I.hu, rr_eqD h1 h2⟩
theorem og_neD {d1 d2 : D} (h1 : SeqAt.shaped d1 = true) (h2 : SeqAt.shaped d2 = true) : OpG S (compareOp .NotEq) Γ τ (.sh d1) (.sh d2) Γ (.sh (.bool (!PyData.eqv d1 d2))) :=
  ⟨rNeD S.K, fun X I => by rw [← I.K]; exact op_neD I.hu, rr_neD h1 h2⟩
end
end Lf
set_option maxHeartbeats 4000000
namespace Lf
open PySem L2 Evl

/-! ### sequences that can be read -/
inductive RdL (Γ : List Sl) : Sl → List D → Prop
  | sh {ds} : RdL Γ (.sh (.list ds)) ds
  | ol {ds} : RdL Γ (.ol ds) ds
  | bo {i ds} (h : Γ[i]? = some (.ol ds)) : RdL Γ (.bo i) ds
  | boi {i k dss ds} (h : Γ[i]? = some (.oll dss)) (hk : dss[k]? = some ds) : RdL Γ (.boi i k) ds
inductive RdT : Sl → List D → Prop
  | sh {ds} : RdT (.sh (.tuple ds)) ds
inductive RdS (Γ : List Sl) : Sl → List D → Prop
  | l {s ds} (h : RdL Γ s ds) : RdS Γ s ds
  | t {s ds} (h : RdT s ds) : RdS Γ s ds
section
variable {K : PySem.W.Frag} {F G0 G H : Hp} {Γ τ : List Sl} {σ : L2.St} {ws : List V} {O : Own} {w : V} {s : Sl} {ds : List D}
theorem paired_at {α β : Type} {R : α → β → Prop} : ∀ {l : List α} {m : List β}, Paired R l m → ∀ {i : Nat} {b : β}, m[i]? = some b → ∃ a, l[i]? = some a ∧ R a b
  | _, _, .nil, i, b, h => by simp at h
  | _, _, .cons r t, 0, b, h => by simp at h; subst h; exact ⟨_, rfl, r⟩
  | _, _, .cons r t, i + 1, b, h => by simpa using paired_at t (by simpa using h)
theorem WkO.rdl (a : WkO K F G0 Γ τ G H σ ws O) {id : Id} (h : Ok K G H σ O id w s) (r : RdL Γ s ds) : ∃ p vs, w = .ref p ∧ H p = some (.lst vs) ∧ DqAll G vs ds := by
  cases r with
  | sh =>
    cases h with
    | lst q b => exact ⟨_, _, rfl, a.gh _ _ q, b⟩
  | ol => obtain ⟨p, vs, e, _, hp, b⟩ := h; exact ⟨p, vs, e, hp, b⟩
  | @bo i ds' hi =>
    rcases a.sl i _ hi with z | ⟨w', e, p, vs, e2, _, hp, b⟩
    · cases z
    · have h' : σ[i]? = some (some w) := h.2
      rw [e] at h'; cases h'
      exact ⟨p, vs, e2, hp, b⟩
  | @boi i k dss ds' hi hk =>
    rcases a.sl i _ hi with z | ⟨w', e, p, ps, e2, _, hp, nd, b⟩
    · cases z
    · obtain ⟨_, p', ps', q, e', _, hp', hq, ew⟩ := h
      rw [e, e2] at e'
      cases e'
      rw [hp] at hp'
      have eps : ps.map V.ref = ps'.map V.ref := by simpa using hp'
      obtain ⟨q2, hq2, _, vs, hv, bv⟩ := paired_at b hk
      have : (ps.map V.ref)[k]? = (ps'.map V.ref)[k]? := by rw [eps]
      rw [List.getElem?_map, List.getElem?_map, hq2, hq] at this
      simp at this
      subst this
      exact ⟨_, vs, ew, hv, bv⟩
theorem WkO.rdt (a : WkO K F G0 Γ τ G H σ ws O) {id : Id} (h : Ok K G H σ O id w s) (r : RdT s ds) : ∃ p vs, w = .ref p ∧ H p = some (.tup vs) ∧ DqAll G vs ds := by
  cases r with
  | sh =>
    cases h with
    | tup q b => exact ⟨_, _, rfl, a.gh _ _ q, b⟩
theorem WkO.rds (a : WkO K F G0 Γ τ G H σ ws O) {id : Id} (h : Ok K G H σ O id w s) (r : RdS Γ s ds) : ∃ p vs, w = .ref p ∧ (H p = some (.lst vs) ∨ H p = some (.tup vs)) ∧ DqAll G vs ds := by
  cases r with
  | l r => obtain ⟨p, vs, e, q, b⟩ := a.rdl h r; exact ⟨p, vs, e, .inl q, b⟩
  | t r => obtain ⟨p, vs, e, q, b⟩ := a.rdt h r; exact ⟨p, vs, e, .inr q, b⟩
/-- the object itself of an owned list -/
theorem WkO.own_ol (a : WkO K F G0 Γ τ G H σ ws O) {id : Id} (h : Ok K G H σ O id w (.bo i)) (hi : Γ[i]? = some (.ol ds)) : ∃ p vs, w = .ref p ∧ O p = some (.inl i) ∧ H p = some (.lst vs) ∧ DqAll G vs ds := by
  rcases a.sl i _ hi with z | ⟨w', e, p, vs, e2, o, hp, b⟩
  · cases z
  · have h' : σ[i]? = some (some w) := h.2
    rw [e] at h'; cases h'
    exact ⟨p, vs, e2, o, hp, b⟩
end

section
variable {S : Stat} {Γ Γ1 Γ2 Γ3 τ : List Sl} {s s1 s2 s3 : Sl} {a b c e : Expr} {es : List Expr} {pos : Pos} {d : D} {ds : List D}

theorem atI_dp {G : Hp} {vs : List V} {ds : List D} {i : Int} {d : D} (b : DqAll G vs ds) (h : atI ds i = some d) : ∃ v, atI vs i = some v ∧ Dq G v d := by
  unfold atI at h ⊢
  rw [dpa_len b]
  cases e : ixN ds.length i with
  | none => rw [e] at h; cases h
  | some j =>
    rw [e] at h
    exact dpa_get b h
theorem ge_ixL {i : Int} (ha : GE S a Γ τ Γ1 s1) (hb : GE S b Γ1 (s1 :: τ) Γ2 (.sh (.int i))) (hr : RdL Γ2 s1 ds) (hd : atI ds i = some d) (hp : PlainIx b) : GE S (.Subscript a b pos) Γ τ Γ2 (.sh d) := by
  obtain ⟨ta, pa, ea⟩ := ha
  obtain ⟨tb, pb, eb⟩ := hb
  refine ⟨tOp (rIxL S.K) ta tb, fun X I => by rw [← I.K]; exact pe_ix ix_list (pa X I) (pb X I) hp, fun F G0 G H σ ws wk Q q => ea F G0 G H σ ws wk _ fun w1 G1 H1 wk1 => eb F G0 G1 H1 σ _ wk1 _ fun w2 G2 H2 wk2 => ?_⟩
  obtain ⟨O, A⟩ := id wk2
  obtain ⟨p, vs, e, hq, B⟩ := A.rdl A.ts.2.1 hr
  obtain ⟨v, hv, hvd⟩ := atI_dp B hd
  have hi := wk2.top_sh
  cases hi
  exact ⟨p, vs, i, v, e, rfl, sq_of hq, hv, q v G2 H2 (wk2.drop.drop.sh hvd)⟩
theorem ge_ixT {i : Int} (ha : GE S a Γ τ Γ1 s1) (hb : GE S b Γ1 (s1 :: τ) Γ2 (.sh (.int i))) (hr : RdT s1 ds) (hd : atI ds i = some d) (hp : PlainIx b) : GE S (.Subscript a b pos) Γ τ Γ2 (.sh d) := by
  obtain ⟨ta, pa, ea⟩ := ha
  obtain ⟨tb, pb, eb⟩ := hb
  refine ⟨tOp (rIxT S.K) ta tb, fun X I => by rw [← I.K]; exact pe_ix ix_tup (pa X I) (pb X I) hp, fun F G0 G H σ ws wk Q q => ea F G0 G H σ ws wk _ fun w1 G1 H1 wk1 => eb F G0 G1 H1 σ _ wk1 _ fun w2 G2 H2 wk2 => ?_⟩
  obtain ⟨O, A⟩ := id wk2
  obtain ⟨p, vs, e, hq, B⟩ := A.rdt A.ts.2.1 hr
  obtain ⟨v, hv, hvd⟩ := atI_dp B hd
  have hi := wk2.top_sh
  cases hi
  exact ⟨p, vs, i, v, e, rfl, st_of hq, hv, q v G2 H2 (wk2.drop.drop.sh hvd)⟩
/-- an inner list of an owned list of lists -/
theorem ge_ixO {i : Int} {j k : Nat} {dss : List (List D)} (ha : GE S a Γ τ Γ1 (.bo j)) (hb : GE S b Γ1 (.bo j :: τ) Γ2 (.sh (.int i))) (hj : Γ2[j]? = some (.oll dss)) (hk : i = (k : Int)) (hl : k < dss.length) (hp : PlainIx b) : GE S (.Subscript a b pos) Γ τ Γ2 (.boi j k) := by
  obtain ⟨ta, pa, ea⟩ := ha
  obtain ⟨tb, pb, eb⟩ := hb
  refine ⟨tOp (rIxL S.K) ta tb, fun X I => by rw [← I.K]; exact pe_ix ix_list (pa X I) (pb X I) hp, fun F G0 G H σ ws wk Q q => ea F G0 G H σ ws wk _ fun w1 G1 H1 wk1 => eb F G0 G1 H1 σ _ wk1 _ fun w2 G2 H2 wk2 => ?_⟩
  obtain ⟨O, A⟩ := id wk2
  have hw : σ[j]? = some (some w1) := A.ts.2.1.2
  rcases A.sl j _ hj with z | ⟨w', e, p, ps, e2, o, hpp, nd, B⟩
  · cases z
  · rw [hw] at e; cases e
    obtain ⟨q2, hq2, _, vs, hv, bv⟩ := paired_at B (List.getElem?_eq_getElem hl)
    have hi := wk2.top_sh
    cases hi
    subst hk
    refine ⟨p, _, (k : Int), .ref q2, e2, rfl, sq_of hpp, atI_nat (by rw [List.getElem?_map, hq2]; rfl), q _ G2 H2 ⟨O, A.len, A.sl, ⟨?_, A.ts.2.2⟩, A.own, A.g0, A.gh, A.fh, A.gf⟩⟩
    exact ⟨fun _ z => (nomatch z), p, ps, q2, by rw [hw, e2], o, hpp, hq2, rfl⟩

/-! ### slices -/
def EO (K : PySem.W.Frag) (to : TO) (Γ τ Γ' : List Sl) (o : Option Int) : Prop :=
  ∀ F G0 G H σ ws, Wk K F G0 Γ τ G H σ ws → ∀ Q : Option Int → Hp → Prop, (∀ G' H', Wk K F G0 Γ' τ G' H' σ ws → Q o H') → to σ H Q
def GO (S : Stat) (e : Option Expr) (Γ τ Γ' : List Sl) (o : Option Int) : Prop := ∃ to, (∀ X, S.Is X → PO X e to) ∧ EO S.K to Γ τ Γ' o
theorem go_none : GO S none Γ τ Γ none := ⟨_, fun _ _ => po_none, fun F G0 G H σ ws wk Q q => q G H wk⟩
theorem go_some {i : Int} (h : GE S e Γ τ Γ1 (.sh (.int i))) : GO S (some e) Γ τ Γ1 (some i) := by
  obtain ⟨te, pe, ee⟩ := h
  refine ⟨tPart te, fun X I => po_some (pe X I), fun F G0 G H σ ws wk Q q => ee F G0 G H σ ws wk _ fun w G' H' wk' => ?_⟩
  have := wk'.top_sh
  cases this
  exact ⟨i, rfl, q G' H' wk'.drop⟩
def cut {α : Type} (xs : List α) (lo hi : Option Int) : List α := (xs.drop (HT.sIx xs.length 0 lo)).take (HT.sIx xs.length xs.length hi - HT.sIx xs.length 0 lo)
theorem dpa_cut {G : Hp} {vs : List V} {ds : List D} {lo hi : Option Int} (b : DqAll G vs ds) : DqAll G (cutV vs lo hi) (cut ds lo hi) := by
  unfold cutV cut
  rw [dpa_len b]
  exact dpa_take _ (dpa_drop _ b)
theorem cut_whole {α : Type} {xs : List α} {lo hi : Option Int} (h1 : HT.sIx xs.length 0 lo = 0) (h2 : HT.sIx xs.length xs.length hi = xs.length) : cut xs lo hi = xs := by
  unfold cut; rw [h1, h2]; simp
variable {lo hi : Option Expr} {lv hv : Option Int} {p2 : Pos}
theorem ge_slT (he : GE S e Γ τ Γ1 s1) (hlo : GO S lo Γ1 (s1 :: τ) Γ2 lv) (hhi : GO S hi Γ2 (s1 :: τ) Γ3 hv) (hr : RdT s1 ds) : GE S (.Subscript e (.Slice lo hi none p2) pos) Γ τ Γ3 (.sh (.tuple (cut ds lv hv))) := by
  obtain ⟨te, pe, ee⟩ := he
  obtain ⟨tl, pl, el⟩ := hlo
  obtain ⟨th, ph, eh⟩ := hhi
  refine ⟨tSl (rSlA S.K) te tl th, fun X I => by rw [← I.K]; exact pe_slice sl_tupA (pe X I) (pl X I) (ph X I), fun F G0 G H σ ws wk Q q => ee F G0 G H σ ws wk _ fun w1 G1 H1 wk1 => el F G0 G1 H1 σ _ wk1 _ fun G2 H2 wk2 => eh F G0 G2 H2 σ _ wk2 _ fun G3 H3 wk3 => ?_⟩
  obtain ⟨O, A⟩ := id wk3
  obtain ⟨p, vs, e, hq, B⟩ := A.rdt A.ts.1 hr
  refine ⟨p, vs, e, st_of hq, fun z => ?_, fun z pn hpn => q _ _ _ (wk3.drop.newT hpn (dpa_cut B))⟩
  have hds : cut ds lv hv = ds := cut_whole (by rw [← dpa_len B]; exact z.1) (by rw [← dpa_len B]; exact z.2)
  rw [hds] at q
  refine q _ G3 H3 (wk3.drop.sh ?_)
  subst e
  cases hr
  exact A.ts.1
theorem ge_slL (he : GE S e Γ τ Γ1 s1) (hlo : GO S lo Γ1 (s1 :: τ) Γ2 lv) (hhi : GO S hi Γ2 (s1 :: τ) Γ3 hv) (hr : RdL Γ3 s1 ds) : GE S (.Subscript e (.Slice lo hi none p2) pos) Γ τ Γ3 (.ol (cut ds lv hv)) := by
  obtain ⟨te, pe, ee⟩ := he
  obtain ⟨tl, pl, el⟩ := hlo
  obtain ⟨th, ph, eh⟩ := hhi
  refine ⟨tSl (rSlL S.K) te tl th, fun X I => by rw [← I.K]; exact pe_slice sl_list (pe X I) (pl X I) (ph X I), fun F G0 G H σ ws wk Q q => ee F G0 G H σ ws wk _ fun w1 G1 H1 wk1 => el F G0 G1 H1 σ _ wk1 _ fun G2 H2 wk2 => eh F G0 G2 H2 σ _ wk2 _ fun G3 H3 wk3 => ?_⟩
  obtain ⟨O, A⟩ := id wk3
  obtain ⟨p, vs, e, hq, B⟩ := A.rdl A.ts.1 hr
  exact ⟨p, vs, e, sq_of hq, fun pn hpn => q _ _ _ (wk3.drop.newL hpn (dpa_cut B))⟩

/-! ### arguments, displays -/
theorem ga_nil : GA S [] Γ τ Γ [] := ⟨tNil, fun _ _ => pa_nil, fun F G0 G H σ ws wk Q q => q [] G H rfl wk⟩
theorem ga_cons {ss : List Sl} (he : GE S e Γ τ Γ1 s) (hr : GA S es Γ1 (s :: τ) Γ2 ss) (hs : ∀ env, starEach (e :: es) env = (false, eval e env) :: starEach es env) : GA S (e :: es) Γ τ Γ2 (s :: ss) := by
  obtain ⟨te, pe, ee⟩ := he
  obtain ⟨tr, pr, er⟩ := hr
  refine ⟨tCons te tr, fun X I => pa_cons (pe X I) (pr X I) (hs _), fun F G0 G H σ ws wk Q q => ee F G0 G H σ ws wk _ fun w1 G1 H1 wk1 => er F G0 G1 H1 σ _ wk1 _ fun vs G2 H2 hl wk2 => q _ G2 H2 (by simp [hl]) ?_⟩
  simpa [List.reverse_cons, List.append_assoc] using wk2
/-- all shared: their data -/
theorem Wk.all_sh {K : PySem.W.Frag} {F G0 : Hp} : ∀ {ds : List D} {vs : List V} {ws : List V} {τ : List Sl} {G H σ}, vs.length = ds.length → Wk K F G0 Γ ((ds.map Sl.sh) ++ τ) G H σ (vs ++ ws) → DqAll G vs ds ∧ Wk K F G0 Γ τ G H σ ws
  | [], [], _, _, _, _, _, _, h => ⟨.nil, h⟩
  | d :: ds, v :: vs, _, _, _, _, _, hl, h => by
    have h1 := Wk.top_sh (d := d) h
    obtain ⟨h2, h3⟩ := Wk.all_sh (by simpa using hl) (Wk.drop (s := .sh d) h)
    exact ⟨.cons h1 h2, h3⟩
  | [], _ :: _, _, _, _, _, _, hl, _ => by simp at hl
  | _ :: _, [], _, _, _, _, _, hl, _ => by simp at hl
theorem dpa_rev {G : Hp} : ∀ {vs : List V} {ds : List D}, DqAll G vs ds → DqAll G vs.reverse ds.reverse
  | _, _, .nil => .nil
  | _, _, .cons a t => by rw [List.reverse_cons, List.reverse_cons]; exact dpa_app (dpa_rev t) (.cons a .nil)
theorem Wk.args_sh {K : PySem.W.Frag} {F G0 : Hp} {ds : List D} {vs ws : List V} {G H : Hp} {σ : L2.St} (hl : vs.length = (ds.map Sl.sh).length) (h : Wk K F G0 Γ ((ds.map Sl.sh).reverse ++ τ) G H σ (vs.reverse ++ ws)) : DqAll G vs ds ∧ Wk K F G0 Γ τ G H σ ws := by
  rw [← List.map_reverse] at h
  obtain ⟨h1, h2⟩ := Wk.all_sh (by simpa using hl) h
  exact ⟨by simpa using dpa_rev h1, h2⟩
theorem sz_of' {n : Nat} (h : n ≤ 100000) : n ≤ sizeLine := Nat.le_trans h (by decide)
theorem ge_tup {x1} {ds : List D} (h : GA S es Γ τ Γ1 (ds.map Sl.sh)) (hl : ds.length ≤ 100000) : GE S (.Tuple es x1 pos) Γ τ Γ1 (.sh (.tuple ds)) := by
  obtain ⟨ta, pa, ea⟩ := h
  refine ⟨tTup ta, fun X I => pe_tup (pa X I), fun F G0 G H σ ws wk Q q => ea F G0 G H σ ws wk _ fun vs G1 H1 hl' wk1 => ?_⟩
  obtain ⟨B, wk2⟩ := wk1.args_sh hl'
  exact ⟨sz_of' (by rw [dpa_len B]; exact hl), fun p hp => q _ _ _ (wk2.newT hp B)⟩
theorem ge_lst {ds : List D} (h : GA S es Γ τ Γ1 (ds.map Sl.sh)) (hl : ds.length ≤ 100000) : GE S (.List es pos) Γ τ Γ1 (.ol ds) := by
  obtain ⟨ta, pa, ea⟩ := h
  refine ⟨tLst ta, fun X I => pe_lst (pa X I), fun F G0 G H σ ws wk Q q => ea F G0 G H σ ws wk _ fun vs G1 H1 hl' wk1 => ?_⟩
  obtain ⟨B, wk2⟩ := wk1.args_sh hl'
  exact ⟨sz_of' (by rw [dpa_len B]; exact hl), fun p hp => q _ _ _ (wk2.newL hp B)⟩

/-! ### tests -/
theorem gt_val {k : Bool} (h : GE S e Γ τ Γ1 (.sh (.bool k))) (he : ∀ env whole, isTrue e env whole = (do let v ← whole; standAt e.pos; holding [v] (truthy v))) : GT S e Γ τ Γ1 k := by
  obtain ⟨te, pe, ee⟩ := h
  refine ⟨tB te, fun X I => pt_val (pe X I) (he X.env), fun F G0 G H σ ws wk Q q => ee F G0 G H σ ws wk _ fun w G' H' wk' => ?_⟩
  have := wk'.top_sh
  cases this
  exact ⟨k, rfl, q G' H' wk'.drop⟩
theorem gt_not {k : Bool} (h : GT S e Γ τ Γ1 k) : GT S (.UnaryOp .Not e pos) Γ τ Γ1 (!k) := by
  obtain ⟨te, pe, ee⟩ := h
  exact ⟨tNot te, fun X I => pt_not (pe X I), fun F G0 G H σ ws wk Q q => ee F G0 G H σ ws wk _ fun G' H' wk' => q G' H' wk'⟩
theorem gw_and1 {k : Bool} (h : GT S e Γ τ Γ1 k) : GW S (.BoolOp .And [e] pos) Γ τ Γ1 k := let ⟨t, p, h⟩ := h; ⟨t, fun X I => pw_and1 (p X I), h⟩
theorem gw_or1 {k : Bool} (h : GT S e Γ τ Γ1 k) : GW S (.BoolOp .Or [e] pos) Γ τ Γ1 k := let ⟨t, p, h⟩ := h; ⟨t, fun X I => pw_or1 (p X I), h⟩
theorem pe_nv {X : Cx} {e : Expr} : PE X e (fun _ _ _ => False) := ⟨fun _ _ _ _ _ _ h => h.elim⟩
theorem pw_nv {X : Cx} {e : Expr} : PW X e (fun _ _ _ => False) := ⟨fun _ _ _ _ _ _ _ h => h.elim⟩
theorem pt_nv {X : Cx} {e : Expr} : PT X e (fun _ _ _ => False) := ⟨fun _ _ _ _ _ _ h => h.elim⟩
theorem gw_and {k l : Bool} (ha : GT S a Γ τ Γ1 k) (hb : k = true → GW S (.BoolOp .And (b :: es) pos) Γ1 τ Γ1 l) : GW S (.BoolOp .And (a :: b :: es) pos) Γ τ Γ1 (k && l) := by
  obtain ⟨ta, pa, ea⟩ := ha
  cases k with
  | true =>
    obtain ⟨tb, pb, eb⟩ := hb rfl
    refine ⟨tAnd ta tb, fun X I => pw_and (pa X I) (pb X I), fun F G0 G H σ ws wk Q q => ea F G0 G H σ ws wk _ fun G1 H1 wk1 => ?_⟩
    show (if true = true then tb σ H1 Q else Q false H1)
    rw [if_pos rfl]
    exact eb F G0 G1 H1 σ ws wk1 Q fun G' H' wk' => q G' H' wk'
  | false =>
    refine ⟨tAnd ta _, fun X I => pw_and (pa X I) pw_nv, fun F G0 G H σ ws wk Q q => ea F G0 G H σ ws wk _ fun G1 H1 wk1 => ?_⟩
    show (if false = true then False else Q false H1)
    rw [if_neg Bool.false_ne_true]
    exact q G1 H1 wk1
theorem gw_or {k l : Bool} (ha : GT S a Γ τ Γ1 k) (hb : k = false → GW S (.BoolOp .Or (b :: es) pos) Γ1 τ Γ1 l) : GW S (.BoolOp .Or (a :: b :: es) pos) Γ τ Γ1 (k || l) := by
  obtain ⟨ta, pa, ea⟩ := ha
  cases k with
  | false =>
    obtain ⟨tb, pb, eb⟩ := hb rfl
    refine ⟨tOr ta tb, fun X I => pw_or (pa X I) (pb X I), fun F G0 G H σ ws wk Q q => ea F G0 G H σ ws wk _ fun G1 H1 wk1 => ?_⟩
    show (if false = true then Q true H1 else tb σ H1 Q)
    rw [if_neg Bool.false_ne_true]
    exact eb F G0 G1 H1 σ ws wk1 Q fun G' H' wk' => q G' H' wk'
  | true =>
    refine ⟨tOr ta _, fun X I => pw_or (pa X I) pw_nv, fun F G0 G H σ ws wk Q q => ea F G0 G H σ ws wk _ fun G1 H1 wk1 => ?_⟩
    show (if true = true then Q true H1 else False)
    rw [if_pos rfl]
    exact q G1 H1 wk1
theorem gt_bool {op : BoolOp} {k : Bool} (h : GW S (.BoolOp op es pos) Γ τ Γ1 k) : GT S (.BoolOp op es pos) Γ τ Γ1 k := let ⟨t, p, h⟩ := h; ⟨t, fun X I => (p X I).pt, h⟩
/-! .. as values -/
theorem ge_one {op : BoolOp} (h : GE S e Γ τ Γ1 s) : GE S (.BoolOp op [e] pos) Γ τ Γ1 s := let ⟨t, p, h⟩ := h; ⟨t, fun X I => pe_one (p X I), h⟩
theorem ge_and {k l : Bool} (ha : GE S a Γ τ Γ1 (.sh (.bool k))) (hb : k = true → GE S (.BoolOp .And (b :: es) pos) Γ1 τ Γ1 (.sh (.bool l))) : GE S (.BoolOp .And (a :: b :: es) pos) Γ τ Γ1 (.sh (.bool (k && l))) := by
  obtain ⟨ta, pa, ea⟩ := ha
  cases k with
  | true =>
    obtain ⟨tb, pb, eb⟩ := hb rfl
    refine ⟨tAndV ta tb, fun X I => pe_and (pa X I) (pb X I), fun F G0 G H σ ws wk Q q => ea F G0 G H σ ws wk _ fun w G1 H1 wk1 => ?_⟩
    have := wk1.top_sh
    cases this
    exact ⟨true, rfl, by rw [if_pos rfl]; exact eb F G0 G1 H1 σ ws wk1.drop Q q⟩
  | false =>
    refine ⟨tAndV ta _, fun X I => pe_and (pa X I) pe_nv, fun F G0 G H σ ws wk Q q => ea F G0 G H σ ws wk _ fun w G1 H1 wk1 => ?_⟩
    have := wk1.top_sh
    cases this
    exact ⟨false, rfl, by rw [if_neg Bool.false_ne_true]; exact q _ G1 H1 wk1⟩
theorem ge_or {k l : Bool} (ha : GE S a Γ τ Γ1 (.sh (.bool k))) (hb : k = false → GE S (.BoolOp .Or (b :: es) pos) Γ1 τ Γ1 (.sh (.bool l))) : GE S (.BoolOp .Or (a :: b :: es) pos) Γ τ Γ1 (.sh (.bool (k || l))) := by
  obtain ⟨ta, pa, ea⟩ := ha
  cases k with
  | false =>
    obtain ⟨tb, pb, eb⟩ := hb rfl
    refine ⟨tOrV ta tb, fun X I => pe_or (pa X I) (pb X I), fun F G0 G H σ ws wk Q q => ea F G0 G H σ ws wk _ fun w G1 H1 wk1 => ?_⟩
    have := wk1.top_sh
    cases this
    exact ⟨false, rfl, by rw [if_neg Bool.false_ne_true]; exact eb F G0 G1 H1 σ ws wk1.drop Q q⟩
  | true =>
    refine ⟨tOrV ta _, fun X I => pe_or (pa X I) pe_nv, fun F G0 G H σ ws wk Q q => ea F G0 G H σ ws wk _ fun w G1 H1 wk1 => ?_⟩
    have := wk1.top_sh
    cases this
    exact ⟨true, rfl, by rw [if_pos rfl]; exact q _ G1 H1 wk1⟩
theorem ge_notV {k : Bool} (h : GE S e Γ τ Γ1 (.sh (.bool k))) : GE S (.UnaryOp .Not e pos) Γ τ Γ1 (.sh (.bool (!k))) := by
  obtain ⟨te, pe, ee⟩ := h
  refine ⟨tNotV te, fun X I => pe_not (pe X I), fun F G0 G H σ ws wk Q q => ee F G0 G H σ ws wk _ fun w G' H' wk' => ?_⟩
  have := wk'.top_sh
  cases this
  exact ⟨k, rfl, q _ G' H' (wk'.drop.sh (.bl _))⟩
theorem ge_neg {i : Int} (h : GE S e Γ τ Γ1 (.sh (.int i))) : GE S (.UnaryOp .USub e pos) Γ τ Γ1 (.sh (.int (-i))) := by
  obtain ⟨te, pe, ee⟩ := h
  refine ⟨_, fun X I => pe_un un_neg (pe X I), fun F G0 G H σ ws wk Q q => ee F G0 G H σ ws wk _ fun w G' H' wk' => ?_⟩
  have := wk'.top_sh
  cases this
  exact ⟨i, rfl, q _ G' H' (wk'.drop.sh (.int _))⟩
/-! a if c else b -/
theorem ge_ifC {k : Bool} (hc : GT S c Γ τ Γ1 k) (ha : k = true → GE S a Γ1 τ Γ2 s) (hb : k = false → GE S b Γ1 τ Γ2 s) : GE S (.IfExp c a b pos) Γ τ Γ2 s := by
  obtain ⟨tc, pc, ec⟩ := hc
  cases k with
  | true =>
    obtain ⟨ta, pa, ea⟩ := ha rfl
    refine ⟨tIf tc ta _, fun X I => pe_ifExp (pc X I) (pa X I) pe_nv, fun F G0 G H σ ws wk Q q => ec F G0 G H σ ws wk _ fun G1 H1 wk1 => ?_⟩
    rw [if_pos rfl]
    exact ea F G0 G1 H1 σ ws wk1 Q q
  | false =>
    obtain ⟨tb, pb, eb⟩ := hb rfl
    refine ⟨tIf tc _ tb, fun X I => pe_ifExp (pc X I) pe_nv (pb X I), fun F G0 G H σ ws wk Q q => ec F G0 G H σ ws wk _ fun G1 H1 wk1 => ?_⟩
    rw [if_neg Bool.false_ne_true]
    exact eb F G0 G1 H1 σ ws wk1 Q q
theorem ge_ifI {k : Bool} {i j : Int} (hc : GT S c Γ τ Γ1 k) (ha : k = true → GE S a Γ1 τ Γ2 (.sh (.int i))) (hb : k = false → GE S b Γ1 τ Γ2 (.sh (.int j))) : GE S (.IfExp c a b pos) Γ τ Γ2 (.sh (.int (if k = true then i else j))) :=
  ge_ifC hc (fun h => by rw [if_pos h]; exact ha h) fun h => by rw [if_neg (by rw [h]; exact Bool.false_ne_true)]; exact hb h
/-! chains of comparisons of shared data -/
theorem Wk.dup2 {K : PySem.W.Frag} {F G0 G H : Hp} {σ : L2.St} {ws : List V} {w1 w2 : V} {d1 d2 : D} (h : Wk K F G0 Γ (.sh d2 :: .sh d1 :: τ) G H σ (w2 :: w1 :: ws)) : Wk K F G0 Γ (.sh d2 :: .sh d1 :: .sh d2 :: τ) G H σ (w2 :: w1 :: w2 :: ws) :=
  ((h.drop.drop.sh h.top_sh).sh h.drop.top_sh).sh h.top_sh
variable {d1 d2 d3 d4 : D}
theorem ge_chain {op op' : CmpOp} {k l : Bool} (ha : GE S a Γ τ Γ1 (.sh d1)) (hb : GE S b Γ1 (.sh d1 :: τ) Γ2 (.sh d2)) (ho : ∀ τ, OpG S (compareOp op) Γ2 τ (.sh d1) (.sh d2) Γ2 (.sh (.bool k)))
    (hc : k = true → GE S c Γ2 (.sh d2 :: τ) Γ2 (.sh d3) ∧ OpG S (compareOp op') Γ2 τ (.sh d2) (.sh d3) Γ2 (.sh (.bool l))) (hm : lastMarks [op, op'] [b, c] = false) : GE S (.Compare a [op, op'] [b, c] pos) Γ τ Γ2 (.sh (.bool (k && l))) := by
  obtain ⟨ta, pa, ea⟩ := ha
  obtain ⟨tb, pb, eb⟩ := hb
  obtain ⟨r, po, rr⟩ := ho (.sh d2 :: τ)
  cases k with
  | true =>
    obtain ⟨⟨tc, pc, ec⟩, r', po', rr'⟩ := hc rfl
    refine ⟨tChain r r' ta tb tc, fun X I => pe_chain (po X I) (po' X I) (pa X I) (pb X I) (pc X I) hm, fun F G0 G H σ ws wk Q q => ea F G0 G H σ ws wk _ fun w1 G1 H1 wk1 => eb F G0 G1 H1 σ _ wk1 _ fun w2 G2 H2 wk2 => rr F G0 G2 H2 σ (w2 :: ws) w1 w2 wk2.dup2 _ fun w G3 H3 wk3 => ?_⟩
    have := wk3.top_sh
    cases this
    exact ⟨true, rfl, by rw [if_pos rfl]; exact ec F G0 G3 H3 σ _ wk3.drop _ fun w3 G4 H4 wk4 => rr' F G0 G4 H4 σ ws w2 w3 wk4 Q q⟩
  | false =>
    refine ⟨tChain r (fun _ _ _ _ => False) ta tb _, fun X I => pe_chain (po X I) (fun _ _ _ _ _ _ _ _ _ _ _ _ h => h.elim) (pa X I) (pb X I) pe_nv hm, fun F G0 G H σ ws wk Q q => ea F G0 G H σ ws wk _ fun w1 G1 H1 wk1 => eb F G0 G1 H1 σ _ wk1 _ fun w2 G2 H2 wk2 => rr F G0 G2 H2 σ (w2 :: ws) w1 w2 wk2.dup2 _ fun w G3 H3 wk3 => ?_⟩
    have := wk3.top_sh
    cases this
    exact ⟨false, rfl, by rw [if_neg Bool.false_ne_true]; exact q _ G3 H3 (wk3.drop.drop.sh (.bl _))⟩
theorem gt_chain {op op' : CmpOp} {k l : Bool} (ha : GE S a Γ τ Γ1 (.sh d1)) (hb : GE S b Γ1 (.sh d1 :: τ) Γ2 (.sh d2)) (ho : ∀ τ, OpG S (compareOp op) Γ2 τ (.sh d1) (.sh d2) Γ2 (.sh (.bool k)))
    (hc : k = true → GE S c Γ2 (.sh d2 :: τ) Γ2 (.sh d3) ∧ OpG S (compareOp op') Γ2 τ (.sh d2) (.sh d3) Γ2 (.sh (.bool l))) (hm : lastMarks [op, op'] [b, c] = false) : GT S (.Compare a [op, op'] [b, c] pos) Γ τ Γ2 (k && l) := by
  obtain ⟨ta, pa, ea⟩ := ha
  obtain ⟨tb, pb, eb⟩ := hb
  obtain ⟨r, po, rr⟩ := ho (.sh d2 :: τ)
  cases k with
  | true =>
    obtain ⟨⟨tc, pc, ec⟩, r', po', rr'⟩ := hc rfl
    refine ⟨tTest (tChain r r' ta tb tc), fun X I => pt_chain (po X I) (po' X I) (pa X I) (pb X I) (pc X I) hm, fun F G0 G H σ ws wk Q q => ea F G0 G H σ ws wk _ fun w1 G1 H1 wk1 => eb F G0 G1 H1 σ _ wk1 _ fun w2 G2 H2 wk2 => rr F G0 G2 H2 σ (w2 :: ws) w1 w2 wk2.dup2 _ fun w G3 H3 wk3 => ?_⟩
    have := wk3.top_sh
    cases this
    refine ⟨true, rfl, ?_⟩
    rw [if_pos rfl]
    refine ec F G0 G3 H3 σ _ wk3.drop _ fun w3 G4 H4 wk4 => rr' F G0 G4 H4 σ ws w2 w3 wk4 _ fun w G5 H5 wk5 => ?_
    have := wk5.top_sh
    cases this
    exact ⟨l, rfl, q _ _ wk5.drop⟩
  | false =>
    refine ⟨tTest (tChain r (fun _ _ _ _ => False) ta tb _), fun X I => pt_chain (po X I) (fun _ _ _ _ _ _ _ _ _ _ _ _ h => h.elim) (pa X I) (pb X I) pe_nv hm, fun F G0 G H σ ws wk Q q => ea F G0 G H σ ws wk _ fun w1 G1 H1 wk1 => eb F G0 G1 H1 σ _ wk1 _ fun w2 G2 H2 wk2 => rr F G0 G2 H2 σ (w2 :: ws) w1 w2 wk2.dup2 _ fun w G3 H3 wk3 => ?_⟩
    have := wk3.top_sh
    cases this
    refine ⟨false, rfl, ?_⟩
    rw [if_neg Bool.false_ne_true]
    exact ⟨false, rfl, q G3 H3 wk3.drop.drop⟩
/-- three comparisons -/
def tChain3 (r r' r'' : R2) (ta tb tc td : TE) : TE := fun σ H Q => ta σ H fun x H1 => tb σ H1 fun y H2 => r x y H2 fun z H3 => ∃ k, z = .bl k ∧
  (if k = true then tc σ H3 fun w' H4 => r' y w' H4 fun z H5 => ∃ k, z = .bl k ∧ (if k = true then td σ H5 fun w2 H6 => r'' w' w2 H6 Q else Q (.bl false) H5) else Q (.bl false) H3)
open PyProof.Rows in
theorem pe_chain3 {X : Cx} {d : Expr} {op op' op'' : CmpOp} {r r' r'' : R2} {ta tb tc td : TE} (ho : OpR X (compareOp op) r) (ho' : OpR X (compareOp op') r') (ho'' : OpR X (compareOp op'') r'') (ha : PE X a ta) (hb : PE X b tb) (hc : PE X c tc) (hd : PE X d td)
    (hm : lastMarks [op, op', op''] [b, c, d] = false) : PE X (.Compare a [op, op', op''] [b, c, d] pos) (tChain3 r r' r'' ta tb tc td) := by
  refine ⟨fun pins s σ H Q I h => ?_⟩
  refine Compare_chain (thn (ha.run pins s σ H _ I h) fun v s1 ⟨x, H1, I1, r1, q1⟩ => chain_link (thn (hb.run pins s1 σ H1 _ I1 q1) fun u s2 ⟨y, H2, I2, r2, q2⟩ =>
    thn (ho pins s2 σ H2 x y v u _ I2 r1 r2 q2) fun d s3 ⟨z, H3, I3, r3, k, e, q3⟩ => ?_)) hm
  subst e
  cases r3
  refine wpAny_truthy_bool ?_
  cases k with
  | false => exact ite_ff ⟨.bl false, H3, I3, rfl, q3⟩
  | true =>
    refine ite_tt (chain_link (thn (hc.run pins s3 σ H3 _ I3 q3) fun w' s4 ⟨z', H4, I4, r4, q4⟩ => thn (ho' pins s4 σ H4 y z' u w' _ I4 r2 r4 q4) fun d5 s5 ⟨z5, H5, I5, r5, k5, e5, q5⟩ => ?_))
    subst e5
    cases r5
    refine wpAny_truthy_bool ?_
    cases k5 with
    | false => exact ite_ff ⟨.bl false, H5, I5, rfl, q5⟩
    | true => exact ite_tt (chain_last (thn (hd.run pins s5 σ H5 _ I5 q5) fun w2 s6 ⟨z6, H6, I6, r6, q6⟩ => ho'' pins s6 σ H6 z' z6 w' w2 Q I6 r4 r6 q6))
theorem ge_chain3 {d : Expr} {op op' op'' : CmpOp} {k l m : Bool} (ha : GE S a Γ τ Γ1 (.sh d1)) (hb : GE S b Γ1 (.sh d1 :: τ) Γ1 (.sh d2)) (ho : ∀ τ, OpG S (compareOp op) Γ1 τ (.sh d1) (.sh d2) Γ1 (.sh (.bool k)))
    (hc : k = true → GE S c Γ1 (.sh d2 :: τ) Γ1 (.sh d3) ∧ ∀ τ, OpG S (compareOp op') Γ1 τ (.sh d2) (.sh d3) Γ1 (.sh (.bool l)))
    (hd : k = true → l = true → GE S d Γ1 (.sh d3 :: τ) Γ1 (.sh d4) ∧ OpG S (compareOp op'') Γ1 τ (.sh d3) (.sh d4) Γ1 (.sh (.bool m))) (hm : lastMarks [op, op', op''] [b, c, d] = false) :
    GE S (.Compare a [op, op', op''] [b, c, d] pos) Γ τ Γ1 (.sh (.bool (k && (l && m)))) := by
  obtain ⟨ta, pa, ea⟩ := ha
  obtain ⟨tb, pb, eb⟩ := hb
  obtain ⟨r, po, rr⟩ := ho (.sh d2 :: τ)
  cases k with
  | true =>
    obtain ⟨⟨tc, pc, ec⟩, ho'⟩ := hc rfl
    obtain ⟨r', po', rr'⟩ := ho' (.sh d3 :: τ)
    cases l with
    | true =>
      obtain ⟨⟨td, pd, ed⟩, r'', po'', rr''⟩ := hd rfl rfl
      refine ⟨tChain3 r r' r'' ta tb tc td, fun X I => pe_chain3 (po X I) (po' X I) (po'' X I) (pa X I) (pb X I) (pc X I) (pd X I) hm, fun F G0 G H σ ws wk Q q => ea F G0 G H σ ws wk _ fun w1 G1 H1 wk1 => eb F G0 G1 H1 σ _ wk1 _ fun w2 G2 H2 wk2 => rr F G0 G2 H2 σ (w2 :: ws) w1 w2 wk2.dup2 _ fun w G3 H3 wk3 => ?_⟩
      have := wk3.top_sh
      cases this
      refine ⟨true, rfl, ?_⟩
      rw [if_pos rfl]
      refine ec F G0 G3 H3 σ _ wk3.drop _ fun w3 G4 H4 wk4 => rr' F G0 G4 H4 σ (w3 :: ws) w2 w3 wk4.dup2 _ fun w G5 H5 wk5 => ?_
      have := wk5.top_sh
      cases this
      refine ⟨true, rfl, ?_⟩
      rw [if_pos rfl]
      exact ed F G0 G5 H5 σ _ wk5.drop _ fun w6 G6 H6 wk6 => rr'' F G0 G6 H6 σ ws w3 w6 wk6 Q q
    | false =>
      refine ⟨tChain3 r r' (fun _ _ _ _ => False) ta tb tc _, fun X I => pe_chain3 (po X I) (po' X I) (fun _ _ _ _ _ _ _ _ _ _ _ _ h => h.elim) (pa X I) (pb X I) (pc X I) pe_nv hm, fun F G0 G H σ ws wk Q q => ea F G0 G H σ ws wk _ fun w1 G1 H1 wk1 => eb F G0 G1 H1 σ _ wk1 _ fun w2 G2 H2 wk2 => rr F G0 G2 H2 σ (w2 :: ws) w1 w2 wk2.dup2 _ fun w G3 H3 wk3 => ?_⟩
      have := wk3.top_sh
      cases this
      refine ⟨true, rfl, ?_⟩
      rw [if_pos rfl]
      refine ec F G0 G3 H3 σ _ wk3.drop _ fun w3 G4 H4 wk4 => rr' F G0 G4 H4 σ (w3 :: ws) w2 w3 wk4.dup2 _ fun w G5 H5 wk5 => ?_
      have := wk5.top_sh
      cases this
      refine ⟨false, rfl, ?_⟩
      rw [if_neg Bool.false_ne_true]
      exact q _ _ _ (wk5.drop.drop.sh (.bl _))
  | false =>
    refine ⟨tChain3 r (fun _ _ _ _ => False) (fun _ _ _ _ => False) ta tb _ _, fun X I => pe_chain3 (po X I) (fun _ _ _ _ _ _ _ _ _ _ _ _ h => h.elim) (fun _ _ _ _ _ _ _ _ _ _ _ _ h => h.elim) (pa X I) (pb X I) pe_nv pe_nv hm, fun F G0 G H σ ws wk Q q => ea F G0 G H σ ws wk _ fun w1 G1 H1 wk1 => eb F G0 G1 H1 σ _ wk1 _ fun w2 G2 H2 wk2 => rr F G0 G2 H2 σ (w2 :: ws) w1 w2 wk2.dup2 _ fun w G3 H3 wk3 => ?_⟩
    have := wk3.top_sh
    cases this
    refine ⟨false, rfl, ?_⟩
    rw [if_neg Bool.false_ne_true]
    exact q _ _ _ (wk3.drop.drop.sh (.bl _))
end
end Lf
set_option maxHeartbeats 4000000
namespace Lf
open PySem L2 Evl

/-! ### built-ins over data -/
def SqH (H : Hp) (p : Addr) (vs : List V) : Prop := H p = some (.lst vs) ∨ H p = some (.tup vs)
section
variable {X : Cx}
open PySem.W PyProof.Rows in
theorem each_of {H : Hp} : ∀ {vs : List V} {us : List Value} {ds : List D}, Vals vs us → DqAll H vs ds → PySem.W.EachIs (fun u d => ∃ v, RelV v u ∧ Dq H v d) us ds
  | _, _, _, .nil, .nil => .nil
  | _, _, _, .cons r t, .cons a b => .cons ⟨_, r, a⟩ (each_of t b)
theorem of_each {H : Hp} : ∀ {us : List Value} {ds : List D}, PySem.W.EachIs (fun u d => ∃ v, RelV v u ∧ Dq H v d) us ds → ∃ vs, Vals vs us ∧ DqAll H vs ds
  | _, _, .nil => ⟨[], .nil, .nil⟩
  | _, _, .cons ⟨v, r, a⟩ t => by
    obtain ⟨vs, r2, a2⟩ := of_each t
    exact ⟨v :: vs, .cons r r2, .cons a a2⟩
theorem each_reads {pins : List (Addr × Obj)} {σ : L2.St} {H : Hp} {s : Shared} (I : Inv X pins σ H s) : ∀ {vs : List V} {us : List Value} {ds : List D}, Vals vs us → DqAll H vs ds → PySem.W.EachIs (fun u d => ∃ as, Reads s.heap u d as) us ds
  | _, _, _, .nil, .nil => .nil
  | _, _, _, .cons r t, .cons a b => .cons (Dp.reads I _ _ _ (dq_dp (K := X.K) _ _ a) r) (each_reads I t b)
theorem Inv.seqH {pins : List (Addr × Obj)} {σ : L2.St} {H : Hp} {s : Shared} (I : Inv X pins σ H s) {p : Addr} {vs : List V} (h : SqH H p vs) :
    ∃ (its : List Value) (T : String) (o : Obj) (n : Nat), Vals vs its ∧ (T = "list" ∨ T = "tuple") ∧ s.heap.get? p = some o ∧ o.cls = .type T ∧ o.data = .seq its.toArray n ∧ vs.length ≤ sizeLine ∧
      ((T = "list" ∧ s.heap.IsList p its.toArray) ∨ (T = "tuple" ∧ s.heap.IsTuple p its.toArray)) := by
  rcases h with h | h
  · obtain ⟨its, r, pl, z⟩ := I.list (sq_of h)
    obtain ⟨o, ho, hc, n, hd⟩ := id pl.isList
    exact ⟨its, "list", o, n, r, .inl rfl, ho, hc, hd, z, .inl ⟨rfl, pl.isList⟩⟩
  · obtain ⟨its, r, pl, z⟩ := I.tuple (st_of h)
    obtain ⟨o, ho, hc, n, hd⟩ := id pl
    exact ⟨its, "tuple", o, n, r, .inr rfl, ho, hc, hd, z, .inr ⟨rfl, o, ho, hc, n, hd⟩⟩
/-- sorted(x) of alike data -/
def rSortD : List V → Hp → VK → Prop := fun xs H Q => ∃ (p : Addr) (vs : List V) (ds : List D) (G : Hp), Ex G H ∧ xs = [.ref p] ∧ SqH H p vs ∧ DqAll G vs ds ∧ PySem.W.AllAlike ds ∧ PySem.W.Sortable ds ∧ (∀ d, d ∈ ds → d.depth ≤ 40) ∧
  ∀ l ys, H l = none → DqAll G ys (ds.mergeSort (PySem.W.dataLe false id)) → Q (.ref l) (upd H l (.lst ys))
open PySem.W PyProof.Rows PySem.Calls in
theorem cr_sortD (hu : X.A.units + 64 < cLine) : CallR X (.builtin "sorted") rSortD := by
  intro pins s σ H xs us Q I r h
  obtain ⟨p, vs, ds, G, gh, rfl, hp, hd, hal, hso, hdep, q⟩ := h
  obtain ⟨u, rfl, ru⟩ := vals1 r
  cases ru
  obtain ⟨its, T, o, n, rv, hT, ho, hc, hdat, hz, _⟩ := Inv.seqH I hp
  have lenI : its.length = ds.length := by rw [← rv.length, dpa_len hd]
  have hL : its.length ≤ sizeLine := by rw [← rv.length]; exact hz
  refine call_function_entry_kw kind_sorted plain_sorted entry_sorted (args_sorted1 _) ?_
  unfold Builtin.«sorted»
  refine wpAny_bind (m := checkCount "sorted" 1 1 _) (wpAny_pure ?_)
  refine wpAny_bind (wpAny_collect_seq p hT ho hc hdat (fun h1 k1 => ?_) (by simpa using hL))
  have I1 : Inv X pins σ H { s with heap := h1 } := I.kept (t' := s.toks) k1
  refine wpAny_bind (wpAny_newList ?_ (by simpa using hL))
  have E1 := each_of rv hd
  have hoL : (h1.push (seqObj "list" its.toArray 0)).get? h1.objs.size = some (seqObj "list" its.toArray 0) := Heap.get?_push_size _ rfl
  have kk : ∀ b ob, h1.get? b = some ob → (h1.push (seqObj "list" its.toArray 0)).get? b = some ob := fun b ob e => Heap.get?_push_of_some _ e
  have er : EachIs (fun v b => ∃ as, Reads (sortingHeap (h1.push (seqObj "list" its.toArray 0)) h1.objs.size its) v b as) its ds := (each_reads I1 rv (dpa_ex gh _ _ hd)).mono fun _ _ ⟨as, r⟩ =>
    ⟨as, PyProof.Rows.Reads.keeps (fun b ob e => sortingHeap_old (Nat.ne_of_lt (Heap.lt_size e)) (kk b ob e)) r⟩
  refine wpAny_bind (wpAny_holding (wpAny_call_entry_kw slot_list_sort ⟨_, hoL, rfl⟩ entry_list_sort ?body (args_list_sort _)))
  case body =>
    show wpAny (model X.prog X.w) X.A.in1.in1 (Builtin.«list.sort» ⟨[.ref h1.objs.size], []⟩) _ _ _
    refine wpAny_mono (list_sort_vals (s := { s with heap := h1.push (seqObj "list" its.toArray 0) }) (κ := dataKind (sortingHeap (h1.push (seqObj "list" its.toArray 0)) h1.objs.size its) ds)
      (P := fun f s' => f = .done (.ret .none) ∧ s' = { s with heap := sortedHeap (h1.push (seqObj "list" its.toArray 0)) h1.objs.size its (sortVals (dataKind (sortingHeap (h1.push (seqObj "list" its.toArray 0)) h1.objs.size its) ds) false its its).toArray }) hoL
      (SortsAt.data (s := { s with heap := sortingHeap (h1.push (seqObj "list" its.toArray 0)) h1.objs.size its }) er hal hso (fun d hd => by have := hdep d hd; show X.A.units + 2 + d.depth < cLine; omega)) hL ⟨rfl, rfl⟩) (fun f s' hf => ?_) fun _ _ e => e
    obtain ⟨rfl, rfl⟩ := hf
    refine ⟨_, rfl, wpAny_pure ⟨_, rfl, ?_⟩⟩
    have hid : ds.map id = ds := by simp
    have ES := sortVals_data (enc := id) false E1 (h' := sortingHeap (h1.push (seqObj "list" its.toArray 0)) h1.objs.size its) er (by rw [hid]; exact hal)
    rw [hid] at ES
    obtain ⟨ys, r2, a2⟩ := of_each ES
    obtain ⟨ep, he⟩ := sortedHeap_at (out := (sortVals (dataKind (sortingHeap (h1.push (seqObj "list" its.toArray 0)) h1.objs.size its) ds) false its its).toArray) hoL
    have hlen : ys.length ≤ sizeLine := by
      rw [dpa_len a2, List.length_mergeSort, ← dpa_len hd]; exact hz
    refine ⟨.ref h1.objs.size, upd H h1.objs.size (.lst ys), I1.laid (t' := s.toks) (fun b ob e1 => ?_) (Nat.le_refl _) ⟨hlen, _, ep, r2, he⟩, rfl, q _ _ (I1.hok.fresh (Nat.le_refl _)) (by simpa using a2)⟩
    rw [sortedHeap_old (Nat.ne_of_lt (Heap.lt_size e1)) (by rw [size_push']; exact Nat.lt_succ_of_lt (Heap.lt_size e1))]
    exact kk b ob e1
/-- sum of ints, of a list or a tuple -/
def rSumH : List V → Hp → VK → Prop := fun xs H Q => ∃ (p : Addr) (ns : List Int), xs = [.ref p] ∧ SqH H p (ns.map V.int) ∧ Q (.int ns.sum) H
open PySem.W PyProof.Rows PySem.Calls in
theorem cr_sumH (hc : X.calm = true) : CallR X (.builtin "sum") rSumH := by
  intro pins s σ H xs us Q I r h
  obtain ⟨p, ns, rfl, hp, q⟩ := h
  obtain ⟨u, rfl, ru⟩ := vals1 r
  cases ru
  obtain ⟨its, T, o, n, rv, hT, ho, hcl, hdat, hz, hor⟩ := Inv.seqH I hp
  have hi := rv.ints
  rcases hor with ⟨_, hl⟩ | ⟨_, ht⟩
  · exact sum_raw (I.ok.hd hc) hl hi fun h' tk t' hk => ⟨.int _, H, I.kept hk, ⟨_, rfl⟩, q⟩
  · obtain ⟨xs, e⟩ := hi.allInts.items
    have hn : numsOf (intItems xs).toList = ns := by rw [← e]; exact hi.numsOf
    rw [nums_intItems] at hn
    rw [show its.toArray = intItems xs from e] at ht
    refine ktm_sumG (I.ok.hd hc) ht fun h' tk t' hk => ⟨.int _, H, I.kept hk, ⟨t', ?_⟩, q⟩
    rw [preSum_eq, List.take_of_length_le (by simp), hn]
/-- max, min of ints, of a list or a tuple -/
def rMaxH : List V → Hp → VK → Prop := fun xs H Q => ∃ (p : Addr) (n : Int) (ns : List Int), xs = [.ref p] ∧ SqH H p (V.int n :: ns.map V.int) ∧ Q (.int (ns.foldl max n)) H
def rMinH : List V → Hp → VK → Prop := fun xs H Q => ∃ (p : Addr) (n : Int) (ns : List Int), xs = [.ref p] ∧ SqH H p (V.int n :: ns.map V.int) ∧ Q (.int (ns.foldl min n)) H
theorem dqa_ints {H : Hp} : ∀ ns : List Int, DqAll H (ns.map V.int) (ns.map PyData.int)
  | [] => .nil
  | _ :: ns => .cons (.int _) (dqa_ints ns)
theorem depth_ints : ∀ ns : List Int, PyData.depthAll (ns.map PyData.int) = 0
  | [] => rfl
  | n :: ns => by simp [PyData.depthAll, PyData.depth, depth_ints ns]
open PySem.W PyProof.Rows PySem.Calls in
theorem alike_ints (ns : List Int) : PySem.W.AlikeAll (ns.map PyData.int) := by
  refine ⟨fun x hx y hy => ?_, fun x hx => ?_⟩
  · obtain ⟨a, _, rfl⟩ := List.mem_map.mp hx
    obtain ⟨b, _, rfl⟩ := List.mem_map.mp hy
    rfl
  · obtain ⟨a, _, rfl⟩ := List.mem_map.mp hx
    intro z; cases z
open PySem.W PyProof.Rows PySem.Calls in
theorem cr_maxH (hc : X.calm = true) (hu : X.A.units + 64 < cLine) : CallR X (.builtin "max") rMaxH := by
  intro pins s σ H xs us Q I r h
  obtain ⟨p, m, ns, rfl, hp, q⟩ := h
  obtain ⟨u, rfl, ru⟩ := vals1 r
  cases ru
  obtain ⟨its, T, o, n, rv, hT, ho, hcl, hdat, hz, hor⟩ := Inv.seqH I hp
  have hd : DqAll H (V.int m :: ns.map V.int) (PyData.int m :: ns.map PyData.int) := .cons (.int m) (dqa_ints ns)
  obtain ⟨as, hr⟩ := Dp.readsAll I _ _ its (dqa_dpa (K := X.K) _ _ hd) rv
  have hal := alike_ints (m :: ns)
  have hdep : PyData.depthAll (PyData.int m :: ns.map PyData.int) = 0 := depth_ints (m :: ns)
  have fin : ∀ (v : Value) (h' : Heap) (tk : Nat) (bs : List Addr), Reads h' v (maxD (PyData.int m) (ns.map PyData.int)) bs → (∀ b o, s.heap.get? b = some o → h'.get? b = some o) → EP X pins σ Q v { s with heap := h', toks := tk } := fun v h' tk bs hrd hk => by
    rw [maxD_ints] at hrd
    cases hrd
    exact ⟨.int _, H, I.kept hk, ⟨_, rfl⟩, q⟩
  rcases hor with ⟨_, hl⟩ | ⟨_, ht⟩
  · exact max_list_data (I.ok.hd hc) hl (by simpa using hr) hal (by rw [hdep]; omega) fun i v h' tk bs _ hrd hk => fin v h' tk bs hrd hk
  · exact max_tuple_data (I.ok.hd hc) ht (by simpa using hr) hal (by rw [hdep]; omega) fun i v h' tk bs _ hrd hk => fin v h' tk bs hrd hk
open PySem.W PyProof.Rows PySem.Calls in
theorem cr_minH (hc : X.calm = true) (hu : X.A.units + 64 < cLine) : CallR X (.builtin "min") rMinH := by
  intro pins s σ H xs us Q I r h
  obtain ⟨p, m, ns, rfl, hp, q⟩ := h
  obtain ⟨u, rfl, ru⟩ := vals1 r
  cases ru
  obtain ⟨its, T, o, n, rv, hT, ho, hcl, hdat, hz, hor⟩ := Inv.seqH I hp
  have hd : DqAll H (V.int m :: ns.map V.int) (PyData.int m :: ns.map PyData.int) := .cons (.int m) (dqa_ints ns)
  obtain ⟨as, hr⟩ := Dp.readsAll I _ _ its (dqa_dpa (K := X.K) _ _ hd) rv
  have hal := alike_ints (m :: ns)
  have hdep : PyData.depthAll (PyData.int m :: ns.map PyData.int) = 0 := depth_ints (m :: ns)
  have fin : ∀ (v : Value) (h' : Heap) (tk : Nat) (bs : List Addr), Reads h' v (minD (PyData.int m) (ns.map PyData.int)) bs → (∀ b o, s.heap.get? b = some o → h'.get? b = some o) → EP X pins σ Q v { s with heap := h', toks := tk } := fun v h' tk bs hrd hk => by
    rw [minD_ints] at hrd
    cases hrd
    exact ⟨.int _, H, I.kept hk, ⟨_, rfl⟩, q⟩
  rcases hor with ⟨_, hl⟩ | ⟨_, ht⟩
  · exact min_list_data (I.ok.hd hc) hl (by simpa using hr) hal (by rw [hdep]; omega) fun i v h' tk bs _ hrd hk => fin v h' tk bs hrd hk
  · exact min_tuple_data (I.ok.hd hc) ht (by simpa using hr) hal (by rw [hdep]; omega) fun i v h' tk bs _ hrd hk => fin v h' tk bs hrd hk
/-- x in a list or tuple of data -/
def rInH (neg : Bool) : R2 := fun x y H Q => ∃ (p : Addr) (vs : List V) (d : D) (ds : List D), y = .ref p ∧ SqH H p vs ∧ DqAll H vs ds ∧ Dq H x d ∧ PyData.canLayAll0 ds = true ∧ d.canLay0 = true ∧ d.depth ≤ 20 ∧ Q (.bl (if neg then !ds.any (fun z => PyData.eqv z d) else ds.any fun z => PyData.eqv z d)) H
theorem op_inH (hu : X.A.units + 64 < cLine) : OpR X (compareOp .In) (rInH false) := by
  intro pins s σ H x y v u Q I rx ry h
  obtain ⟨p, vs, d, ds, rfl, hp, ha, hd, l1, l2, hdep, q⟩ := h
  obtain ⟨as, r1⟩ := Dp.reads I d x v (dq_dp (K := X.K) _ _ hd) rx
  have hroom : X.A.units + 1 + min (PyData.depthAll ds) d.depth < cLine := by
    have := Nat.min_le_right (PyData.depthAll ds) d.depth
    omega
  rcases hp with hp | hp
  · obtain ⟨bs, r2⟩ := Dp.reads I (.list ds) _ u (dq_dp (K := X.K) _ _ (.lst hp ha)) ry
    exact SeqAt.in_list_reads r2 r1 l1 l2 hroom ⟨.bl _, H, I, rfl, q⟩
  · obtain ⟨bs, r2⟩ := Dp.reads I (.tuple ds) _ u (dq_dp (K := X.K) _ _ (.tup hp ha)) ry
    exact SeqAt.in_tuple_reads r2 r1 l1 l2 hroom ⟨.bl _, H, I, rfl, q⟩
theorem op_notInH (hu : X.A.units + 64 < cLine) : OpR X (compareOp .NotIn) (rInH true) := by
  intro pins s σ H x y v u Q I rx ry h
  obtain ⟨p, vs, d, ds, rfl, hp, ha, hd, l1, l2, hdep, q⟩ := h
  obtain ⟨as, r1⟩ := Dp.reads I d x v (dq_dp (K := X.K) _ _ hd) rx
  have hroom : X.A.units + 1 + min (PyData.depthAll ds) d.depth < cLine := by
    have := Nat.min_le_right (PyData.depthAll ds) d.depth
    omega
  rcases hp with hp | hp
  · obtain ⟨bs, r2⟩ := Dp.reads I (.list ds) _ u (dq_dp (K := X.K) _ _ (.lst hp ha)) ry
    exact SeqAt.notIn_list_reads r2 r1 l1 l2 hroom ⟨.bl _, H, I, rfl, q⟩
  · obtain ⟨bs, r2⟩ := Dp.reads I (.tuple ds) _ u (dq_dp (K := X.K) _ _ (.tup hp ha)) ry
    exact SeqAt.notIn_tuple_reads r2 r1 l1 l2 hroom ⟨.bl _, H, I, rfl, q⟩
end

/-! ### by slots: operations -/
section
variable {S : Stat} {Γ Γ1 Γ2 Γ3 τ : List Sl} {s s1 s2 s3 : Sl} {a b c e : Expr} {es : List Expr} {pos : Pos} {d : D} {ds : List D}
theorem WkO.rdh {K : PySem.W.Frag} {F G0 G H : Hp} {σ : L2.St} {ws : List V} {O : Own} {w : V} (a : WkO K F G0 Γ τ G H σ ws O) {id : Id} (h : Ok K G H σ O id w s) (r : RdS Γ s ds) : ∃ p vs, w = .ref p ∧ SqH H p vs ∧ DqAll G vs ds := a.rds h r
theorem og_in {dss : List D} (r : RdS Γ s2 dss) (l1 : PyData.canLayAll0 dss = true) (l2 : d.canLay0 = true) (l3 : d.depth ≤ 20) : OpG S (compareOp .In) Γ τ (.sh d) s2 Γ (.sh (.bool (dss.any fun z => PyData.eqv z d))) :=
  ⟨rInH false, fun X I => op_inH I.hu, fun F G0 G H σ ws w1 w2 wk Q q => by
    obtain ⟨O, A⟩ := id wk
    obtain ⟨p, vs, e, hp, B⟩ := A.rdh A.ts.1 r
    exact ⟨p, vs, d, dss, e, hp, dpa_ex wk.gh _ _ B, dp_ex wk.gh _ _ wk.drop.top_sh, l1, l2, l3, q _ G H (wk.drop.drop.sh (.bl _))⟩⟩
theorem og_notIn {dss : List D} (r : RdS Γ s2 dss) (l1 : PyData.canLayAll0 dss = true) (l2 : d.canLay0 = true) (l3 : d.depth ≤ 20) : OpG S (compareOp .NotIn) Γ τ (.sh d) s2 Γ (.sh (.bool (!dss.any fun z => PyData.eqv z d))) :=
  ⟨rInH true, fun X I => op_notInH I.hu, fun F G0 G H σ ws w1 w2 wk Q q => by
    obtain ⟨O, A⟩ := id wk
    obtain ⟨p, vs, e, hp, B⟩ := A.rdh A.ts.1 r
    exact ⟨p, vs, d, dss, e, hp, dpa_ex wk.gh _ _ B, dp_ex wk.gh _ _ wk.drop.top_sh, l1, l2, l3, q _ G H (wk.drop.drop.sh (.bl _))⟩⟩
/-- data compared, wherever they stand: lists -/
theorem og_eqL {ds es : List D} (r1 : RdL Γ s1 ds) (r2 : RdL Γ s2 es) (h1 : SeqAt.shaped (.list ds) = true) (h2 : SeqAt.shaped (.list es) = true) : OpG S (compareOp .Eq) Γ τ s1 s2 Γ (.sh (.bool (PyData.eqv (.list ds) (.list es)))) :=
  ⟨rEqD S.K, fun X I => by rw [← I.K]; exact op_eqD I.hu, fun F G0 G H σ ws w1 w2 wk Q q => by
    obtain ⟨O, A⟩ := id wk
    obtain ⟨p, vs, e, hp, B⟩ := A.rdl A.ts.2.1 r1
    obtain ⟨p2, vs2, e2, hp2, B2⟩ := A.rdl A.ts.1 r2
    subst e e2
    exact ⟨_, _, dq_dp _ _ (.lst hp (dpa_ex wk.gh _ _ B)), dq_dp _ _ (.lst hp2 (dpa_ex wk.gh _ _ B2)), h1, h2, q _ G H (wk.drop.drop.sh (.bl _))⟩⟩
theorem og_neL {ds es : List D} (r1 : RdL Γ s1 ds) (r2 : RdL Γ s2 es) (h1 : SeqAt.shaped (.list ds) = true) (h2 : SeqAt.shaped (.list es) = true) : OpG S (compareOp .NotEq) Γ τ s1 s2 Γ (.sh (.bool (!PyData.eqv (.list ds) (.list es)))) :=
  ⟨rNeD S.K, fun X I => by rw [← I.K]; exact op_neD I.hu, fun F G0 G H σ ws w1 w2 wk Q q => by
    obtain ⟨O, A⟩ := id wk
    obtain ⟨p, vs, e, hp, B⟩ := A.rdl A.ts.2.1 r1
    obtain ⟨p2, vs2, e2, hp2, B2⟩ := A.rdl A.ts.1 r2
    subst e e2
    exact ⟨_, _, dq_dp _ _ (.lst hp (dpa_ex wk.gh _ _ B)), dq_dp _ _ (.lst hp2 (dpa_ex wk.gh _ _ B2)), h1, h2, q _ G H (wk.drop.drop.sh (.bl _))⟩⟩
theorem og_catL {ds es : List D} (r1 : RdL Γ s1 ds) (r2 : RdL Γ s2 es) (hl : ds.length + es.length ≤ 100000) : OpG S (binaryOp .Add) Γ τ s1 s2 Γ (.ol (ds ++ es)) :=
  ⟨rCat, fun X I => op_cat, fun F G0 G H σ ws w1 w2 wk Q q => by
    obtain ⟨O, A⟩ := id wk
    obtain ⟨p, vs, e, hp, B⟩ := A.rdl A.ts.2.1 r1
    obtain ⟨p2, vs2, e2, hp2, B2⟩ := A.rdl A.ts.1 r2
    exact ⟨p, p2, vs, vs2, e, e2, hp, hp2, sz_of' (by rw [dpa_len B, dpa_len B2]; exact hl), fun pn hpn => q _ _ _ (wk.drop.drop.newL hpn (dpa_app B B2))⟩⟩
theorem og_catT {ds es : List D} (r1 : RdT s1 ds) (r2 : RdT s2 es) (hl : ds.length + es.length ≤ 100000) : OpG S (binaryOp .Add) Γ τ s1 s2 Γ (.sh (.tuple (ds ++ es))) :=
  ⟨rCatA S.K, fun X I => by rw [← I.K]; exact op_catA, fun F G0 G H σ ws w1 w2 wk Q q => by
    obtain ⟨O, A⟩ := id wk
    obtain ⟨p, vs, e, hp, B⟩ := A.rdt A.ts.2.1 r1
    obtain ⟨p2, vs2, e2, hp2, B2⟩ := A.rdt A.ts.1 r2
    subst e e2
    refine ⟨p, p2, vs, vs2, rfl, rfl, st_of hp, st_of hp2, sz_of' (by rw [dpa_len B, dpa_len B2]; exact hl), fun z => ?_, fun _ z => ?_, fun _ _ pn hpn => q _ _ _ (wk.drop.drop.newT hpn (dpa_app B B2))⟩
    · subst z
      cases B
      cases r2
      exact q _ G H (wk.drop.drop.sh wk.top_sh)
    · subst z
      cases B2
      rw [List.append_nil] at q
      cases r1
      exact q _ G H (wk.drop.drop.sh wk.drop.top_sh)⟩
theorem dpa_rep {H : Hp} {v : V} {d : D} (h : Dq H v d) : ∀ n : Nat, DqAll H (List.replicate n v) (List.replicate n d)
  | 0 => .nil
  | n + 1 => .cons h (dpa_rep h n)
theorem rep_flat {α : Type} (x : α) : ∀ n : Nat, (List.replicate n [x]).flatten = List.replicate n x
  | 0 => rfl
  | n + 1 => by rw [List.replicate_succ, List.flatten_cons, rep_flat x n]; rfl
/-- (x,) * n -/
theorem og_mulT {n : Int} (h2 : 2 ≤ n) (hn : n ≤ 1000) : OpG S (binaryOp .Mult) Γ τ (.sh (.tuple [d])) (.sh (.int n)) Γ (.sh (.tuple (List.replicate n.toNat d))) :=
  ⟨rRepT S.K, fun X I => by rw [← I.K]; exact op_repT, fun F G0 G H σ ws w1 w2 wk Q q => by
    obtain ⟨O, A⟩ := id wk
    obtain ⟨p, vs, e, hp, B⟩ := A.rdt A.ts.2.1 .sh
    have hi := wk.top_sh
    cases hi
    cases B with
    | cons hv t =>
      cases t
      refine ⟨p, n, _, e, rfl, st_of hp, by simp, h2, hn, by simp, fun pn hpn => ?_⟩
      rw [rep_flat]
      exact q _ _ _ (wk.drop.drop.newT hpn (dpa_rep hv _))⟩
theorem og_mulL {n : Int} (h2 : 0 ≤ n) (hn : n ≤ 1000) (r : RdL Γ s1 [d]) : OpG S (binaryOp .Mult) Γ τ s1 (.sh (.int n)) Γ (.ol (List.replicate n.toNat d)) :=
  ⟨rRep, fun X I => op_rep, fun F G0 G H σ ws w1 w2 wk Q q => by
    obtain ⟨O, A⟩ := id wk
    obtain ⟨p, vs, e, hp, B⟩ := A.rdl A.ts.2.1 r
    have hi := wk.top_sh
    cases hi
    cases B with
    | cons hv t =>
      cases t
      refine ⟨p, n, _, e, rfl, hp, by omega, by omega, sz_of' (by simp; omega), fun pn hpn => ?_⟩
      rw [rep_flat]
      exact q _ _ _ (wk.drop.drop.newL hpn (dpa_rep hv _))⟩
/-! is None, is True -/
def isN : D → Bool
  | .none => true
  | _ => false
theorem dq_isN {H : Hp} {w : V} (h : Dq H w d) : decide (w = .non) = isN d := by cases h <;> rfl
theorem og_isN : OpG S (compareOp .Is) Γ τ (.sh d) (.sh .none) Γ (.sh (.bool (isN d))) := ⟨_, fun _ _ => op_isN, rr_shv fun G H w1 w2 _ h1 h2 => by cases h2; exact ⟨.bl (isN d), .bl _, fun Q q => ⟨rfl, by rw [dq_isN h1]; exact q⟩⟩⟩
theorem og_notN : OpG S (compareOp .IsNot) Γ τ (.sh d) (.sh .none) Γ (.sh (.bool (!isN d))) := ⟨_, fun _ _ => op_notN, rr_shv fun G H w1 w2 _ h1 h2 => by cases h2; exact ⟨.bl (!isN d), .bl _, fun Q q => ⟨rfl, by rw [dq_isN h1]; exact q⟩⟩⟩
theorem og_isB {i j : Bool} : OpG S (compareOp .Is) Γ τ (.sh (.bool i)) (.sh (.bool j)) Γ (.sh (.bool (decide (i = j)))) := ⟨_, fun _ _ => op_isBl, rr_shv fun G H w1 w2 _ h1 h2 => by cases h1; cases h2; exact ⟨.bl (decide (i = j)), .bl _, fun Q q => ⟨i, j, rfl, rfl, q⟩⟩⟩
theorem og_notB {i j : Bool} : OpG S (compareOp .IsNot) Γ τ (.sh (.bool i)) (.sh (.bool j)) Γ (.sh (.bool (!decide (i = j)))) := ⟨_, fun _ _ => op_notBl, rr_shv fun G H w1 w2 _ h1 h2 => by cases h1; cases h2; exact ⟨.bl (!decide (i = j)), .bl _, fun Q q => ⟨i, j, rfl, rfl, q⟩⟩⟩

/-! ### calls of built-ins -/
def RA (K : PySem.W.Frag) (r : List V → Hp → VK → Prop) (Γ τ ss Γ' : List Sl) (s : Sl) : Prop :=
  ∀ F G0 G H σ ws vs, vs.length = ss.length → Wk K F G0 Γ (ss.reverse ++ τ) G H σ (vs.reverse ++ ws) → ∀ Q : VK, (∀ w G' H', Wk K F G0 Γ' (s :: τ) G' H' σ (w :: ws) → Q w H') → r vs H Q
theorem ra1 {r : List V → Hp → VK → Prop} (h : ∀ F G0 G H σ ws w, Wk S.K F G0 Γ (s1 :: τ) G H σ (w :: ws) → ∀ Q : VK, (∀ w G' H', Wk S.K F G0 Γ1 (s :: τ) G' H' σ (w :: ws) → Q w H') → r [w] H Q) : RA S.K r Γ τ [s1] Γ1 s :=
  fun F G0 G H σ ws vs hl wk Q q => by
    match vs, hl with
    | [w], _ => exact h F G0 G H σ ws w wk Q q
theorem ra2 {r : List V → Hp → VK → Prop} (h : ∀ F G0 G H σ ws w1 w2, Wk S.K F G0 Γ (s2 :: s1 :: τ) G H σ (w2 :: w1 :: ws) → ∀ Q : VK, (∀ w G' H', Wk S.K F G0 Γ1 (s :: τ) G' H' σ (w :: ws) → Q w H') → r [w1, w2] H Q) : RA S.K r Γ τ [s1, s2] Γ1 s :=
  fun F G0 G H σ ws vs hl wk Q q => by
    match vs, hl with
    | [w1, w2], _ => exact h F G0 G H σ ws w1 w2 wk Q q
variable {x : Str} {p : Pos} {id T : String} {ss : List Sl} {r : List V → Hp → VK → Prop}
theorem ge_callB (hc : ∀ X, S.Is X → CallR X (.builtin id) r) (hg : S.names.lookup x = some .globalImplicit) (hm : S.mg x = none) (hv : bootBuiltins x = some (.builtin id)) (ha : GA S (e :: es) Γ τ Γ1 ss) (hr : RA S.K r Γ1 τ ss Γ2 s)
    (hn : x ≠ "__name__") (hdb : (x == ("__debug__" : Str)) = false) (he : ∀ env, starEach (e :: es) env = (false, eval e env) :: starEach es env) (hpl : ∀ env, (backTo pos (starEach es env)).any (·.1) = false) : GE S (.Call (.Name x p) (e :: es) [] pos) Γ τ Γ2 s := by
  obtain ⟨ta, pa, ea⟩ := ha
  exact ⟨tCB r ta, fun X I => pe_callB (hc X I) (I.gl hg) (by rw [I.mg]; exact hm) hv (pa X I) hn hdb (he _) (hpl _), fun F G0 G H σ ws wk Q q => ea F G0 G H σ ws wk _ fun vs G1 H1 hl wk1 => hr F G0 G1 H1 σ ws vs hl wk1 Q q⟩
theorem ge_callTy (hc : ∀ X, S.Is X → CallR X (.type T) r) (hg : S.names.lookup x = some .globalImplicit) (hm : S.mg x = none) (hv : bootBuiltins x = some (.type T)) (ha : GA S (e :: es) Γ τ Γ1 ss) (hr : RA S.K r Γ1 τ ss Γ2 s)
    (hn : x ≠ "__name__") (hdb : (x == ("__debug__" : Str)) = false) (he : ∀ env, starEach (e :: es) env = (false, eval e env) :: starEach es env) (hpl : ∀ env, (backTo pos (starEach es env)).any (·.1) = false) : GE S (.Call (.Name x p) (e :: es) [] pos) Γ τ Γ2 s := by
  obtain ⟨ta, pa, ea⟩ := ha
  exact ⟨tCB r ta, fun X I => pe_callTy (hc X I) (I.gl hg) (by rw [I.mg]; exact hm) hv (pa X I) hn hdb (he _) (hpl _), fun F G0 G H σ ws wk Q q => ea F G0 G H σ ws wk _ fun vs G1 H1 hl wk1 => hr F G0 G1 H1 σ ws vs hl wk1 Q q⟩
end
end Lf
set_option maxHeartbeats 4000000
namespace Lf
open PySem L2 Evl

section
variable {S : Stat} {Γ Γ1 Γ2 Γ3 τ : List Sl} {s s1 s2 s3 : Sl} {a b c e : Expr} {es : List Expr} {pos p p2 : Pos} {d : D} {ds : List D}
abbrev GlB (S : Stat) (x : Str) : Prop := S.names.lookup x = some .globalImplicit
theorem ge_len (hg : GlB S "len") (hm : S.mg "len" = none) (ha : GE S e Γ τ Γ1 s) (r : RdS Γ1 s ds) (he : ∀ env, starEach [e] env = (false, eval e env) :: starEach [] env) : GE S (.Call (.Name "len" p) [e] [] pos) Γ τ Γ1 (.sh (.int ds.length)) :=
  ge_callB (r := fun xs H Q => ∃ p ys, xs = [.ref p] ∧ (SqL S.K H p ys ∨ SqT S.K H p ys) ∧ Q (.int ys.length) H) (fun X I => by rw [← I.K]; exact call_len_seq) hg hm PySem.boot_len (ga_cons ha ga_nil he) (ra1 fun F G0 G H σ ws w wk Q q => by
    obtain ⟨O, A⟩ := id wk
    obtain ⟨p, vs, e, hp, B⟩ := A.rdh A.ts.1 r
    subst e
    refine ⟨p, vs, rfl, hp.imp sq_of st_of, ?_⟩
    rw [dpa_len B]
    exact q _ G H (wk.drop.sh (.int _))) (by decide) (by decide) he (fun _ => rfl)
theorem ge_lenD {i : Nat} {kvs : List (Key × D)} (hg : GlB S "len") (hm : S.mg "len" = none) (ha : GE S e Γ τ Γ1 (.bo i)) (hi : Γ1[i]? = some (.od kvs)) (he : ∀ env, starEach [e] env = (false, eval e env) :: starEach [] env) : GE S (.Call (.Name "len" p) [e] [] pos) Γ τ Γ1 (.sh (.int kvs.length)) :=
  ge_callB (fun X I => call_lenD) hg hm PySem.boot_len (ga_cons ha ga_nil he) (ra1 fun F G0 G H σ ws w wk Q q => by
    obtain ⟨O, A⟩ := id wk
    have hw : σ[i]? = some (some w) := A.ts.1.2
    rcases A.sl i _ hi with z | ⟨w', e, p, vs, e2, o, hpp, B⟩
    · cases z
    · rw [hw] at e; cases e
      refine ⟨p, vs, by rw [e2], hpp, ?_⟩
      rw [Paired.length B]
      exact q _ G H (wk.drop.sh (.int _))) (by decide) (by decide) he (fun _ => rfl)
/-- the built-in type of data -/
def tyD : D → String
  | .none => "NoneType"
  | .bool _ => "bool"
  | .int _ => "int"
  | .str _ => "str"
  | .list _ => "list"
  | .tuple _ => "tuple"
  | .dict _ => "dict"
theorem dq_ty {K : PySem.W.Frag} {H : Hp} {w : V} (h : Dq H w d) : TyX K H w (.type (tyD d)) := by
  cases h with
  | non => exact .base .non
  | bl b => exact .base (.bl b)
  | int b => exact .base (.int b)
  | str b => exact .base (.str b)
  | lst h _ => exact .base (.lst h)
  | tup h _ => exact .base (.tup h)
theorem ge_isi {T : String} {x : Str} {k : Bool} (hg : GlB S "isinstance") (hm : S.mg "isinstance" = none) (hgT : GlB S x) (hmT : S.mg x = none) (hv : bootBuiltins x = some (.type T)) (ha : GE S e Γ τ Γ1 (.sh d)) (hk : kitB (tyD d) T = some k)
    (he : ∀ env, starEach (e :: [.Name x p2]) env = (false, eval e env) :: starEach [.Name x p2] env) (hn : x ≠ "__name__") (hdb : (x == ("__debug__" : Str)) = false) : GE S (.Call (.Name "isinstance" p) [e, .Name x p2] [] pos) Γ τ Γ1 (.sh (.bool k)) := by
  obtain ⟨te, pe, ee⟩ := ha
  refine ⟨tCB (rIsi S.K) (tCons te (tCons (tC (.ty T)) tNil)), fun X I => ?_, fun F G0 G H σ ws wk Q q => ee F G0 G H σ ws wk _ fun w G1 H1 wk1 => ?_⟩
  · rw [← I.K]
    exact pe_callB call_isi (I.gl hg) (by rw [I.mg]; exact hm) (by decide +kernel) (pa_cons (pe X I) (pa_cons (pe_bltn (I.gl hgT) (by rw [I.mg]; exact hmT) hv rfl hn hdb) pa_nil rfl) (he _)) (by decide) (by decide) (he _) (by rfl)
  · exact ⟨w, .ty T, .type (tyD d), .type T, k, rfl, .ty T, dq_ty (dp_ex wk1.gh _ _ wk1.top_sh), kit_ty hk, q _ G1 H1 (wk1.drop.sh (.bl _))⟩
/-! all, any of a list of bools -/
theorem ge_all {L : List α} {g : α → D} {k : α → Bool} (hg : GlB S "all") (hm : S.mg "all" = none) (ha : GE S e Γ τ Γ1 s) (r : RdL Γ1 s (L.map g)) (hk : ∀ x, g x = .bool (k x)) (he : ∀ env, starEach [e] env = (false, eval e env) :: starEach [] env) :
    GE S (.Call (.Name "all" p) [e] [] pos) Γ τ Γ1 (.sh (.bool (L.all k))) :=
  ge_callB (r := rAll S.K) (fun X I => by rw [← I.K]; exact cr_all I.calm) hg hm (by decide +kernel) (ga_cons ha ga_nil he) (ra1 fun F G0 G H σ ws w wk Q q => by
    obtain ⟨O, A⟩ := id wk
    obtain ⟨p, vs, e, hp, B⟩ := A.rdl A.ts.1 r
    have eg : L.map g = (L.map k).map PyData.bool := by rw [List.map_map]; exact List.map_congr_left fun x _ => hk x
    rw [eg] at B
    have := dpa_bls_inv B
    subst e this
    refine ⟨p, L.map k, rfl, sq_of hp, ?_⟩
    rw [List.all_map]
    exact q _ G H (wk.drop.sh (.bl _))) (by decide) (by decide) he (fun _ => rfl)
theorem ge_any {L : List α} {g : α → D} {k : α → Bool} (hg : GlB S "any") (hm : S.mg "any" = none) (ha : GE S e Γ τ Γ1 s) (r : RdL Γ1 s (L.map g)) (hk : ∀ x, g x = .bool (k x)) (he : ∀ env, starEach [e] env = (false, eval e env) :: starEach [] env) :
    GE S (.Call (.Name "any" p) [e] [] pos) Γ τ Γ1 (.sh (.bool (L.any k))) :=
  ge_callB (r := rAny S.K) (fun X I => by rw [← I.K]; exact cr_any I.calm) hg hm (by decide +kernel) (ga_cons ha ga_nil he) (ra1 fun F G0 G H σ ws w wk Q q => by
    obtain ⟨O, A⟩ := id wk
    obtain ⟨p, vs, e, hp, B⟩ := A.rdl A.ts.1 r
    have eg : L.map g = (L.map k).map PyData.bool := by rw [List.map_map]; exact List.map_congr_left fun x _ => hk x
    rw [eg] at B
    have := dpa_bls_inv B
    subst e this
    refine ⟨p, L.map k, rfl, sq_of hp, ?_⟩
    rw [List.any_map]
    exact q _ G H (wk.drop.sh (.bl _))) (by decide) (by decide) he (fun _ => rfl)
/-- sum of ints, given by a map -/
theorem ge_sum {L : List α} {g : α → D} {k : α → Int} (hg : GlB S "sum") (hm : S.mg "sum" = none) (ha : GE S e Γ τ Γ1 s) (r : RdS Γ1 s (L.map g)) (hk : ∀ x, g x = .int (k x)) (he : ∀ env, starEach [e] env = (false, eval e env) :: starEach [] env) :
    GE S (.Call (.Name "sum" p) [e] [] pos) Γ τ Γ1 (.sh (.int (L.map k).sum)) :=
  ge_callB (r := rSumH) (fun X I => cr_sumH I.calm) hg hm (by decide +kernel) (ga_cons ha ga_nil he) (ra1 fun F G0 G H σ ws w wk Q q => by
    obtain ⟨O, A⟩ := id wk
    obtain ⟨p, vs, e, hp, B⟩ := A.rdh A.ts.1 r
    have eg : L.map g = (L.map k).map PyData.int := by rw [List.map_map]; exact List.map_congr_left fun x _ => hk x
    rw [eg] at B
    have := dpa_ints_inv B
    subst e this
    exact ⟨p, L.map k, rfl, hp, q _ G H (wk.drop.sh (.int _))⟩) (by decide) (by decide) he (fun _ => rfl)
theorem ge_max {n : Int} {ns : List Int} (hg : GlB S "max") (hm : S.mg "max" = none) (ha : GE S e Γ τ Γ1 s) (r : RdS Γ1 s ((n :: ns).map PyData.int)) (he : ∀ env, starEach [e] env = (false, eval e env) :: starEach [] env) :
    GE S (.Call (.Name "max" p) [e] [] pos) Γ τ Γ1 (.sh (.int (ns.foldl max n))) :=
  ge_callB (r := rMaxH) (fun X I => cr_maxH I.calm I.hu) hg hm (by decide +kernel) (ga_cons ha ga_nil he) (ra1 fun F G0 G H σ ws w wk Q q => by
    obtain ⟨O, A⟩ := id wk
    obtain ⟨p, vs, e, hp, B⟩ := A.rdh A.ts.1 r
    have := dpa_ints_inv B
    subst e this
    exact ⟨p, n, ns, rfl, hp, q _ G H (wk.drop.sh (.int _))⟩) (by decide) (by decide) he (fun _ => rfl)
theorem ge_min {n : Int} {ns : List Int} (hg : GlB S "min") (hm : S.mg "min" = none) (ha : GE S e Γ τ Γ1 s) (r : RdS Γ1 s ((n :: ns).map PyData.int)) (he : ∀ env, starEach [e] env = (false, eval e env) :: starEach [] env) :
    GE S (.Call (.Name "min" p) [e] [] pos) Γ τ Γ1 (.sh (.int (ns.foldl min n))) :=
  ge_callB (r := rMinH) (fun X I => cr_minH I.calm I.hu) hg hm (by decide +kernel) (ga_cons ha ga_nil he) (ra1 fun F G0 G H σ ws w wk Q q => by
    obtain ⟨O, A⟩ := id wk
    obtain ⟨p, vs, e, hp, B⟩ := A.rdh A.ts.1 r
    have := dpa_ints_inv B
    subst e this
    exact ⟨p, n, ns, rfl, hp, q _ G H (wk.drop.sh (.int _))⟩) (by decide) (by decide) he (fun _ => rfl)
theorem ge_min2 {i j : Int} (hg : GlB S "min") (hm : S.mg "min" = none) (ha : GE S a Γ τ Γ1 (.sh (.int i))) (hb : GE S b Γ1 (.sh (.int i) :: τ) Γ2 (.sh (.int j))) (he : ∀ env, starEach [a, b] env = (false, eval a env) :: starEach [b] env) (he2 : ∀ env, starEach [b] env = (false, eval b env) :: starEach [] env) (hpl : ∀ env, (backTo pos (starEach [b] env)).any (·.1) = false) :
    GE S (.Call (.Name "min" p) [a, b] [] pos) Γ τ Γ2 (.sh (.int (if j < i then j else i))) :=
  ge_callB (fun X I => call_min2 I.calm) hg hm (by decide +kernel) (ga_cons ha (ga_cons hb ga_nil he2) he) (ra2 fun F G0 G H σ ws w1 w2 wk Q q => by
    have h2 := wk.top_sh
    have h1 := wk.drop.top_sh
    cases h1
    cases h2
    exact ⟨i, j, rfl, q _ G H (wk.drop.drop.sh (.int _))⟩) (by decide) (by decide) he hpl
theorem ge_max2 {i j : Int} (hg : GlB S "max") (hm : S.mg "max" = none) (ha : GE S a Γ τ Γ1 (.sh (.int i))) (hb : GE S b Γ1 (.sh (.int i) :: τ) Γ2 (.sh (.int j))) (he : ∀ env, starEach [a, b] env = (false, eval a env) :: starEach [b] env) (he2 : ∀ env, starEach [b] env = (false, eval b env) :: starEach [] env) (hpl : ∀ env, (backTo pos (starEach [b] env)).any (·.1) = false) :
    GE S (.Call (.Name "max" p) [a, b] [] pos) Γ τ Γ2 (.sh (.int (if j > i then j else i))) :=
  ge_callB (fun X I => call_max2 I.calm) hg hm (by decide +kernel) (ga_cons ha (ga_cons hb ga_nil he2) he) (ra2 fun F G0 G H σ ws w1 w2 wk Q q => by
    have h2 := wk.top_sh
    have h1 := wk.drop.top_sh
    cases h1
    cases h2
    exact ⟨i, j, rfl, q _ G H (wk.drop.drop.sh (.int _))⟩) (by decide) (by decide) he hpl
theorem ge_abs {i : Int} (hg : GlB S "abs") (hm : S.mg "abs" = none) (ha : GE S e Γ τ Γ1 (.sh (.int i))) (he : ∀ env, starEach [e] env = (false, eval e env) :: starEach [] env) : GE S (.Call (.Name "abs" p) [e] [] pos) Γ τ Γ1 (.sh (.int (if i < 0 then -i else i))) :=
  ge_callB (fun X I => call_abs) hg hm (by decide +kernel) (ga_cons ha ga_nil he) (ra1 fun F G0 G H σ ws w wk Q q => by
    have h1 := wk.top_sh
    cases h1
    exact ⟨i, rfl, q _ G H (wk.drop.sh (.int _))⟩) (by decide) (by decide) he (fun _ => rfl)
theorem ge_intI {i : Int} (hg : GlB S "int") (hm : S.mg "int" = none) (ha : GE S e Γ τ Γ1 (.sh (.int i))) (he : ∀ env, starEach [e] env = (false, eval e env) :: starEach [] env) : GE S (.Call (.Name "int" p) [e] [] pos) Γ τ Γ1 (.sh (.int i)) :=
  ge_callTy (fun X I => call_int1) hg hm (by decide +kernel) (ga_cons ha ga_nil he) (ra1 fun F G0 G H σ ws w wk Q q => by
    have h1 := wk.top_sh
    cases h1
    exact .inl ⟨i, rfl, q _ G H (wk.drop.sh (.int _))⟩) (by decide) (by decide) he (fun _ => rfl)
theorem ge_intB {i : Bool} (hg : GlB S "int") (hm : S.mg "int" = none) (ha : GE S e Γ τ Γ1 (.sh (.bool i))) (he : ∀ env, starEach [e] env = (false, eval e env) :: starEach [] env) : GE S (.Call (.Name "int" p) [e] [] pos) Γ τ Γ1 (.sh (.int (if i then 1 else 0))) :=
  ge_callTy (fun X I => call_int1) hg hm (by decide +kernel) (ga_cons ha ga_nil he) (ra1 fun F G0 G H σ ws w wk Q q => by
    have h1 := wk.top_sh
    cases h1
    exact .inr ⟨i, rfl, q _ G H (wk.drop.sh (.int _))⟩) (by decide) (by decide) he (fun _ => rfl)
theorem ge_sorted (hg : GlB S "sorted") (hm : S.mg "sorted" = none) (ha : GE S e Γ τ Γ1 s) (r : RdS Γ1 s ds) (h1 : PySem.W.AllAlike ds) (h2 : PySem.W.Sortable ds) (h3 : ∀ d, d ∈ ds → d.depth ≤ 40) (he : ∀ env, starEach [e] env = (false, eval e env) :: starEach [] env) :
    GE S (.Call (.Name "sorted" p) [e] [] pos) Γ τ Γ1 (.ol (ds.mergeSort (PySem.W.dataLe false id))) :=
  ge_callB (r := rSortD) (fun X I => cr_sortD I.hu) hg hm (by decide +kernel) (ga_cons ha ga_nil he) (ra1 fun F G0 G H σ ws w wk Q q => by
    obtain ⟨O, A⟩ := id wk
    obtain ⟨p, vs, e, hp, B⟩ := A.rdh A.ts.1 r
    subst e
    exact ⟨p, vs, ds, G, wk.gh, rfl, hp, B, h1, h2, h3, fun l ys hl hys => q _ _ _ (wk.drop.newL hl hys)⟩) (by decide) (by decide) he (fun _ => rfl)
theorem ge_list (hg : GlB S "list") (hm : S.mg "list" = none) (ha : GE S e Γ τ Γ1 s) (r : RdS Γ1 s ds) (he : ∀ env, starEach [e] env = (false, eval e env) :: starEach [] env) : GE S (.Call (.Name "list" p) [e] [] pos) Γ τ Γ1 (.ol ds) :=
  ge_callTy (r := fun xs H Q => ∃ p ys, xs = [.ref p] ∧ (SqL S.K H p ys ∨ SqT S.K H p ys) ∧ ∀ l, H l = none → Q (.ref l) (upd H l (.lst ys))) (fun X I => by rw [← I.K]; exact call_list_of) hg hm (by decide +kernel) (ga_cons ha ga_nil he) (ra1 fun F G0 G H σ ws w wk Q q => by
    obtain ⟨O, A⟩ := id wk
    obtain ⟨p, vs, e, hp, B⟩ := A.rdh A.ts.1 r
    subst e
    exact ⟨p, vs, rfl, hp.imp sq_of st_of, fun l hl => q _ _ _ (wk.drop.newL hl B)⟩) (by decide) (by decide) he (fun _ => rfl)
theorem ge_tuple (hg : GlB S "tuple") (hm : S.mg "tuple" = none) (ha : GE S e Γ τ Γ1 s) (r : RdL Γ1 s ds) (he : ∀ env, starEach [e] env = (false, eval e env) :: starEach [] env) : GE S (.Call (.Name "tuple" p) [e] [] pos) Γ τ Γ1 (.sh (.tuple ds)) :=
  ge_callTy (r := fun xs H Q => ∃ p ys, xs = [.ref p] ∧ ((SqL S.K H p ys ∧ ∀ l, H l = none → Q (.ref l) (upd H l (.tup ys))) ∨ (SqT S.K H p ys ∧ Q (.ref p) H))) (fun X I => by rw [← I.K]; exact call_tuple_of) hg hm (by decide +kernel) (ga_cons ha ga_nil he) (ra1 fun F G0 G H σ ws w wk Q q => by
    obtain ⟨O, A⟩ := id wk
    obtain ⟨p, vs, e, hp, B⟩ := A.rdl A.ts.1 r
    subst e
    exact ⟨p, vs, rfl, .inl ⟨sq_of hp, fun l hl => q _ _ _ (wk.drop.newT hl B)⟩⟩) (by decide) (by decide) he (fun _ => rfl)
/-- list(range(n)) -/
theorem ge_listRg {n : Int} {p3 : Pos} (hg : GlB S "list") (hm : S.mg "list" = none) (hg2 : GlB S "range") (hm2 : S.mg "range" = none) (ha : GE S e Γ τ Γ1 (.sh (.int n))) (h0 : 0 ≤ n) (hn : n ≤ 100000) (he : ∀ env, starEach [e] env = (false, eval e env) :: starEach [] env) :
    GE S (.Call (.Name "list" p) [.Call (.Name "range" p2) [e] [] p3] [] pos) Γ τ Γ1 (.ol ((List.range n.toNat).map fun i => .int (i : Nat))) := by
  obtain ⟨te, pe, ee⟩ := ha
  refine ⟨tLstRg (tRg1 te), fun X I => pe_listRg I.calm (I.gl hg) (by rw [I.mg]; exact hm) (prg_1 (I.gl hg2) (by rw [I.mg]; exact hm2) (pe X I) (he _)), fun F G0 G H σ ws wk Q q => ee F G0 G H σ ws wk _ fun w G1 H1 wk1 => ?_⟩
  have h1 := wk1.top_sh
  cases h1
  refine ⟨n, rfl, RgOk.of_le (Int.le_refl _) (by omega) (by omega) h0, fun l hl => q _ _ _ (wk1.drop.newL hl ?_)⟩
  have : rgV 0 n = (List.range n.toNat).map fun i => V.int ((i : Nat) : Int) := by
    unfold rgV
    simp
  rw [this]
  have : ∀ L : List Nat, DqAll G1 (L.map fun i => V.int ((i : Nat) : Int)) (L.map fun i => PyData.int ((i : Nat) : Int)) := by
    intro L
    induction L with
    | nil => exact .nil
    | cons a L ih => exact .cons (.int _) ih
  exact this _
end
end Lf
set_option maxHeartbeats 4000000
namespace Lf
open PySem L2 Evl

/-! ### defs: data in, data out -/
def pureSp (pre : List D → D → Prop) : Sp := fun vs H Q _ => ∃ (G : Hp) (ds : List D) (r : D), Ex G H ∧ DqAll G vs ds ∧ pre ds r ∧
  ∀ w G' H', Ex G G' → Ex G' H' → Ex H H' → (∀ a, G' a ≠ none → G a ≠ none ∨ H a = none) → Dq G' w r → Q w H'
/-- the def that stands at x keeps a promise -/
def FnS (P : Program) (w : World) (K : PySem.W.Frag) (mg : Str → Option Value) (base : Heap) (x : Str) (k : Nat) (sp : Sp) : Prop :=
  ∃ f fd ps, mg x = some (.ref f) ∧ PySem.W.keepIn K (.ref f) = true ∧ Binds K fd ps [] ∧ FnOk P w K mg base CX0 k f fd ps sp
abbrev FnG (P : Program) (w : World) (K : PySem.W.Frag) (mg : Str → Option Value) (base : Heap) (x : Str) (k : Nat) (pre : List D → D → Prop) : Prop := FnS P w K mg base x k (pureSp pre)
section
variable {S : Stat} {Γ Γ1 Γ2 Γ3 τ : List Sl} {s s1 s2 s3 : Sl} {a b c e : Expr} {es : List Expr} {pos p p2 : Pos} {d : D} {ds : List D}
/-- behind a call: the ground has grown, all else is as it was -/
theorem Wk.grown {K : PySem.W.Frag} {F G0 G H G' H' : Hp} {σ : L2.St} {ws : List V} (h : Wk K F G0 Γ τ G H σ ws) (g1 : Ex G G') (g2 : Ex G' H') (g3 : Ex H H') (g4 : ∀ a, G' a ≠ none → G a ≠ none ∨ H a = none) : Wk K F G0 Γ τ G' H' σ ws := by
  obtain ⟨O, a⟩ := h
  have kk : ∀ b, O b ≠ none → H b ≠ none → (if H b = none then none else O b) = O b ∧ H' b = H b := fun b _ hb => by
    refine ⟨if_neg hb, ?_⟩
    cases e : H b with
    | none => exact absurd e hb
    | some o => exact g3 b o e
  refine ⟨fun b => if H b = none then none else O b, a.len, fun i s e => (a.sl i s e).mono g1 kk, a.ts.mono g1 kk, fun b hb => ?_, a.g0.trans g1, g2, a.fh.trans g3, fun b hb => ?_⟩
  · have hb1 : H b ≠ none := fun z => hb (if_pos z)
    have hb2 : O b ≠ none := by rw [if_neg hb1] at hb; exact hb
    obtain ⟨o1, o2⟩ := a.own b hb2
    refine ⟨?_, o2⟩
    cases e : G' b with
    | none => rfl
    | some o =>
      rcases g4 b (by rw [e]; simp) with z | z
      · exact absurd o1 z
      · exact absurd z hb1
  · rcases g4 b hb with z | z
    · exact a.gf b z
    · exact .inr (fresh_back a.fh z)
theorem ge_callS {x : Str} {k : Nat} {sp : Sp} {ss : List Sl} (Fn : FnS S.P S.w S.K S.mg S.base x k sp) (hk : k ≤ S.k) (hg : GlB S x) (ha : GA S (e :: es) Γ τ Γ1 ss)
    (hr : RA S.K (fun vs H Q => sp vs H Q E0) Γ1 τ ss Γ2 s) (hdb : (x == ("__debug__" : Str)) = false) (he : ∀ env, starEach (e :: es) env = (false, eval e env) :: starEach es env) (hpl : ∀ env, (backTo pos (starEach es env)).any (·.1) = false) :
    GE S (.Call (.Name x p) (e :: es) [] pos) Γ τ Γ2 s := by
  obtain ⟨ta, pa, ea⟩ := ha
  obtain ⟨f, fd, ps, hm, hkp, hb, F⟩ := Fn
  refine ⟨tCall sp [] E0 ta, fun X I => ?_, fun F G0 G H σ ws wk Q q => ea F G0 G H σ ws wk _ fun vs G1 H1 hl wk1 => ?_⟩
  · rw [← I.prog, ← I.w, ← I.K, ← I.mg, ← I.base] at F
    exact pe_call F (I.room.mono hk) (I.gl hg) (by rw [I.mg]; exact hm) (by rw [I.K]; exact hkp) (by rw [I.K]; exact hb) .nil pass0 (pa X I) hdb (he _) (hpl _)
  · rw [List.append_nil]
    exact hr F G0 G1 H1 σ ws vs hl wk1 Q q
theorem ge_call {x : Str} {k : Nat} {pre : List D → D → Prop} {r : D} (Fn : FnG S.P S.w S.K S.mg S.base x k pre) (hk : k ≤ S.k) (hg : GlB S x) (ha : GA S (e :: es) Γ τ Γ1 (ds.map Sl.sh)) (hp : pre ds r)
    (hdb : (x == ("__debug__" : Str)) = false) (he : ∀ env, starEach (e :: es) env = (false, eval e env) :: starEach es env) (hpl : ∀ env, (backTo pos (starEach es env)).any (·.1) = false) :
    GE S (.Call (.Name x p) (e :: es) [] pos) Γ τ Γ1 (.sh r) :=
  ge_callS Fn hk hg ha (fun F G0 G H σ ws vs hl wk Q q => by
    obtain ⟨B, wk2⟩ := wk.args_sh hl
    exact ⟨G, ds, r, wk2.gh, B, hp, fun w G' H' g1 g2 g3 g4 hd => q w G' H' ((wk2.grown g1 g2 g3 g4).sh hd)⟩) hdb he hpl

/-! ### statements -/
structure Endv where
  nx : List Sl → Prop
  rt : List Sl → Sl → Prop
  bk : List Sl → Prop
  ct : List Sl → Prop
structure EndsOk (K : PySem.W.Frag) (F G0 : Hp) (E : Endv) (D : Ends) : Prop where
  nx : ∀ Γ G H σ, E.nx Γ → Wk K F G0 Γ [] G H σ [] → D.nx σ H
  rt : ∀ Γ s w G H σ, E.rt Γ s → Wk K F G0 Γ [s] G H σ [w] → D.rt w H
  bk : ∀ Γ G H σ, E.bk Γ → Wk K F G0 Γ [] G H σ [] → D.bk σ H
  ct : ∀ Γ G H σ, E.ct Γ → Wk K F G0 Γ [] G H σ [] → D.ct σ H
def SE (K : PySem.W.Frag) (t : TS) (Γ : List Sl) (E : Endv) : Prop := ∀ F G0 G H σ, Wk K F G0 Γ [] G H σ [] → ∀ D : Ends, EndsOk K F G0 E D → t D σ H
def GS (S : Stat) (st : Stmt) (Γ : List Sl) (E : Endv) : Prop := ∃ t, (∀ X, S.Is X → PS X st t) ∧ SE S.K t Γ E
def GSs (S : Stat) (sts : List Stmt) (Γ : List Sl) (E : Endv) : Prop := ∃ t, (∀ X, S.Is X → PSs X sts t) ∧ SE S.K t Γ E
variable {E : Endv} {st : Stmt} {sts : List Stmt}
theorem EndsOk.with {K : PySem.W.Frag} {F G0 : Hp} {D : Ends} (h : EndsOk K F G0 E D) {nx : L2.St → Hp → Prop} {N : List Sl → Prop} (hn : ∀ Γ G H σ, N Γ → Wk K F G0 Γ [] G H σ [] → nx σ H) : EndsOk K F G0 { E with nx := N } { D with nx := nx } :=
  ⟨hn, h.rt, h.bk, h.ct⟩
theorem gss_nil (h : E.nx Γ) : GSs S [] Γ E := ⟨tNext, fun _ _ => pss_nil, fun F G0 G H σ wk D k => k.nx Γ G H σ h wk⟩
/-! canonical readings: what the syntax asks at all contexts told by S -/
def wpE (S : Stat) (e : Expr) : TE := fun σ H Q => ∀ X, S.Is X → ∀ pins s, Inv X pins σ H s → wpAny (model X.prog X.w) X.A (eval e X.env) (EP X pins σ Q) X.xe s
def wpT (S : Stat) (e : Expr) : TT := fun σ H Q => ∀ X, S.Is X → ∀ pins s, Inv X pins σ H s → wpAny (model X.prog X.w) X.A (isTrue e X.env (eval e X.env)) (TP X pins σ Q) X.xe s
def wpSs (S : Stat) (sts : List Stmt) : TS := fun D σ H => ∀ X, S.Is X → ∀ pins s, Inv X pins σ H s → wpAny (model X.prog X.w) X.A (execs sts X.env) (SP X pins D) X.xe s
theorem pe_can {X : Cx} (I : S.Is X) : PE X e (wpE S e) := ⟨fun pins s _ _ _ J h => h X I pins s J⟩
theorem pt_can {X : Cx} (I : S.Is X) : PT X e (wpT S e) := ⟨fun pins s _ _ _ J h => h X I pins s J⟩
theorem pss_can {X : Cx} (I : S.Is X) : PSs X sts (wpSs S sts) := ⟨fun pins s _ _ _ J h => h X I pins s J⟩
theorem GE.can (h : GE S e Γ τ Γ1 s) : EE S.K (wpE S e) Γ τ Γ1 s := by
  obtain ⟨te, pe, ee⟩ := h
  exact fun F G0 G H σ ws wk Q q X I pins s J => (pe X I).run pins s σ H Q J (ee F G0 G H σ ws wk Q q)
theorem GT.can {k : Bool} (h : GT S e Γ τ Γ1 k) : ET S.K (wpT S e) Γ τ Γ1 k := by
  obtain ⟨te, pe, ee⟩ := h
  exact fun F G0 G H σ ws wk Q q X I pins s J => (pe X I).run pins s σ H Q J (ee F G0 G H σ ws wk Q q)
theorem GSs.can (h : GSs S sts Γ E) : SE S.K (wpSs S sts) Γ E := by
  obtain ⟨t, p, h⟩ := h
  exact fun F G0 G H σ wk D k X I pins s J => (p X I).run pins s σ H D J (h F G0 G H σ wk D k)
/-- what follows from all that Mid says -/
theorem gss_cons {Mid : List Sl → Prop} (h1 : GS S st Γ { E with nx := Mid }) (h2 : ∀ Γ1, Mid Γ1 → GSs S sts Γ1 E) : GSs S (st :: sts) Γ E := by
  obtain ⟨t, pt, et⟩ := h1
  exact ⟨tSeq t (wpSs S sts), fun X I => pss_cons (pt X I) (pss_can I), fun F G0 G H σ wk D k => et F G0 G H σ wk _ (k.with fun Γ1 G1 H1 σ1 m wk1 => (h2 Γ1 m).can F G0 G1 H1 σ1 wk1 D k)⟩
/-- one way on -/
theorem gss_one {Γ1 : List Sl} (h1 : GS S st Γ { E with nx := fun Γ' => Γ' = Γ1 }) (h2 : GSs S sts Γ1 E) : GSs S (st :: sts) Γ E := gss_cons h1 fun Γ' e => by rw [e]; exact h2
/-- the rest is never reached -/
theorem gss_last (h1 : GS S st Γ { E with nx := fun _ => False }) : GSs S (st :: sts) Γ E := gss_cons h1 fun _ h => h.elim
theorem GS.imp {E' : Endv} (h : GS S st Γ E) (h1 : ∀ Γ, E.nx Γ → E'.nx Γ) (h2 : ∀ Γ s, E.rt Γ s → E'.rt Γ s) (h3 : ∀ Γ, E.bk Γ → E'.bk Γ) (h4 : ∀ Γ, E.ct Γ → E'.ct Γ) : GS S st Γ E' := by
  obtain ⟨t, p, e⟩ := h
  exact ⟨t, p, fun F G0 G H σ wk D k => e F G0 G H σ wk D ⟨fun Γ G H σ h => k.nx Γ G H σ (h1 Γ h), fun Γ s w G H σ h => k.rt Γ s w G H σ (h2 Γ s h), fun Γ G H σ h => k.bk Γ G H σ (h3 Γ h), fun Γ G H σ h => k.ct Γ G H σ (h4 Γ h)⟩⟩
theorem gs_ret (h : GE S e Γ [] Γ1 s) (k : E.rt Γ1 s) : GS S (.Return (some e) pos) Γ E := by
  obtain ⟨te, pe, ee⟩ := h
  exact ⟨tRet te, fun X I => ps_ret (pe X I), fun F G0 G H σ wk D K => ee F G0 G H σ [] wk _ fun w G1 H1 wk1 => K.rt Γ1 s w G1 H1 σ k wk1⟩
theorem gs_if {k : Bool} {bs cs : List Stmt} (hc : GT S c Γ [] Γ1 k) (h1 : k = true → GSs S bs Γ1 E) (h2 : k = false → GSs S cs Γ1 E) : GS S (.If c bs cs pos) Γ E := by
  obtain ⟨tc, pc, ec⟩ := hc
  cases k with
  | true =>
    obtain ⟨t, p, e⟩ := h1 rfl
    exact ⟨tIfS tc t _, fun X I => ps_if (pc X I) (p X I) pss_never, fun F G0 G H σ wk D K => ec F G0 G H σ [] wk _ fun G1 H1 wk1 => by rw [if_pos rfl]; exact e F G0 G1 H1 σ wk1 D K⟩
  | false =>
    obtain ⟨t, p, e⟩ := h2 rfl
    exact ⟨tIfS tc _ t, fun X I => ps_if (pc X I) pss_never (p X I), fun F G0 G H σ wk D K => ec F G0 G H σ [] wk _ fun G1 H1 wk1 => by rw [if_neg Bool.false_ne_true]; exact e F G0 G1 H1 σ wk1 D K⟩
/-- a value stored at a slot -/
def sto : Sl → Bool
  | .bo _ => false
  | .boi _ _ => false
  | _ => true
theorem Wk.store {K : PySem.W.Frag} {F G0 G H : Hp} {σ : L2.St} {w : V} {i : Nat} (h : Wk K F G0 Γ [s] G H σ [w]) (hs : sto s = true) (hi : i < Γ.length) : Wk K F G0 (Γ.set i s) [] G H (σ.set i (some w)) [] := by
  obtain ⟨O, a⟩ := h
  have hiσ : i < σ.length := by rw [← a.len]; exact hi
  let O' : Own := fun b => if O b = some (.inl i) then none else if O b = some (.inr 0) then some (.inl i) else O b
  have kO : ∀ b j, O b = some (.inl j) → j ≠ i → O' b = some (.inl j) := fun b j e hj => by
    show (if O b = some (.inl i) then none else if O b = some (.inr 0) then some (.inl i) else O b) = _
    rw [e, if_neg (by intro z; exact hj (Sum.inl.inj (Option.some.inj z))), if_neg (by intro z; cases z)]
  have kT : ∀ b, O b = some (.inr 0) → O' b = some (.inl i) := fun b e => by
    show (if O b = some (.inl i) then none else if O b = some (.inr 0) then some (.inl i) else O b) = _
    rw [e, if_neg (by intro z; cases z), if_pos rfl]
  refine ⟨O', by simp [a.len], fun j s' e => ?_, trivial, fun b hb => ?_, a.g0, a.gh, a.fh, a.gf⟩
  · by_cases hj : i = j
    · subst hj
      rw [List.getElem?_set_self hi] at e
      cases e
      refine .inr ⟨w, by rw [List.getElem?_set_self hiσ], ?_⟩
      have hw := a.ts.1
      cases s with
      | no => trivial
      | sh d => exact hw
      | ol ds => obtain ⟨p, vs, e, o, hp, b⟩ := hw; exact ⟨p, vs, e, kT _ o, hp, b⟩
      | oll dss => obtain ⟨p, ps, e, o, hp, nd, b⟩ := hw; exact ⟨p, ps, e, kT _ o, hp, nd, paired_mono (fun q ds h => ⟨kT _ h.1, h.2⟩) b⟩
      | od kvs => obtain ⟨p, vs, e, o, hp, b⟩ := hw; exact ⟨p, vs, e, kT _ o, hp, b⟩
      | bo j => cases hs
      | boi j k => cases hs
      | lk ks => exact hw
      | ob R => obtain ⟨cs, hc, r⟩ := hw; exact ⟨cs, fun c m => ⟨kT _ (hc c m).1, (hc c m).2⟩, r⟩
    · rw [List.getElem?_set_ne hj] at e
      rcases a.sl j s' e with z | ⟨w', e', hw⟩
      · exact .inl z
      · refine .inr ⟨w', by rw [List.getElem?_set_ne hj]; exact e', ?_⟩
        cases s' with
        | no => trivial
        | sh d => exact hw
        | ol ds => obtain ⟨p, vs, e, o, hp, b⟩ := hw; exact ⟨p, vs, e, kO _ _ o (Ne.symm hj), hp, b⟩
        | oll dss => obtain ⟨p, ps, e, o, hp, nd, b⟩ := hw; exact ⟨p, ps, e, kO _ _ o (Ne.symm hj), hp, nd, paired_mono (fun q ds h => ⟨kO _ _ h.1 (Ne.symm hj), h.2⟩) b⟩
        | od kvs => obtain ⟨p, vs, e, o, hp, b⟩ := hw; exact ⟨p, vs, e, kO _ _ o (Ne.symm hj), hp, b⟩
        | bo j' => exact absurd rfl (hw.1 _)
        | boi j' k => exact absurd rfl (hw.1 _)
        | lk ks => exact hw
        | ob R => obtain ⟨cs, hc, r⟩ := hw; exact ⟨cs, fun c m => ⟨kO _ _ (hc c m).1 (Ne.symm hj), (hc c m).2⟩, r⟩
  · have : O b ≠ none := by
      intro z
      apply hb
      show (if O b = some (.inl i) then none else if O b = some (.inr 0) then some (.inl i) else O b) = _
      rw [z]; rfl
    exact a.own b this
end
end Lf
set_option maxHeartbeats 4000000
namespace Lf
open PySem L2 Evl

/-- no temporary borrows -/
abbrev NB (τ : List Sl) : Prop := ∀ s, s ∈ τ → sto s = true
section
variable {S : Stat} {Γ Γ1 Γ2 Γ3 τ : List Sl} {s s1 s2 s3 : Sl} {a b c e : Expr} {es : List Expr} {pos p p2 : Pos} {d : D} {ds : List D} {E : Endv} {st : Stmt} {sts : List Stmt}
/-- owners told anew, kinds kept apart -/
theorem Ok.reown {K : PySem.W.Frag} {G H : Hp} {σ σ' : L2.St} {O O' : Own} {id id' : Id} {w : V} (k : ∀ b, O b = some id → O' b = some id') : ∀ {s : Sl}, sto s = true → Ok K G H σ O id w s → Ok K G H σ' O' id' w s
  | .no, _, _ => trivial
  | .sh d, _, h => h
  | .ol ds, _, ⟨p, vs, e, o, hp, b⟩ => ⟨p, vs, e, k _ o, hp, b⟩
  | .oll dss, _, ⟨p, ps, e, o, hp, nd, b⟩ => ⟨p, ps, e, k _ o, hp, nd, paired_mono (fun q ds h => ⟨k _ h.1, h.2⟩) b⟩
  | .od kvs, _, ⟨p, vs, e, o, hp, b⟩ => ⟨p, vs, e, k _ o, hp, b⟩
  | .bo j, h, _ => by cases h
  | .boi j l, h, _ => by cases h
  | .lk ks, _, h => h
  | .ob R, _, ⟨cs, hc, r⟩ => ⟨cs, fun c m => ⟨k _ (hc c m).1, (hc c m).2⟩, r⟩
theorem WkO.sto {K : PySem.W.Frag} {F G0 G H : Hp} {σ : L2.St} {ws : List V} {O : Own} (a : WkO K F G0 Γ τ G H σ ws O) {i : Nat} {s : Sl} (e : Γ[i]? = some s) : sto s = true := by
  rcases a.sl i s e with z | ⟨w, _, h⟩
  · rw [z]; rfl
  · cases s with
    | bo j => exact absurd rfl (h.1 _)
    | boi j k => exact absurd rfl (h.1 _)
    | _ => rfl
theorem OkTs.reown {K : PySem.W.Frag} {G H : Hp} {σ σ' : L2.St} {O O' : Own} : ∀ {ws : List V} {τ : List Sl}, NB τ → (∀ b j, j < τ.length → O b = some (.inr j) → O' b = some (.inr j)) → OkTs K G H σ O ws τ → OkTs K G H σ' O' ws τ
  | [], [], _, _, _ => trivial
  | _ :: _, s :: τ, n, k, ⟨h1, h2⟩ => ⟨h1.reown (fun b => k b _ (by simp)) (n s (by simp)), OkTs.reown (fun s' h => n s' (by simp [h])) (fun b j hj => k b j (by simp; omega)) h2⟩
  | [], _ :: _, _, _, h => h
  | _ :: _, [], _, _, h => h
/-- the top temporary goes to a slot -/
theorem Wk.storeT {K : PySem.W.Frag} {F G0 G H : Hp} {σ : L2.St} {w : V} {ws : List V} {i : Nat} (h : Wk K F G0 Γ (s :: τ) G H σ (w :: ws)) (hs : sto s = true) (hn : NB τ) (hi : i < Γ.length) : Wk K F G0 (Γ.set i s) τ G H (σ.set i (some w)) ws := by
  obtain ⟨O, a⟩ := h
  have hiσ : i < σ.length := by rw [← a.len]; exact hi
  refine ⟨fun b => if O b = some (.inl i) then none else if O b = some (.inr τ.length) then some (.inl i) else O b, by simp [a.len], fun j s' e => ?_, a.ts.2.reown hn (fun b j hj e => ?_), fun b hb => ?_, a.g0, a.gh, a.fh, a.gf⟩
  · by_cases hj : i = j
    · subst hj
      rw [List.getElem?_set_self hi] at e
      cases e
      exact .inr ⟨w, by rw [List.getElem?_set_self hiσ], a.ts.1.reown (fun b e => by rw [e, if_neg (by intro z; cases z), if_pos rfl]) hs⟩
    · rw [List.getElem?_set_ne hj] at e
      rcases a.sl j s' e with z | ⟨w', e', hw⟩
      · exact .inl z
      · exact .inr ⟨w', by rw [List.getElem?_set_ne hj]; exact e', hw.reown (fun b e => by
          rw [e, if_neg (by intro z; exact hj (Sum.inl.inj (Option.some.inj z)).symm), if_neg (by intro z; cases z)]) (a.sto (by assumption))⟩
  · rw [e, if_neg (by intro z; cases z), if_neg (by intro z; have := Sum.inr.inj (Option.some.inj z); omega)]
  · have : O b ≠ none := by
      intro z
      apply hb
      rw [z]; rfl
    exact a.own b this

/-! ### a name is stored -/
variable {x y z : Str} {px py pz pt : Pos} {i j k : Nat}
abbrev LocS (S : Stat) (x : Str) : Prop := S.names.lookup x = some .local ∨ (S.names.lookup x = some .cell ∧ S.fn x = true)
theorem LocS.loc (h : LocS S x) {X : Cx} (I : S.Is X) : L2.Loc X.env.scope x := by
  unfold L2.Loc
  rw [I.names]
  exact h.imp id And.left
theorem LocS.fn (h : LocS S x) {X : Cx} (I : S.Is X) : X.fn x = true ∨ X.env.scope.names.lookup x = some .local := by
  rw [I.names, I.fn]
  exact h.elim .inr fun z => .inl z.2
theorem gs_set (hN : S.N[i]? = some x) (hx : LocS S x) (he : GE S e Γ [] Γ1 s) (hs : sto s = true) (hi : i < Γ1.length) (k : E.nx (Γ1.set i s)) (hsw : ∀ env, swapsWith e (some (.Name x px)) pos.line env = pure false) :
    GS S (.Assign [.Name x px] e pos) Γ E := by
  obtain ⟨te, pe, ee⟩ := he
  exact ⟨tAsg te (gName i), fun X I => ps_set I.nd' (by rw [I.N]; exact hN) (hx.loc I) (pe X I) (hsw _) (hx.fn I), fun F G0 G H σ wk D K => ee F G0 G H σ [] wk _ fun w G1 H1 wk1 => K.nx _ G1 H1 _ k (wk1.storeT hs (fun _ h => nomatch h) hi)⟩
/-! ### tuples of names at once -/
theorem ga_two {ta : TA} {Γ' : List Sl} (h : EA S.K ta Γ [] Γ' [s1, s2]) {F G0 G H : Hp} {σ : L2.St} (wk : Wk S.K F G0 Γ [] G H σ []) {Q : List V → Hp → Prop} (q : ∀ w1 w2 G' H', Wk S.K F G0 Γ' [s2, s1] G' H' σ [w2, w1] → Q [w1, w2] H') : ta σ H Q :=
  h F G0 G H σ [] wk Q fun vs G' H' hl wk' => by
    match vs, hl with
    | [w1, w2], _ => exact q w1 w2 G' H' wk'
theorem ga_three {ta : TA} {Γ' : List Sl} (h : EA S.K ta Γ [] Γ' [s1, s2, s3]) {F G0 G H : Hp} {σ : L2.St} (wk : Wk S.K F G0 Γ [] G H σ []) {Q : List V → Hp → Prop} (q : ∀ w1 w2 w3 G' H', Wk S.K F G0 Γ' [s3, s2, s1] G' H' σ [w3, w2, w1] → Q [w1, w2, w3] H') : ta σ H Q :=
  h F G0 G H σ [] wk Q fun vs G' H' hl wk' => by
    match vs, hl with
    | [w1, w2, w3], _ => exact q w1 w2 w3 G' H' wk'
theorem nb1 (h : sto s = true) : NB [s] := fun t ht => by simp at ht; rw [ht]; exact h
theorem nb2 (h : sto s1 = true) (h2 : sto s2 = true) : NB [s1, s2] := fun t ht => by
  simp at ht
  rcases ht with ht | ht <;> rw [ht] <;> assumption
theorem gs_par2 {kt k2 : Nat} {pt2 : Pos} (hNi : S.N[i]? = some x) (hNj : S.N[j]? = some y) (hij : i ≠ j) (hx : LocS S x) (hy : LocS S y) (ha : GA S [a, b] Γ [] Γ1 [s1, s2]) (hs1 : sto s1 = true) (hs2 : sto s2 = true) (hi : i < Γ1.length) (hj : j < Γ1.length)
    (k : E.nx ((Γ1.set i s1).set j s2))
    (hsw : (S.names.lookup x = some .local ∧ S.names.lookup y = some .local ∧ ∀ X, S.Is X → swappedStores [.Tuple [.Name x px, .Name y py] kt pt] (.Tuple [a, b] k2 pt2) X.env = pure (some [x, y])) ∨ ∀ X, S.Is X → swappedStores [.Tuple [.Name x px, .Name y py] kt pt] (.Tuple [a, b] k2 pt2) X.env = pure none) :
    GS S (.Assign [.Tuple [.Name x px, .Name y py] kt pt] (.Tuple [a, b] k2 pt2) pos) Γ E := by
  obtain ⟨ta, pa, ea⟩ := ha
  have fin : ∀ {F G0 G H : Hp} {σ : L2.St} {w1 w2 : V}, Wk S.K F G0 Γ1 [s2, s1] G H σ [w2, w1] → Wk S.K F G0 ((Γ1.set i s1).set j s2) [] G H ((σ.set i (some w1)).set j (some w2)) [] := fun {F G0 G H σ w1 w2} wk => by
    rw [List.set_comm _ _ hij, List.set_comm (some w1) (some w2) hij]
    exact (wk.storeT hs2 (nb1 hs1) hj).storeT hs1 (fun _ h => nomatch h) (by simpa using hi)
  rcases hsw with ⟨lx, ly, hsw⟩ | hsw
  · refine ⟨tPar i j ta, fun X I => ps_par I.calm I.nd' (by rw [I.N]; exact hNi) (by rw [I.N]; exact hNj) hij (by rw [I.names]; exact lx) (by rw [I.names]; exact ly) (pa X I) (hsw X I), fun F G0 G H σ wk D K => ga_two ea wk fun w1 w2 G1 H1 wk1 => ⟨w1, w2, rfl, K.nx _ G1 H1 _ k (fin wk1)⟩⟩
  · refine ⟨tAsg (tTup ta) (gTup S.K 2 (gCons (gName i) (gCons (gName j) gNil))), fun X I => ?_, fun F G0 G H σ wk D K => ga_two ea wk fun w1 w2 G1 H1 wk1 => ⟨by show 2 ≤ sizeLine; decide, fun pn hpn => ?_⟩⟩
    · rw [← I.K]
      exact ps_asg (pe_tup (pa X I)) (pg_tup I.calm (pgs_cons (pg_name I.nd' (by rw [I.N]; exact hNi) (hx.loc I) (hx.fn I)) (pgs_cons (pg_name I.nd' (by rw [I.N]; exact hNj) (hy.loc I) (hy.fn I)) pgs_nil))) rfl (hsw X I)
    · exact ⟨pn, [w1, w2], rfl, st_of upd_same, rfl, w1, [w2], rfl, w2, [], rfl, rfl, K.nx _ _ _ _ k (fin (wk1.ground hpn _))⟩
theorem gs_par3 {kt k2 : Nat} {pt2 : Pos} (hNi : S.N[i]? = some x) (hNj : S.N[j]? = some y) {l : Nat} (hNl : S.N[l]? = some z) (hij : i ≠ j) (hil : i ≠ l) (hjl : j ≠ l) (hx : LocS S x) (hy : LocS S y) (hz : LocS S z) (ha : GA S [a, b, c] Γ [] Γ1 [s1, s2, s3]) (hs1 : sto s1 = true) (hs2 : sto s2 = true) (hs3 : sto s3 = true)
    (hi : i < Γ1.length) (hj : j < Γ1.length) (hl : l < Γ1.length) (k : E.nx (((Γ1.set i s1).set j s2).set l s3))
    (hsw : (S.names.lookup x = some .local ∧ S.names.lookup y = some .local ∧ S.names.lookup z = some .local ∧ ∀ X, S.Is X → swappedStores [.Tuple [.Name x px, .Name y py, .Name z pz] kt pt] (.Tuple [a, b, c] k2 pt2) X.env = pure (some [x, y, z])) ∨ ∀ X, S.Is X → swappedStores [.Tuple [.Name x px, .Name y py, .Name z pz] kt pt] (.Tuple [a, b, c] k2 pt2) X.env = pure none) :
    GS S (.Assign [.Tuple [.Name x px, .Name y py, .Name z pz] kt pt] (.Tuple [a, b, c] k2 pt2) pos) Γ E := by
  obtain ⟨ta, pa, ea⟩ := ha
  have fin : ∀ {F G0 G H : Hp} {σ : L2.St} {w1 w2 w3 : V}, Wk S.K F G0 Γ1 [s3, s2, s1] G H σ [w3, w2, w1] → Wk S.K F G0 (((Γ1.set i s1).set j s2).set l s3) [] G H (((σ.set i (some w1)).set j (some w2)).set l (some w3)) [] := fun {F G0 G H σ w1 w2 w3} wk => by
    have h := ((wk.storeT hs3 (nb2 hs2 hs1) hl).storeT hs2 (nb1 hs1) (by simpa using hj)).storeT hs1 (fun _ h => nomatch h) (by simpa using hi)
    have e1 : ((Γ1.set l s3).set j s2).set i s1 = ((Γ1.set i s1).set j s2).set l s3 := by
      rw [List.set_comm s3 s2 (Ne.symm hjl), List.set_comm s3 s1 (Ne.symm hil), List.set_comm s2 s1 (Ne.symm hij)]
    have e2 : ((σ.set l (some w3)).set j (some w2)).set i (some w1) = ((σ.set i (some w1)).set j (some w2)).set l (some w3) := by
      rw [List.set_comm (some w3) (some w2) (Ne.symm hjl), List.set_comm (some w3) (some w1) (Ne.symm hil), List.set_comm (some w2) (some w1) (Ne.symm hij)]
    rw [e1, e2] at h
    exact h
  rcases hsw with ⟨lx, ly, lz, hsw⟩ | hsw
  · refine ⟨tPar3 i j l ta, fun X I => ps_par3 I.calm I.nd' (by rw [I.N]; exact hNi) (by rw [I.N]; exact hNj) (by rw [I.N]; exact hNl) hij hil hjl (by rw [I.names]; exact lx) (by rw [I.names]; exact ly) (by rw [I.names]; exact lz) (pa X I) (hsw X I), fun F G0 G H σ wk D K => ga_three ea wk fun w1 w2 w3 G1 H1 wk1 => ⟨w1, w2, w3, rfl, K.nx _ G1 H1 _ k (fin wk1)⟩⟩
  · refine ⟨tAsg (tTup ta) (gTup S.K 3 (gCons (gName i) (gCons (gName j) (gCons (gName l) gNil)))), fun X I => ?_, fun F G0 G H σ wk D K => ga_three ea wk fun w1 w2 w3 G1 H1 wk1 => ⟨by show 3 ≤ sizeLine; decide, fun pn hpn => ?_⟩⟩
    · rw [← I.K]
      exact ps_asg (pe_tup (pa X I)) (pg_tup I.calm (pgs_cons (pg_name I.nd' (by rw [I.N]; exact hNi) (hx.loc I) (hx.fn I)) (pgs_cons (pg_name I.nd' (by rw [I.N]; exact hNj) (hy.loc I) (hy.fn I)) (pgs_cons (pg_name I.nd' (by rw [I.N]; exact hNl) (hz.loc I) (hz.fn I)) pgs_nil)))) rfl (hsw X I)
    · exact ⟨pn, [w1, w2, w3], rfl, st_of upd_same, rfl, w1, [w2, w3], rfl, w2, [w3], rfl, w3, [], rfl, rfl, K.nx _ _ _ _ k (fin (wk1.ground hpn _))⟩

/-! ### targets by data -/
def TgG (S : Stat) (tg : Expr) (Γ : List Sl) (d : D) (Γ' : List Sl) : Prop := ∃ g, (∀ X, S.Is X → PG X tg g) ∧
  ∀ F G0 G H σ w τ ws, NB τ → Wk S.K F G0 Γ (.sh d :: τ) G H σ (w :: ws) → ∀ Q : L2.St → Hp → Prop, (∀ σ' G' H', Wk S.K F G0 Γ' τ G' H' σ' ws → Q σ' H') → g w σ H Q
def TgzG (S : Stat) (tgs : List Expr) (Γ : List Sl) (ds : List D) (Γ' : List Sl) : Prop := ∃ g, (∀ X, S.Is X → PGs X tgs g) ∧
  ∀ F G0 G H σ vs τ ws, NB τ → vs.length = ds.length → Wk S.K F G0 Γ (ds.map Sl.sh ++ τ) G H σ (vs ++ ws) → ∀ Q : L2.St → Hp → Prop, (∀ σ' G' H', Wk S.K F G0 Γ' τ G' H' σ' ws → Q σ' H') → g vs σ H Q
theorem tg_nm (hN : S.N[i]? = some x) (hx : LocS S x) (hi : i < Γ.length) : TgG S (.Name x px) Γ d (Γ.set i (.sh d)) :=
  ⟨gName i, fun X I => pg_name I.nd' (by rw [I.N]; exact hN) (hx.loc I) (hx.fn I), fun F G0 G H σ w τ ws hn wk Q q => q _ G H (wk.storeT rfl hn hi)⟩
theorem tz_nil : TgzG S [] Γ [] Γ := ⟨gNil, fun X I => pgs_nil, fun F G0 G H σ vs τ ws hn hl wk Q q => by
  match vs, hl with
  | [], _ => exact ⟨rfl, q σ G H wk⟩⟩
theorem tz_cons {t : Expr} {ts : List Expr} (h1 : TgG S t Γ d Γ1) (h2 : TgzG S ts Γ1 ds Γ2) (hs : ∀ env, (assignEach (t :: ts) env).map (·.2) = assign t env :: (assignEach ts env).map (·.2)) : TgzG S (t :: ts) Γ (d :: ds) Γ2 := by
  obtain ⟨g, pg, eg⟩ := h1
  obtain ⟨u, pu, eu⟩ := h2
  refine ⟨gCons g u, fun X I => pgs_cons (pg X I) (pu X I) (hs _), fun F G0 G H σ vs τ ws hn hl wk Q q => ?_⟩
  match vs, hl with
  | v :: vs, hl =>
    refine ⟨v, vs, rfl, eg F G0 G H σ v _ _ (fun s hs => ?_) wk _ fun σ1 G1 H1 wk1 => eu F G0 G1 H1 σ1 vs τ ws hn (by simpa using hl) wk1 Q q⟩
    rcases List.mem_append.mp hs with z | z
    · obtain ⟨d', _, rfl⟩ := List.mem_map.mp z
      rfl
    · exact hn s z
theorem Wk.push_all {K : PySem.W.Frag} {F G0 G H : Hp} {σ : L2.St} : ∀ {ds : List D} {vs : List V} {ws : List V}, DqAll G vs ds → Wk K F G0 Γ τ G H σ ws → Wk K F G0 Γ (ds.map Sl.sh ++ τ) G H σ (vs ++ ws)
  | [], _, _, .nil, h => h
  | _ :: _, _, _, .cons a t, h => (Wk.push_all t h).sh a
theorem tg_tup {ts : List Expr} {kk n : Nat} (h : TgzG S ts Γ ds Γ1) (hl : ds.length = n) (hn : ∀ env, (assignEach ts env).length = n) (hst : ∀ env, (assignEach ts env).findIdx? (·.1) = none) : TgG S (.Tuple ts kk pt) Γ (.tuple ds) Γ1 := by
  obtain ⟨u, pu, eu⟩ := h
  refine ⟨gTup S.K n u, fun X I => by rw [← I.K]; exact pg_tup I.calm (pu X I) (hn _) (hst _), fun F G0 G H σ w τ ws hnb wk Q q => ?_⟩
  obtain ⟨O, A⟩ := id wk
  obtain ⟨p, vs, e, hp, B⟩ := A.rdt A.ts.1 .sh
  exact ⟨p, vs, e, st_of hp, by rw [dpa_len B]; exact hl, eu F G0 G H σ vs τ ws hnb (dpa_len B) (wk.drop.push_all B) Q q⟩
theorem gs_asgT {tg : Expr} (he : GE S e Γ [] Γ1 (.sh d)) (ht : TgG S tg Γ1 d Γ2) (k : E.nx Γ2) (hs : ∀ X, S.Is X → swapsWithSole [tg] e pos.line X.env = pure false) (hw : ∀ X, S.Is X → swappedStores [tg] e X.env = pure none) (h1 : ∀ env, (assignEach [tg] env).map (·.2) = [assign tg env]) :
    GS S (.Assign [tg] e pos) Γ E := by
  obtain ⟨te, pe, ee⟩ := he
  obtain ⟨g, pg, eg⟩ := ht
  exact ⟨tAsg te g, fun X I => ps_asg (pe X I) (pg X I) (hs X I) (hw X I) (h1 _), fun F G0 G H σ wk D K => ee F G0 G H σ [] wk _ fun w G1 H1 wk1 => eg F G0 G1 H1 σ w [] [] (fun _ h => nomatch h) wk1 _ fun σ' G' H' wk' => K.nx _ G' H' _ k wk'⟩

/-! ### an owned list is changed -/
theorem Wk.chg_ol {K : PySem.W.Frag} {F G0 G H : Hp} {σ : L2.St} {ws : List V} {w : V} {ds' : List D} (h : Wk K F G0 Γ τ G H σ ws) (hn : NB τ) (hw : σ[i]? = some (some w)) (hi : Γ[i]? = some (.ol ds)) :
    ∃ p vs, w = .ref p ∧ H p = some (.lst vs) ∧ DqAll G vs ds ∧ ∀ vs', DqAll G vs' ds' → Wk K F G0 (Γ.set i (.ol ds')) τ G (upd H p (.lst vs')) σ ws := by
  obtain ⟨O, a⟩ := h
  rcases a.sl i _ hi with z | ⟨w', e, p, vs, e2, o, hp, B⟩
  · cases z
  · rw [hw] at e; cases e
    refine ⟨p, vs, e2, hp, B, fun vs' B' => ?_⟩
    have hil : i < Γ.length := (List.getElem?_eq_some_iff.mp hi).1
    have kk : ∀ b, O b ≠ some (.inl i) → upd H p (.lst vs') b = H b := fun b hb => upd_ne fun z => hb (by rw [z]; exact o)
    have okk : ∀ {id : Id} {w : V} {s : Sl}, id ≠ .inl i → sto s = true → Ok K G H σ O id w s → Ok K G (upd H p (.lst vs')) σ O id w s := fun {id w s} hid hs h => by
      have k2 : ∀ q, O q = some id → upd H p (.lst vs') q = H q := fun q hq => kk q (by rw [hq]; intro z; exact hid (Option.some.inj z))
      cases s with
      | no => trivial
      | sh d => exact h
      | ol ds => obtain ⟨q, us, e, o, hq, b⟩ := h; exact ⟨q, us, e, o, (k2 q o).trans hq, b⟩
      | oll dss => obtain ⟨q, us, e, o, hq, nd, b⟩ := h; exact ⟨q, us, e, o, (k2 q o).trans hq, nd, paired_mono (fun q' ds h => ⟨h.1, let ⟨us, h1, h2⟩ := h.2; ⟨us, (k2 q' h.1).trans h1, h2⟩⟩) b⟩
      | od kvs => obtain ⟨q, us, e, o, hq, b⟩ := h; exact ⟨q, us, e, o, (k2 q o).trans hq, b⟩
      | bo j => cases hs
      | boi j k => cases hs
      | lk ks => exact h
      | ob R => obtain ⟨cs, hc, r⟩ := h; exact ⟨cs, fun c m => ⟨(hc c m).1, (k2 _ (hc c m).1).trans (hc c m).2⟩, r⟩
    have okts : ∀ {ws : List V} {τ : List Sl}, NB τ → OkTs K G H σ O ws τ → OkTs K G (upd H p (.lst vs')) σ O ws τ := by
      intro ws τ
      induction τ generalizing ws with
      | nil => intro _ h; cases ws with
        | nil => trivial
        | cons _ _ => exact h
      | cons s τ ih => intro hn h; cases ws with
        | nil => exact h
        | cons w ws => exact ⟨okk (by intro z; cases z) (hn s (by simp)) h.1, ih (fun s hs => hn s (by simp [hs])) h.2⟩
    have gp := (a.own p (by rw [o]; simp)).1
    have fp := (a.own p (by rw [o]; simp)).2
    refine ⟨O, by simp [a.len], fun j s e => ?_, okts hn a.ts, a.own, a.g0, fun b u hb => ?_, fun b u hb => ?_, a.gf⟩
    · by_cases hj : i = j
      · subst hj
        rw [List.getElem?_set_self hil] at e
        cases e
        exact .inr ⟨w, hw, p, vs', e2, o, upd_same, B'⟩
      · rw [List.getElem?_set_ne hj] at e
        rcases a.sl j s e with z | ⟨w', e', h'⟩
        · exact .inl z
        · exact .inr ⟨w', e', okk (fun z => hj (Sum.inl.inj z).symm) (a.sto e) h'⟩
    · rw [upd_ne (ne_of_none hb gp)]; exact a.gh b u hb
    · rw [upd_ne (ne_of_none hb fp)]; exact a.fh b u hb
/-- xs.append(e), e shared -/
theorem gs_app {apos : Pos} {ds0 : List D} (ho : GE S a Γ [] Γ (.bo i)) (hi0 : Γ[i]? = some (.ol ds0)) (he : GE S e Γ [.bo i] Γ1 (.sh d)) (hi : Γ1[i]? = some (.ol ds)) (hl : ds.length < 100000) (k : E.nx (Γ1.set i (.ol (ds ++ [d]))))
    (hb : ∀ X, S.Is X → attributeBase a "append" X.env (eval a X.env) = eval a X.env) (hline : (apos.endLine == p.line) = true) (hs : ∀ env, starEach (e :: []) env = (false, eval e env) :: starEach [] env) :
    GS S (.Expr (.Call (.Attribute a "append" apos) [e] [] p) pos) Γ E := by
  obtain ⟨ta, pa, ea⟩ := ho
  obtain ⟨te, pe, ee⟩ := he
  refine ⟨tDrop (tBM S.K "list" rAppend ta (tCons te tNil)), fun X I => ?_, fun F G0 G H σ wk D K => ea F G0 G H σ [] wk _ fun w G1 H1 wk1 => ?_⟩
  · rw [← I.K]
    refine ps_expr (pe_bm PySem.F.plainAttrs_list PySem.F.slot_list_append PySem.F.type_list_append mt_append (pa X I) (pa_cons (pe X I) pa_nil (hs _)) (hb X I) ?_ hline (hs _) rfl) rfl
    rw [hs]
    rfl
  · obtain ⟨O, A⟩ := id wk1
    have hw := A.ts.1.2
    refine ⟨?_, ee F G0 G1 H1 σ _ wk1 _ fun w2 G2 H2 wk2 => ?_⟩
    · obtain ⟨p, vs, e, _, hp, B⟩ := A.own_ol A.ts.1 hi0
      subst e
      exact .inl ⟨rfl, vs, sq_of hp⟩
    · obtain ⟨p, vs, e, hp, B, kk⟩ := wk2.drop.drop.chg_ol (ds' := ds ++ [d]) (fun _ h => nomatch h) hw hi
      exact ⟨p, vs, w2, e, rfl, hp, sz_lt (by rw [dpa_len B]; exact hl), K.nx _ _ _ _ k (kk _ (dpa_app B (.cons wk2.top_sh .nil)))⟩
end
end Lf
set_option maxHeartbeats 4000000
namespace Lf
open PySem L2 Evl
section
variable {S : Stat} {Γ Γ1 Γ2 Γ3 τ : List Sl} {s s1 s2 s3 : Sl} {a b c e o : Expr} {es : List Expr} {pos p p2 : Pos} {d : D} {ds : List D} {E : Endv} {st : Stmt} {sts : List Stmt} {i j k : Nat} {x y : Str}
/-- the ground takes what belongs to id -/
def grd (G H : Hp) (O : Own) (id : Id) : Hp := fun b => if O b = some id then H b else G b
theorem grd_ex {G H : Hp} {O : Own} {id : Id} (h : ∀ b, O b ≠ none → G b = none) : Ex G (grd G H O id) := fun b u e => by
  unfold grd
  rw [if_neg (fun z => by rw [h b (by rw [z]; simp)] at e; cases e)]
  exact e
theorem grd_to {G H : Hp} {O : Own} {id : Id} (h : Ex G H) : Ex (grd G H O id) H := fun b u e => by
  unfold grd at e
  split at e
  · exact e
  · exact h b u e
theorem grd_at {G H : Hp} {O : Own} {id : Id} {b : Addr} (h : O b = some id) : grd G H O id b = H b := if_pos h
theorem dqa_at {G : Hp} : ∀ {ps : List Addr} {dss : List (List D)}, Paired (fun q ds => ∃ vs, G q = some (.lst vs) ∧ DqAll G vs ds) ps dss → DqAll G (ps.map V.ref) (dss.map PyData.list)
  | _, _, .nil => .nil
  | _, _, .cons ⟨vs, h1, h2⟩ t => .cons (.lst h1 h2) (dqa_at t)
/-- the data of a slot that may be frozen -/
inductive Frz : Sl → D → Prop
  | ol {us : List D} : Frz (.ol us) (.list us)
  | oll {dss : List (List D)} : Frz (.oll dss) (.list (dss.map .list))
theorem Ok.frozen {K : PySem.W.Frag} {G H : Hp} {σ : L2.St} {O : Own} {id : Id} {w : V} (f : Frz s d) (hg : ∀ b, O b ≠ none → G b = none) (h : Ok K G H σ O id w s) : Dq (grd G H O id) w d := by
  cases f with
  | ol =>
    obtain ⟨p, vs, e, o, hp, B⟩ := h
    subst e
    exact .lst ((grd_at o).trans hp) (dpa_ex (grd_ex hg) _ _ B)
  | oll =>
    obtain ⟨p, ps, e, o, hp, nd, B⟩ := h
    subst e
    refine .lst ((grd_at o).trans hp) (dqa_at (paired_mono (fun q ds h => ?_) B))
    obtain ⟨oq, vs, hq, Bq⟩ := h
    exact ⟨vs, (grd_at oq).trans hq, dpa_ex (grd_ex hg) _ _ Bq⟩
/-- others keep what is theirs -/
theorem Ok.ground {K : PySem.W.Frag} {G H : Hp} {σ : L2.St} {O : Own} {id id' : Id} {w : V} (hg : ∀ b, O b ≠ none → G b = none) (ne : id' ≠ id) (nb : sto s = true) (h : Ok K G H σ O id' w s) : Ok K (grd G H O id) H σ (fun b => if O b = some id then none else O b) id' w s := by
  have eg : Ex G (grd G H O id) := grd_ex hg
  have ko : ∀ b, O b = some id' → (if O b = some id then none else O b) = some id' := fun b e => by rw [e, if_neg (fun z => ne (Option.some.inj z))]
  cases s with
  | no => trivial
  | sh d => exact dp_ex eg d w h
  | ol ds => obtain ⟨p, vs, e, o, hp, B⟩ := h; exact ⟨p, vs, e, ko p o, hp, dpa_ex eg _ _ B⟩
  | oll dss => obtain ⟨p, ps, e, o, hp, nd, B⟩ := h; exact ⟨p, ps, e, ko p o, hp, nd, paired_mono (fun q ds h => ⟨ko q h.1, let ⟨vs, h1, h2⟩ := h.2; ⟨vs, h1, dpa_ex eg _ _ h2⟩⟩) B⟩
  | od kvs => obtain ⟨p, vs, e, o, hp, B⟩ := h; exact ⟨p, vs, e, ko p o, hp, paired_mono (fun x y h => ⟨h.1, dp_ex eg _ _ h.2⟩) B⟩
  | bo j => cases nb
  | boi j k => cases nb
  | lk ks => obtain ⟨p, od, vs, e, h, m⟩ := h; exact ⟨p, od, vs, e, eg _ _ h, m⟩
  | ob R => obtain ⟨cs, hc, r⟩ := h; exact ⟨cs, fun c m => ⟨ko _ (hc c m).1, (hc c m).2⟩, r⟩
theorem Ok.groundB {K : PySem.W.Frag} {G H : Hp} {σ : L2.St} {O : Own} {id' : Id} {w : V} (h : Ok K G H σ O id' w (.bo j)) {G' : Hp} {O' : Own} : Ok K G' H σ O' id' w (.bo j) := h
/-- a slot is frozen: temporaries may borrow it whole -/
theorem Wk.frzS {K : PySem.W.Frag} {F G0 G H : Hp} {σ : L2.St} {ws : List V} {w : V} (h : Wk K F G0 Γ τ G H σ ws) (hn : ∀ s, s ∈ τ → sto s = true ∨ ∃ j, s = .bo j) (hw : σ[i]? = some (some w)) (hi : Γ[i]? = some s) (f : Frz s d) :
    ∃ G', Wk K F G0 (Γ.set i (.sh d)) τ G' H σ ws ∧ Dq G' w d := by
  obtain ⟨O, a⟩ := h
  have hg : ∀ b, O b ≠ none → G b = none := fun b hb => (a.own b hb).1
  have hil : i < Γ.length := (List.getElem?_eq_some_iff.mp hi).1
  have hD : Dq (grd G H O (.inl i)) w d := by
    rcases a.sl i _ hi with z | ⟨w', e, h'⟩
    · rw [z] at f; cases f
    · rw [hw] at e; cases e
      exact h'.frozen f hg
  have okts : ∀ {ws : List V} {τ : List Sl}, (∀ s, s ∈ τ → sto s = true ∨ ∃ j, s = .bo j) → OkTs K G H σ O ws τ → OkTs K (grd G H O (.inl i)) H σ (fun b => if O b = some (.inl i) then none else O b) ws τ := by
    intro ws τ
    induction τ generalizing ws with
    | nil => intro _ h; cases ws with
      | nil => trivial
      | cons _ _ => exact h
    | cons s τ ih => intro hn h; cases ws with
      | nil => exact h
      | cons w ws =>
        refine ⟨?_, ih (fun s hs => hn s (by simp [hs])) h.2⟩
        rcases hn s (by simp) with z | ⟨j, z⟩
        · exact h.1.ground hg (by intro z; cases z) z
        · subst z; exact h.1
  refine ⟨grd G H O (.inl i), ⟨fun b => if O b = some (.inl i) then none else O b, by simp [a.len], fun j s' e => ?_, okts hn a.ts, fun b hb => ?_, a.g0.trans (grd_ex hg), grd_to a.gh, a.fh, fun b hb => ?_⟩, hD⟩
  · by_cases hj : i = j
    · subst hj
      rw [List.getElem?_set_self hil] at e
      cases e
      exact .inr ⟨w, hw, hD⟩
    · rw [List.getElem?_set_ne hj] at e
      rcases a.sl j s' e with z | ⟨w', e', h'⟩
      · exact .inl z
      · exact .inr ⟨w', e', h'.ground hg (fun z => hj (Sum.inl.inj z).symm) (a.sto e)⟩
  · by_cases z : O b = some (.inl i)
    · exact absurd (if_pos z) hb
    · have hb' : O b ≠ none := by simpa [z] using hb
      exact ⟨by unfold grd; rw [if_neg z]; exact hg b hb', (a.own b hb').2⟩
  · by_cases z : O b = some (.inl i)
    · exact .inr (a.own b (by rw [z]; simp)).2
    · unfold grd at hb; rw [if_neg z] at hb; exact a.gf b hb
/-- a borrowed slot is frozen as it is read -/
theorem ge_frzB {si : Sl} (h : GE S e Γ τ Γ1 (.bo i)) (hi : Γ1[i]? = some si) (f : Frz si d) (hn : ∀ s, s ∈ τ → sto s = true ∨ ∃ j, s = .bo j) : GE S e Γ τ (Γ1.set i (.sh d)) (.sh d) := by
  obtain ⟨te, pe, ee⟩ := h
  refine ⟨te, pe, fun F G0 G H σ ws wk Q q => ee F G0 G H σ ws wk _ fun w G1 H1 wk1 => ?_⟩
  obtain ⟨O, A⟩ := id wk1
  have hw := A.ts.1.2
  obtain ⟨G2, wk2, hd⟩ := wk1.drop.frzS hn hw hi f
  exact q w G2 H1 (wk2.sh hd)
/-- a new object is frozen -/
theorem ge_frzO (h : GE S e Γ τ Γ1 s) (f : Frz s d) (hn : ∀ s, s ∈ τ → sto s = true ∨ ∃ j, s = .bo j) : GE S e Γ τ Γ1 (.sh d) := by
  obtain ⟨te, pe, ee⟩ := h
  refine ⟨te, pe, fun F G0 G H σ ws wk Q q => ee F G0 G H σ ws wk _ fun w G1 H1 wk1 => ?_⟩
  obtain ⟨O, a⟩ := id wk1
  have hg : ∀ b, O b ≠ none → G1 b = none := fun b hb => (a.own b hb).1
  have hlen := a.ts.2.len
  have okts : ∀ {ws : List V} {τ' : List Sl}, τ'.length ≤ τ.length → (∀ s, s ∈ τ' → sto s = true ∨ ∃ j, s = .bo j) → OkTs S.K G1 H1 σ O ws τ' → OkTs S.K (grd G1 H1 O (.inr τ.length)) H1 σ (fun b => if O b = some (.inr τ.length) then none else O b) ws τ' := by
    intro ws τ'
    induction τ' generalizing ws with
    | nil => intro _ _ h; cases ws with
      | nil => trivial
      | cons _ _ => exact h
    | cons s τ' ih => intro hl hn h; cases ws with
      | nil => exact h
      | cons w ws =>
        simp only [List.length_cons] at hl
        refine ⟨?_, ih (by omega) (fun s hs => hn s (by simp [hs])) h.2⟩
        rcases hn s (by simp) with z | ⟨j, z⟩
        · exact h.1.ground hg (by intro z; have := Sum.inr.inj z; omega) z
        · subst z; exact h.1
  refine q w (grd G1 H1 O (.inr τ.length)) H1 ⟨fun b => if O b = some (.inr τ.length) then none else O b, a.len, fun j s' e => ?_, ⟨a.ts.1.frozen f hg, okts (Nat.le_refl _) hn a.ts.2⟩, fun b hb => ?_, a.g0.trans (grd_ex hg), grd_to a.gh, a.fh, fun b hb => ?_⟩
  · rcases a.sl j s' e with z | ⟨w', e', h'⟩
    · exact .inl z
    · exact .inr ⟨w', e', h'.ground hg (fun z => by cases z) (a.sto e)⟩
  · by_cases z : O b = some (.inr τ.length)
    · exact absurd (if_pos z) hb
    · have hb' : O b ≠ none := by simpa [z] using hb
      exact ⟨by unfold grd; rw [if_neg z]; exact hg b hb', (a.own b hb').2⟩
  · by_cases z : O b = some (.inr τ.length)
    · exact .inr (a.own b (by rw [z]; simp)).2
    · unfold grd at hb; rw [if_neg z] at hb; exact a.gf b hb

/-! ### what a def hands back -/
inductive RetOk (Γ : List Sl) : Sl → D → Prop
  | sh {u : D} : RetOk Γ (.sh u) u
  | own {t : Sl} {u : D} (f : Frz t u) : RetOk Γ t u
  | bo {n : Nat} {t : Sl} {u : D} (h : Γ[n]? = some t) (f : Frz t u) : RetOk Γ (.bo n) u
theorem Wk.ret {K : PySem.W.Frag} {F G0 G H : Hp} {σ : L2.St} {w : V} (h : Wk K F G0 Γ [s] G H σ [w]) (r : RetOk Γ s d) : ∃ G', Ex G0 G' ∧ Ex G' H ∧ (∀ a, G' a ≠ none → G0 a ≠ none ∨ F a = none) ∧ Dq G' w d := by
  obtain ⟨O, a⟩ := h
  have hg : ∀ b, O b ≠ none → G b = none := fun b hb => (a.own b hb).1
  have cond : ∀ id b, grd G H O id b ≠ none → G0 b ≠ none ∨ F b = none := fun id b hb => by
    by_cases z : O b = some id
    · exact .inr (a.own b (by rw [z]; simp)).2
    · unfold grd at hb; rw [if_neg z] at hb; exact a.gf b hb
  cases r with
  | sh => exact ⟨G, a.g0, a.gh, a.gf, a.ts.1⟩
  | own f => exact ⟨_, a.g0.trans (grd_ex hg), grd_to a.gh, cond _, a.ts.1.frozen f hg⟩
  | @bo i s' d hi f =>
    have hw := a.ts.1.2
    rcases a.sl i _ hi with z | ⟨w', e, h'⟩
    · rw [z] at f; cases f
    · rw [hw] at e; cases e
      exact ⟨_, a.g0.trans (grd_ex hg), grd_to a.gh, cond _, h'.frozen f hg⟩
def startG (N : List Str) (ds : List D) : List Sl := ds.map Sl.sh ++ List.replicate (N.length - ds.length) .no
def retE (r : D) : Endv := ⟨fun _ => r = .none, fun Γ s => RetOk Γ s r, fun _ => False, fun _ => False⟩
def stOf (P : Program) (w : World) (K : PySem.W.Frag) (mg : Str → Option Value) (base : Heap) (N : List Str) (sc : Scope) (k : Nat) : Stat := ⟨P, w, K, mg, base, N, sc.names, fun _ => true, k⟩
theorem wk_start {K : PySem.W.Frag} {N : List Str} {G H : Hp} {vs : List V} {ds : List D} (gh : Ex G H) (B : DqAll G vs ds) : Wk K H G (startG N ds) [] G H (L2.start N vs) [] := by
  have hl := dpa_len B
  refine ⟨fun _ => none, by simp [startG, L2.start, hl], fun i s e => ?_, trivial, fun a h => absurd rfl h, Ex.refl _, gh, Ex.refl _, fun a h => .inl h⟩
  unfold startG at e
  by_cases hi : i < ds.length
  · rw [List.getElem?_append_left (by simpa using hi), List.getElem?_map, List.getElem?_eq_getElem hi] at e
    simp at e
    subst e
    obtain ⟨v, hv, hd⟩ := dpa_get B (List.getElem?_eq_getElem hi)
    refine .inr ⟨v, ?_, hd⟩
    unfold L2.start
    rw [List.getElem?_append_left (by simp; omega), List.getElem?_map, hv]
    rfl
  · rw [List.getElem?_append_right (by simp; omega)] at e
    have := List.mem_of_getElem? e
    exact .inl (List.mem_replicate.mp this).2
/-- THE RULE for a def: data in, data out -/
theorem fn_pure {P : Program} {w : World} {K : PySem.W.Frag} {mg : Str → Option Value} {base : Heap} {x qual : Str} {st : Stmt} {f : Addr} {fd : FuncData} {N ps : List Str} {k : Nat} {pre : List D → D → Prop} (F : Fun K x qual st f fd) (hS : FnScope N ps (defScope st))
    (hlen : ∀ ds r, pre ds r → ds.length = ps.length) (body : ∀ ds r, pre ds r → GSs (stOf P w K mg base N (defScope st) k) (defBody st) (startG N ds) (retE r)) : FnOk P w K mg base CX0 (k + 1) f fd ps (pureSp pre) := by
  refine F.ok hS (fun vs H Q E h => ?_) (fun cdv A outer s H vs Q E hr h => ?_)
  · obtain ⟨G, ds, r, _, B, hp, _⟩ := h
    rw [dpa_len B]
    exact hlen ds r hp
  · obtain ⟨G, ds, r, gh, B, hp, q⟩ := h
    obtain ⟨t, pt, et⟩ := body ds r hp
    refine ⟨t, pt _ ⟨rfl, rfl, rfl, rfl, rfl, rfl, rfl, hS.kind, rfl, rfl, hr, rfl, hS.nd⟩, et H G G H _ (wk_start gh B) _ ⟨fun Γ G1 H1 σ hn wk => ?_, fun Γ s w G1 H1 σ hr wk => ?_, fun _ _ _ _ h => h.elim, fun _ _ _ _ h => h.elim⟩⟩
    · obtain ⟨O, a⟩ := wk
      cases (show r = .none from hn)
      exact q .non G1 H1 a.g0 a.gh a.fh a.gf .non
    · have fh : Ex H H1 := let ⟨_, a⟩ := wk; a.fh
      obtain ⟨G2, g1, g2, g3, hd⟩ := wk.ret hr
      exact q w G2 H1 g1 g2 fh g3 hd
theorem fn_at {P : Program} {w : World} {K : PySem.W.Frag} {mg : Str → Option Value} {base : Heap} {x : Str} {k : Nat} {sp : Sp} {f : Addr} {fd : FuncData} {ps : List Str} (F : FnOk P w K mg base CX0 k f fd ps sp) (hm : mg x = some (.ref f)) (hk : PySem.W.keepIn K (.ref f) = true) (hb : Binds K fd ps []) : FnS P w K mg base x k sp :=
  ⟨f, fd, ps, hm, hk, hb, F⟩
end
end Lf
set_option maxHeartbeats 4000000
namespace Lf
open PySem L2 Evl
mutual
/-- a target: a name, or a tuple of targets -/
inductive Pt where
  | nm (i : Nat)
  | tp (ps : Pts)
inductive Pts where
  | nil
  | cons (p : Pt) (ps : Pts)
end
mutual
def Pt.slots : Pt → List Nat
  | .nm i => [i]
  | .tp ps => ps.slots
def Pts.slots : Pts → List Nat
  | .nil => []
  | .cons p ps => p.slots ++ ps.slots
end
def Pts.size : Pts → Nat
  | .nil => 0
  | .cons _ ps => ps.size + 1
mutual
def bindP : Pt → D → List Sl → Option (List Sl)
  | .nm i, d, Γ => if i < Γ.length then some (Γ.set i (.sh d)) else none
  | .tp ps, .tuple ds, Γ => bindPs ps ds Γ
  | .tp _, _, _ => none
def bindPs : Pts → List D → List Sl → Option (List Sl)
  | .nil, [], Γ => some Γ
  | .cons p ps, d :: ds, Γ => (bindP p d Γ).bind fun Γ' => bindPs ps ds Γ'
  | _, _, _ => none
end
mutual
def gPt (K : PySem.W.Frag) : Pt → L2.TG
  | .nm i => gName i
  | .tp ps => gTup K ps.size (gPts K ps)
def gPts (K : PySem.W.Frag) : Pts → L2.TGs
  | .nil => gNil
  | .cons p ps => gCons (gPt K p) (gPts K ps)
end
/-- slots outside are as they were -/
def Out (is : List Nat) (σ σ' : L2.St) : Prop := σ'.length = σ.length ∧ ∀ j, j ∉ is → σ'[j]? = σ[j]?
theorem Out.trans {is js : List Nat} {σ σ1 σ2 : L2.St} (a : Out is σ σ1) (b : Out js σ1 σ2) : Out (is ++ js) σ σ2 :=
  ⟨b.1.trans a.1, fun j hj => (b.2 j fun h => hj (by simp [h])).trans (a.2 j fun h => hj (by simp [h]))⟩
section
variable {K : PySem.W.Frag} {F G0 G H : Hp} {τ : List Sl} {ws : List V}
mutual
theorem bind_ok : ∀ {p : Pt} {d : D} {Γ Γ' : List Sl} {σ : L2.St} {w : V}, bindP p d Γ = some Γ' → NB τ → Wk K F G0 Γ (.sh d :: τ) G H σ (w :: ws) →
    ∃ σ', Wk K F G0 Γ' τ G H σ' ws ∧ Out p.slots σ σ' ∧ ∀ Q : L2.St → Hp → Prop, Q σ' H → gPt K p w σ H Q
  | .nm i, d, Γ, Γ', σ, w, e, hn, wk => by
    unfold bindP at e
    split at e
    · cases e
      refine ⟨σ.set i (some w), wk.storeT rfl hn (by assumption), ⟨by simp, fun j hj => List.getElem?_set_ne (fun z => hj (by simp [Pt.slots, z]))⟩, fun Q q => q⟩
    · cases e
  | .tp ps, d, Γ, Γ', σ, w, e, hn, wk => by
    cases d with
    | tuple ds =>
      unfold bindP at e
      obtain ⟨O, A⟩ := id wk
      obtain ⟨p, vs, ew, hp, B⟩ := A.rdt A.ts.1 .sh
      obtain ⟨σ', wk', ho, hl, k⟩ := binds_ok e hn B wk.drop
      exact ⟨σ', wk', ho, fun Q q => ⟨p, vs, ew, st_of hp, (dpa_len B).trans hl, k Q q⟩⟩
    | _ => unfold bindP at e; cases e
theorem binds_ok : ∀ {ps : Pts} {ds : List D} {Γ Γ' : List Sl} {σ : L2.St} {vs : List V}, bindPs ps ds Γ = some Γ' → NB τ → DqAll G vs ds → Wk K F G0 Γ τ G H σ ws →
    ∃ σ', Wk K F G0 Γ' τ G H σ' ws ∧ Out ps.slots σ σ' ∧ ds.length = ps.size ∧ ∀ Q : L2.St → Hp → Prop, Q σ' H → gPts K ps vs σ H Q
  | .nil, ds, Γ, Γ', σ, vs, e, hn, B, wk => by
    cases ds with
    | nil =>
      unfold bindPs at e
      cases e
      cases B
      exact ⟨σ, wk, ⟨rfl, fun _ _ => rfl⟩, rfl, fun Q q => ⟨rfl, q⟩⟩
    | cons d ds => unfold bindPs at e; cases e
  | .cons p ps, ds, Γ, Γ', σ, vs, e, hn, B, wk => by
    cases ds with
    | nil => unfold bindPs at e; cases e
    | cons d ds =>
      unfold bindPs at e
      cases e1 : bindP p d Γ with
      | none => rw [e1] at e; cases e
      | some Γ1 =>
        rw [e1] at e
        cases B with
        | cons hv B =>
          obtain ⟨σ1, wk1, o1, k1⟩ := bind_ok e1 hn (wk.sh hv)
          obtain ⟨σ2, wk2, o2, hl, k2⟩ := binds_ok (show bindPs ps ds Γ1 = some Γ' from e) hn B wk1
          exact ⟨σ2, wk2, o1.trans o2, by simp [Pts.size, hl], fun Q q => ⟨_, _, rfl, k1 _ (k2 Q q)⟩⟩
end
end

section
variable {S : Stat} {Γ Γ1 Γ2 Γ3 τ : List Sl} {s s1 s2 s3 : Sl} {a b c e o tg : Expr} {es : List Expr} {pos p p2 pt : Pos} {d : D} {ds : List D} {E : Endv} {st : Stmt} {sts : List Stmt} {i j k : Nat} {x y : Str}
def PgG (S : Stat) (tg : Expr) (p : Pt) : Prop := ∀ X, S.Is X → PG X tg (gPt S.K p)
def PgsG (S : Stat) (tgs : List Expr) (p : Pts) : Prop := ∀ X, S.Is X → PGs X tgs (gPts S.K p)
theorem pg_nm {px : Pos} (hN : S.N[i]? = some x) (hx : LocS S x) : PgG S (.Name x px) (.nm i) := fun X I => pg_name I.nd' (by rw [I.N]; exact hN) (hx.loc I) (hx.fn I)
theorem pgs_nl : PgsG S [] .nil := fun X I => pgs_nil
theorem pgs_cn {t : Expr} {ts : List Expr} {pp : Pt} {pps : Pts} (h1 : PgG S t pp) (h2 : PgsG S ts pps) (hs : ∀ env, (assignEach (t :: ts) env).map (·.2) = assign t env :: (assignEach ts env).map (·.2)) : PgsG S (t :: ts) (.cons pp pps) :=
  fun X I => pgs_cons (h1 X I) (h2 X I) (hs _)
theorem pg_tp {ts : List Expr} {kk : Nat} {pps : Pts} (h : PgsG S ts pps) (hn : ∀ env, (assignEach ts env).length = pps.size) (hst : ∀ env, (assignEach ts env).findIdx? (·.1) = none) : PgG S (.Tuple ts kk pt) (.tp pps) := fun X I => by
  show PG X _ (gTup S.K pps.size (gPts S.K pps))
  rw [← I.K]
  have h' := h X I
  rw [← I.K] at h'
  exact pg_tup I.calm h' (hn _) (hst _)

/-! ### what is walked -/
def YieldsG (J : It) (G : Hp) (L : List D) : Prop := ∀ i G2 H2, Ex G G2 → Ex G2 H2 → (i < L.length → J.go i H2) ∧ (L.length ≤ i → J.stop i H2) ∧
  ∀ x H', i < L.length → J.yld i H2 x H' → ∃ d, L[i]? = some d ∧ ((H' = H2 ∧ Dq G2 x d) ∨ ∃ T vs ds, H2 T = none ∧ x = .ref T ∧ H' = upd H2 T (.tup vs) ∧ d = .tuple ds ∧ DqAll G2 vs ds)
def IG (S : Stat) (tg iter : Expr) (Γ τ Γ' : List Sl) (L : List D) : Prop := ∃ wi, (∀ X, S.Is X → PI X tg iter wi) ∧
  ∀ F G0 G H σ ws, Wk S.K F G0 Γ τ G H σ ws → ∀ R : It → Hp → Prop, (∀ J G1 H1, Wk S.K F G0 Γ' τ G1 H1 σ ws → YieldsG J G1 L → R J H1) → wi σ H R
theorem YieldsG.turn {K : PySem.W.Frag} {F G0 G1 G2 H2 H' : Hp} {σ : L2.St} {ws : List V} {J : It} {L : List D} {n : Nat} {w : V} (h : YieldsG J G1 L) (e : Ex G1 G2) (wk : Wk K F G0 Γ τ G2 H2 σ ws) (hn : n < L.length) (y : J.yld n H2 w H') :
    ∃ d G3, L[n]? = some d ∧ Ex G2 G3 ∧ Wk K F G0 Γ (.sh d :: τ) G3 H' σ (w :: ws) := by
  obtain ⟨d, hd, h | ⟨T, vs, ds, hT, ex, eh, ed, B⟩⟩ := (h n G2 H2 e wk.gh).2.2 w H' hn y
  · obtain ⟨eh, hq⟩ := h
    subst eh
    exact ⟨d, G2, hd, Ex.refl _, wk.sh hq⟩
  · subst ex eh ed
    exact ⟨_, _, hd, Ex.new (fresh_back wk.gh hT), wk.newT hT B⟩
theorem sql_at {K : PySem.W.Frag} {G H : Hp} {p : Addr} {vs : List V} (e : Ex G H) (h : G p = some (.lst vs)) : SqL K H p vs := sq_of (e _ _ h)
theorem yields_list {K : PySem.W.Frag} {G : Hp} {p : Addr} {vs : List V} {L : List D} (hp : G p = some (.lst vs)) (B : DqAll G vs L) : YieldsG (Itl K p) G L := fun i G2 H2 e1 e2 => by
  have hq : SqL K H2 p vs := sq_of (e2 _ _ (e1 _ _ hp))
  have hl := dpa_len B
  refine ⟨fun hi => ⟨vs, vs[i], hq, by simp⟩, fun hi => ⟨vs, hq, by omega⟩, fun x H' hi y => ?_⟩
  obtain ⟨v, hv, hd⟩ := dpa_get B (List.getElem?_eq_getElem hi)
  have := y.2 vs hq
  rw [hv] at this
  cases this
  exact ⟨_, List.getElem?_eq_getElem hi, .inl ⟨y.1, dp_ex e1 _ _ hd⟩⟩
theorem yields_tup {K : PySem.W.Frag} {G : Hp} {p : Addr} {vs : List V} {L : List D} (hp : G p = some (.tup vs)) (B : DqAll G vs L) : YieldsG (Itt K p) G L := fun i G2 H2 e1 e2 => by
  have hq : SqT K H2 p vs := st_of (e2 _ _ (e1 _ _ hp))
  have hl := dpa_len B
  refine ⟨fun hi => ⟨vs, vs[i], hq, by simp⟩, fun hi => ⟨vs, hq, by omega⟩, fun x H' hi y => ?_⟩
  obtain ⟨v, hv, hd⟩ := dpa_get B (List.getElem?_eq_getElem hi)
  have := y.2 vs hq
  rw [hv] at this
  cases this
  exact ⟨_, List.getElem?_eq_getElem hi, .inl ⟨y.1, dp_ex e1 _ _ hd⟩⟩
theorem ig_list {L : List D} (h : GE S e Γ τ Γ1 (.sh (.list L))) : IG S tg e Γ τ Γ1 L := by
  obtain ⟨te, pe, ee⟩ := h
  refine ⟨iList S.K te, fun X I => by rw [← I.K]; exact pi_list (pe X I), fun F G0 G H σ ws wk R r => ee F G0 G H σ ws wk _ fun w G1 H1 wk1 => ?_⟩
  have := wk1.top_sh
  cases this with
  | lst hp B => exact ⟨_, rfl, ⟨_, sq_of (wk1.gh _ _ hp)⟩, r _ G1 H1 wk1.drop (yields_list hp B)⟩
theorem ig_tup {L : List D} (h : GE S e Γ τ Γ1 (.sh (.tuple L))) : IG S tg e Γ τ Γ1 L := by
  obtain ⟨te, pe, ee⟩ := h
  refine ⟨iTup S.K te, fun X I => by rw [← I.K]; exact pi_tup (pe X I), fun F G0 G H σ ws wk R r => ee F G0 G H σ ws wk _ fun w G1 H1 wk1 => ?_⟩
  have := wk1.top_sh
  cases this with
  | tup hp B => exact ⟨_, rfl, ⟨_, st_of (wk1.gh _ _ hp)⟩, r _ G1 H1 wk1.drop (yields_tup hp B)⟩
/-- lo, lo + c, .. -/
def rgD (lo c : Int) (n : Nat) : List D := (List.range n).map fun i => .int (lo + (i : Nat) * c)
theorem yields_rg {G : Hp} {lo : Int} {n : Nat} : YieldsG (Itr lo n) G (rgD lo 1 n) := fun i G2 H2 e1 e2 => by
  have hl : (rgD lo 1 n).length = n := by simp [rgD]
  refine ⟨fun hi => by rw [hl] at hi; exact hi, fun hi => by rw [hl] at hi; exact hi, fun x H' hi y => ?_⟩
  rw [hl] at hi
  refine ⟨.int (lo + (i : Nat)), ?_, .inl ⟨y.1, ?_⟩⟩
  · unfold rgD
    rw [List.getElem?_map, List.getElem?_range hi]
    simp
  · rw [y.2]; exact .int _
theorem yields_rgC {G : Hp} {lo c : Int} {n : Nat} : YieldsG (Itc lo c n) G (rgD lo c n) := fun i G2 H2 e1 e2 => by
  have hl : (rgD lo c n).length = n := by simp [rgD]
  refine ⟨fun hi => by rw [hl] at hi; exact hi, fun hi => by rw [hl] at hi; exact hi, fun x H' hi y => ?_⟩
  rw [hl] at hi
  refine ⟨.int (lo + (i : Nat) * c), ?_, .inl ⟨y.1, ?_⟩⟩
  · unfold rgD
    rw [List.getElem?_map, List.getElem?_range hi]
    rfl
  · rw [y.2]; exact .int _
theorem ig_rg1 {n : Int} (hg : GlB S "range") (hm : S.mg "range" = none) (ha : GE S e Γ τ Γ1 (.sh (.int n))) (hn : -(2 ^ 62) ≤ n ∧ n < 2 ^ 62) (he : ∀ env, starEach [e] env = [(false, eval e env)]) :
    IG S tg (.Call (.Name "range" p) [e] [] pos) Γ τ Γ1 (rgD 0 1 n.toNat) := by
  obtain ⟨te, pe, ee⟩ := ha
  refine ⟨iRng1 (tCons te tNil), fun X I => pi_range1 (I.gl hg) (by rw [I.mg]; exact hm) (pa_cons (pe X I) pa_nil (he _)) (he _), fun F G0 G H σ ws wk R r => ee F G0 G H σ ws wk _ fun w G1 H1 wk1 => ?_⟩
  have := wk1.top_sh
  cases this
  exact ⟨n, rfl, hn.1, hn.2, r _ G1 H1 wk1.drop yields_rg⟩
theorem ig_rg2 {lo n : Int} (hg : GlB S "range") (hm : S.mg "range" = none) (ha : GE S a Γ τ Γ1 (.sh (.int lo))) (hb : GE S b Γ1 (.sh (.int lo) :: τ) Γ2 (.sh (.int n))) (hn : -(2 ^ 62) ≤ lo ∧ lo < 2 ^ 62 ∧ -(2 ^ 62) ≤ n ∧ n < 2 ^ 62)
    (he : ∀ env, starEach [a, b] env = [(false, eval a env), (false, eval b env)]) (he2 : ∀ env, starEach [b] env = [(false, eval b env)]) : IG S tg (.Call (.Name "range" p) [a, b] [] pos) Γ τ Γ2 (rgD lo 1 (n - lo).toNat) := by
  obtain ⟨ta, pa, ea⟩ := ha
  obtain ⟨tb, pb, eb⟩ := hb
  refine ⟨iRng2 (tCons ta (tCons tb tNil)), fun X I => pi_range2 (I.gl hg) (by rw [I.mg]; exact hm) (pa_cons (pa X I) (pa_cons (pb X I) pa_nil (he2 _)) (by rw [he, he2])) (he _) (he2 _), fun F G0 G H σ ws wk R r => ea F G0 G H σ ws wk _ fun w G1 H1 wk1 => eb F G0 G1 H1 σ _ wk1 _ fun w2 G2 H2 wk2 => ?_⟩
  have h1 := wk2.top_sh
  have h2 := wk2.drop.top_sh
  cases h1
  cases h2
  exact ⟨lo, n, rfl, hn, r _ G2 H2 wk2.drop.drop yields_rg⟩
/-- range(hi, lo, -1) -/
theorem ig_rg3 {hi lo : Int} (hg : GlB S "range") (hm : S.mg "range" = none) (ha : GE S a Γ τ Γ1 (.sh (.int hi))) (hb : GE S b Γ1 (.sh (.int hi) :: τ) Γ2 (.sh (.int lo))) (hc : GE S c Γ2 (.sh (.int lo) :: .sh (.int hi) :: τ) Γ3 (.sh (.int (-1)))) (hn : -(2 ^ 62) ≤ hi ∧ hi < 2 ^ 62 ∧ -(2 ^ 62) ≤ lo ∧ lo < 2 ^ 62)
    (he : ∀ env, starEach [a, b, c] env = [(false, eval a env), (false, eval b env), (false, eval c env)]) (he2 : ∀ env, starEach [b, c] env = [(false, eval b env), (false, eval c env)]) (he3 : ∀ env, starEach [c] env = [(false, eval c env)]) : IG S tg (.Call (.Name "range" p) [a, b, c] [] pos) Γ τ Γ3 (rgD hi (-1) (hi - lo).toNat) := by
  obtain ⟨ta, pa, ea⟩ := ha
  obtain ⟨tb, pb, eb⟩ := hb
  obtain ⟨tc, pc, ec⟩ := hc
  refine ⟨iRng3 (tCons ta (tCons tb (tCons tc tNil))), fun X I => pi_range3 (I.gl hg) (by rw [I.mg]; exact hm) (pa_cons (pa X I) (pa_cons (pb X I) (pa_cons (pc X I) pa_nil (he3 _)) (by rw [he2, he3])) (by rw [he, he2])) (by rw [he, he2]) (by rw [he2]; rfl), fun F G0 G H σ ws wk R r => ea F G0 G H σ ws wk _ fun w G1 H1 wk1 => eb F G0 G1 H1 σ _ wk1 _ fun w2 G2 H2 wk2 => ec F G0 G2 H2 σ _ wk2 _ fun w3 G3 H3 wk3 => ?_⟩
  have h1 := wk3.top_sh
  have h2 := wk3.drop.top_sh
  have h3 := wk3.drop.drop.top_sh
  cases h1
  cases h2
  cases h3
  exact ⟨hi, lo, -1, _, rfl, RgC.neg hn.1 hn.2.1 hn.2.2.1 hn.2.2.2, r _ G3 H3 wk3.drop.drop.drop yields_rgC⟩
end
end Lf
set_option maxHeartbeats 4000000
namespace Lf
open PySem L2 Evl

section
variable {S : Stat} {Γ Γ0 Γ1 Γ2 Γ3 τ τ1 : List Sl} {s s1 s2 s3 : Sl} {a b c e o tg iter : Expr} {es : List Expr} {pos p2 pt : Pos} {p : Pt} {d : D} {ds L : List D} {E : Endv} {st : Stmt} {sts body : List Stmt} {i j : Nat} {x y : Str} {k : Bool}

/-! ### the temporaries set aside -/
theorem Ok.tr {K : PySem.W.Frag} {G G' H H' : Hp} {σ : L2.St} {O O' : Own} {id id' : Id} {w : V} (eg : Ex G G') (k : ∀ a, O a = some id → H a ≠ none → O' a = some id' ∧ H' a = H a) (hid : (∀ j, id ≠ .inl j) → ∀ j, id' ≠ .inl j)
    (kb : (∀ i k, s ≠ .boi i k) ∨ ∀ a i, O a = some (.inl i) → H a ≠ none → O' a = some (.inl i) ∧ H' a = H a) (h : Ok K G H σ O id w s) : Ok K G' H' σ O' id' w s := by
  cases s with
  | no => trivial
  | sh d => exact dp_ex eg d w h
  | ol ds =>
    obtain ⟨p, vs, e, o, hp, b⟩ := h
    obtain ⟨k1, k2⟩ := k p o (by rw [hp]; simp)
    exact ⟨p, vs, e, k1, k2.trans hp, dpa_ex eg _ _ b⟩
  | oll dss =>
    obtain ⟨p, ps, e, o, hp, nd, b⟩ := h
    obtain ⟨k1, k2⟩ := k p o (by rw [hp]; simp)
    refine ⟨p, ps, e, k1, k2.trans hp, nd, paired_mono (fun q ds h => ?_) b⟩
    obtain ⟨oq, vs, hq, aq⟩ := h
    obtain ⟨k1, k2⟩ := k q oq (by rw [hq]; simp)
    exact ⟨k1, vs, k2.trans hq, dpa_ex eg _ _ aq⟩
  | od kvs =>
    obtain ⟨p, vs, e, o, hp, b⟩ := h
    obtain ⟨k1, k2⟩ := k p o (by rw [hp]; simp)
    exact ⟨p, vs, e, k1, k2.trans hp, paired_mono (fun x y h => ⟨h.1, dp_ex eg _ _ h.2⟩) b⟩
  | bo i => exact ⟨hid h.1, h.2⟩
  | boi i j =>
    obtain ⟨n, p, ps, q, e, o, hp, hq, ew⟩ := h
    rcases kb with z | z
    · exact absurd rfl (z i j)
    · obtain ⟨k1, k2⟩ := z p i o (by rw [hp]; simp)
      exact ⟨hid n, p, ps, q, e, k1, k2.trans hp, hq, ew⟩
  | lk ks => obtain ⟨p, od, vs, e, h, m⟩ := h; exact ⟨p, od, vs, e, eg _ _ h, m⟩
  | ob R => obtain ⟨cs, hc, r⟩ := h; exact ⟨cs, fun c m => let ⟨k1, k2⟩ := k _ (hc c m).1 (by rw [(hc c m).2]; simp); ⟨k1, k2.trans (hc c m).2⟩, r⟩
/-- no temporary borrows a row -/
abbrev NI (τ : List Sl) : Prop := ∀ s, s ∈ τ → ∀ i k, s ≠ .boi i k
def isT (O : Own) (H : Hp) (b : Addr) : Prop := (∃ k, O b = some (.inr k)) ∧ H b ≠ none
open Classical in
noncomputable def frT (O : Own) (F H : Hp) : Hp := fun b => if isT O H b then H b else F b
open Classical in
noncomputable def mixT (O O1 : Own) (H : Hp) (n : Nat) : Own := fun b => if isT O H b then O b else match O1 b with
  | some (.inr j) => some (.inr (j + n))
  | x => x
theorem frT_at {O : Own} {F H : Hp} {b : Addr} (h : isT O H b) : frT O F H b = H b := if_pos h
theorem frT_not {O : Own} {F H : Hp} {b : Addr} (h : ¬ isT O H b) : frT O F H b = F b := if_neg h
theorem mixT_at {O O1 : Own} {H : Hp} {n : Nat} {b : Addr} (h : isT O H b) : mixT O O1 H n b = O b := if_pos h
theorem mixT_not {O O1 : Own} {H : Hp} {n : Nat} {b : Addr} (h : ¬ isT O H b) : mixT O O1 H n b = match O1 b with
  | some (.inr j) => some (.inr (j + n))
  | x => x := if_neg h
theorem Wk.aside {K : PySem.W.Frag} {F G0 G H : Hp} {σ : L2.St} {ws : List V} (wk : Wk K F G0 Γ τ G H σ ws) (hn : NI τ) :
    ∃ F', Wk K F' G Γ [] G H σ [] ∧ ∀ Γ1 τ1 G' H' ws1, Wk K F' G Γ1 τ1 G' H' σ ws1 → Wk K F G0 Γ1 (τ1 ++ τ) G' H' σ (ws1 ++ ws) := by
  obtain ⟨O, a⟩ := wk
  refine ⟨frT O F H, ⟨fun b => if O b = none then none else match O b with
    | some (.inr _) => none
    | x => x, a.len, fun i s e => ?_, trivial, fun b hb => ?_, Ex.refl _, a.gh, fun b u e => ?_, fun b hb => .inl hb⟩, ?_⟩
  · rcases a.sl i s e with z | ⟨w, e, h⟩
    · exact .inl z
    · exact .inr ⟨w, e, h.tr (Ex.refl _) (fun b ho _ => ⟨by rw [ho]; rfl, rfl⟩) id (.inr fun b i ho _ => ⟨by rw [ho]; rfl, rfl⟩)⟩
  · have hO : O b ≠ none := fun z => hb (by rw [z]; rfl)
    obtain ⟨h1, h2⟩ := a.own b hO
    refine ⟨h1, ?_⟩
    have nt : ¬ isT O H b := fun ⟨⟨k, hk⟩, _⟩ => hb (by rw [hk]; rfl)
    rw [frT_not nt]; exact h2
  · by_cases ht : isT O H b
    · rw [frT_at ht] at e; exact e
    · rw [frT_not ht] at e; exact a.fh b u e
  · rintro Γ1 τ1 G' H' ws1 ⟨O1, a1⟩
    have ff : ∀ b, frT O F H b = none → ¬ isT O H b := fun b hb ht => by rw [frT_at ht] at hb; exact ht.2 hb
    have nt1 : ∀ b, O1 b ≠ none → ¬ isT O H b := fun b hb => ff b (a1.own b hb).2
    have kl : ∀ b i, O1 b = some (.inl i) → mixT O O1 H τ.length b = some (.inl i) := fun b i ho => by
      rw [mixT_not (nt1 b (by rw [ho]; simp)), ho]
    have kr : ∀ b j, O1 b = some (.inr j) → mixT O O1 H τ.length b = some (.inr (j + τ.length)) := fun b j ho => by
      rw [mixT_not (nt1 b (by rw [ho]; simp)), ho]
    have new : ∀ {ws1 : List V} {τ1 : List Sl}, OkTs K G' H' σ O1 ws1 τ1 → ∀ {ws' : List V} {τ' : List Sl}, τ'.length = τ.length → OkTs K G' H' σ (mixT O O1 H τ.length) ws' τ' → OkTs K G' H' σ (mixT O O1 H τ.length) (ws1 ++ ws') (τ1 ++ τ') := by
      intro ws1 τ1
      induction τ1 generalizing ws1 with
      | nil => intro h ws' τ' _ h'; cases ws1 with
        | nil => exact h'
        | cons _ _ => exact h.elim
      | cons s τ1 ih => intro h ws' τ' hl h'; cases ws1 with
        | nil => exact h.elim
        | cons w ws1 =>
          refine ⟨?_, ih h.2 hl h'⟩
          refine h.1.tr (Ex.refl _) (fun b ho _ => ⟨?_, rfl⟩) (fun _ j z => by cases z) (.inr fun b i ho _ => ⟨kl b i ho, rfl⟩)
          show _ = some (Sum.inr (τ1 ++ τ').length)
          rw [kr b _ ho, List.length_append, hl]
    have old : ∀ {ws : List V} {τ' : List Sl}, NI τ' → OkTs K G H σ O ws τ' → OkTs K G' H' σ (mixT O O1 H τ.length) ws τ' := by
      intro ws τ'
      induction τ' generalizing ws with
      | nil => intro _ h; cases ws with
        | nil => trivial
        | cons _ _ => exact h
      | cons s τ' ih => intro hn h; cases ws with
        | nil => exact h
        | cons w ws =>
          refine ⟨h.1.tr a1.g0 (fun b ho hb => ?_) (fun z j => z j) (.inl (hn s (by simp))), ih (fun s hs => hn s (by simp [hs])) h.2⟩
          have ht : isT O H b := ⟨⟨_, ho⟩, hb⟩
          refine ⟨by rw [mixT_at ht]; exact ho, ?_⟩
          cases e : H b with
          | none => exact absurd e hb
          | some u => exact a1.fh b u (by rw [frT_at ht]; exact e)
    refine ⟨mixT O O1 H τ.length, a1.len, fun i s e => ?_, new a1.ts rfl (old hn a.ts), fun b hb => ?_, a.g0.trans a1.g0, a1.gh, fun b u e => ?_, fun b hb => ?_⟩
    · rcases a1.sl i s e with z | ⟨w, e, h⟩
      · exact .inl z
      · exact .inr ⟨w, e, h.tr (Ex.refl _) (fun b ho _ => ⟨kl b _ ho, rfl⟩) id (.inr fun b i ho _ => ⟨kl b i ho, rfl⟩)⟩
    · by_cases ht : isT O H b
      · obtain ⟨h1, h2⟩ := a.own b (by obtain ⟨⟨k, hk⟩, _⟩ := ht; rw [hk]; simp)
        refine ⟨?_, h2⟩
        cases e : G' b with
        | none => rfl
        | some u =>
          rcases a1.gf b (by rw [e]; simp) with z | z
          · exact absurd h1 z
          · exact absurd ht (ff b z)
      · rw [mixT_not ht] at hb
        have hO : O1 b ≠ none := fun z => hb (by rw [z])
        obtain ⟨h1, h2⟩ := a1.own b hO
        rw [frT_not ht] at h2
        exact ⟨h1, h2⟩
    · by_cases ht : isT O H b
      · have := (a.own b (by obtain ⟨⟨k, hk⟩, _⟩ := ht; rw [hk]; simp)).2
        rw [this] at e; cases e
      · exact a1.fh b u (by rw [frT_not ht]; exact e)
    · rcases a1.gf b hb with z | z
      · exact a.gf b z
      · rw [frT_not (ff b z)] at z; exact .inr z
theorem GE.frame (h : GE S e Γ [] Γ1 s) (hn : NI τ) : GE S e Γ τ Γ1 s := by
  obtain ⟨te, pe, ee⟩ := h
  refine ⟨te, pe, fun F G0 G H σ ws wk Q q => ?_⟩
  obtain ⟨F', wk0, back⟩ := wk.aside hn
  exact ee F' G G H σ [] wk0 Q fun w G' H' wk' => q w G' H' (back Γ1 [s] G' H' [w] wk')
theorem GT.frame (h : GT S e Γ [] Γ1 k) (hn : NI τ) : GT S e Γ τ Γ1 k := by
  obtain ⟨te, pe, ee⟩ := h
  refine ⟨te, pe, fun F G0 G H σ ws wk Q q => ?_⟩
  obtain ⟨F', wk0, back⟩ := wk.aside hn
  exact ee F' G G H σ [] wk0 Q fun G' H' wk' => q G' H' (back Γ1 [] G' H' [] wk')
theorem ni_nil : NI [] := by intro s hs; cases hs
theorem ni_cons (h : ∀ i k, s ≠ .boi i k) (t : NI τ) : NI (s :: τ) := fun s' h' => by
  rcases List.mem_cons.mp h' with z | z
  · rw [z]; exact h
  · exact t s' z

/-! ### the ground told anew -/
theorem Wk.rebase {K : PySem.W.Frag} {F G0 G H : Hp} {σ : L2.St} {ws : List V} (h : Wk K F G0 Γ τ G H σ ws) : Wk K F G Γ τ G H σ ws := let ⟨O, a⟩ := h; ⟨O, a.len, a.sl, a.ts, a.own, Ex.refl _, a.gh, a.fh, fun _ hb => .inl hb⟩
theorem Wk.based {K : PySem.W.Frag} {F G0 G1 H1 G H : Hp} {σ1 σ : L2.St} {ws1 ws : List V} (h0 : Wk K F G0 Γ1 τ1 G1 H1 σ1 ws1) (h : Wk K F G1 Γ τ G H σ ws) : Wk K F G0 Γ τ G H σ ws :=
  let ⟨_, a0⟩ := h0; let ⟨O, a⟩ := h; ⟨O, a.len, a.sl, a.ts, a.own, a0.g0.trans a.g0, a.gh, a.fh, fun b hb => (a.gf b hb).elim (fun z => a0.gf b z) .inr⟩
theorem Wk.base_ex {K : PySem.W.Frag} {F G0 G H : Hp} {σ : L2.St} {ws : List V} (h : Wk K F G0 Γ τ G H σ ws) : Ex G0 G := let ⟨_, a⟩ := h; a.g0

/-! ### for, while -/
theorem gs_for {I : Nat → List Sl → Prop} (hi : IG S tg iter Γ [] Γ0 L) (hp : PgG S tg p) (h0 : I 0 Γ0)
    (turn : ∀ n Γ d, I n Γ → L[n]? = some d → ∃ Γ', bindP p d Γ = some Γ' ∧ GSs S body Γ' { E with nx := I (n + 1), bk := E.nx, ct := I (n + 1) }) (fin : ∀ Γ, I L.length Γ → E.nx Γ) (hs : ∀ env x, foldedSetIterable iter env x = pure x) :
    GS S (.For tg iter body [] pos) Γ E := by
  obtain ⟨wi, pi, ei⟩ := hi
  refine ⟨tFor wi (gPt S.K p) (wpSs S body), fun X J => ps_for J.passes J.calm (pi X J) (hp X J) (pss_can J) (hs X.env), fun F G0 G H σ wk D K => ei F G0 G H σ [] wk _ fun J G1 H1 wk1 hy => ?_⟩
  refine ⟨fun i m σ H => i ≤ L.length ∧ m = L.length - i ∧ ∃ Γ G, I i Γ ∧ Wk S.K F G1 Γ [] G H σ [], ⟨L.length, Nat.zero_le _, rfl, Γ0, G1, h0, wk1.rebase⟩, ?_⟩
  rintro i m σ2 H2 ⟨hi, rfl, Γ2, G2, hI, wk2⟩
  by_cases h : i < L.length
  · refine .inr ⟨(hy i G2 H2 wk2.base_ex wk2.gh).1 h, fun σ' H' => ∃ Γ G, I (i + 1) Γ ∧ Wk S.K F G1 Γ [] G H' σ' [], fun σ' H' ⟨Γ', G', hI', wk'⟩ => ⟨L.length - (i + 1), by omega, h, rfl, Γ', G', hI', wk'⟩, fun x H' y => ?_⟩
    obtain ⟨d, G3, hd, e3, wk3⟩ := hy.turn wk2.base_ex wk2 h y
    obtain ⟨Γ', hb, hbody⟩ := turn i Γ2 d hI hd
    obtain ⟨σ', wk4, _, kk⟩ := bind_ok hb (by intro s hs; cases hs) wk3
    exact kk _ (hbody.can F G1 G3 H' σ' wk4 _ ⟨fun Γ G H σ hI wk => ⟨Γ, G, hI, wk⟩, fun Γ s w G H σ hr wk => K.rt Γ s w G H σ hr (wk1.based wk), fun Γ G H σ hb wk => K.nx Γ G H σ hb (wk1.based wk), fun Γ G H σ hI wk => ⟨Γ, G, hI, wk⟩⟩)
  · have e : i = L.length := by omega
    subst e
    exact .inl ⟨(hy _ G2 H2 wk2.base_ex wk2.gh).2.1 (Nat.le_refl _), K.nx Γ2 G2 H2 σ2 (fin Γ2 hI) (wk1.based wk2)⟩
theorem gs_while {I : Nat → List Sl → Prop} (h0 : ∃ m, I m Γ) (turn : ∀ m Γ, I m Γ → ∃ k Γ', GT S c Γ [] Γ' k ∧ (k = true → GSs S body Γ' { E with nx := fun Γ => ∃ m', m' < m ∧ I m' Γ, bk := E.nx, ct := fun Γ => ∃ m', m' < m ∧ I m' Γ }) ∧ (k = false → E.nx Γ')) :
    GS S (.While c body [] pos) Γ E := by
  refine ⟨tWhile (wpT S c) (wpSs S body), fun X J => ps_while J.passes (pt_can J) (pss_can J), fun F G0 G H σ wk D K => ?_⟩
  obtain ⟨m0, h0⟩ := h0
  refine ⟨fun m σ H => ∃ Γ G, I m Γ ∧ Wk S.K F G0 Γ [] G H σ [], ⟨m0, Γ, G, h0, wk⟩, ?_⟩
  rintro m σ1 H1 ⟨Γ1, G1, hI, wk1⟩
  obtain ⟨k, Γ', ht, h1, h2⟩ := turn m Γ1 hI
  refine ht.can F G0 G1 H1 σ1 [] wk1 _ fun G2 H2 wk2 => ?_
  cases k with
  | true =>
    rw [if_pos rfl]
    refine ⟨fun σ' H' => ∃ m', m' < m ∧ ∃ Γ G, I m' Γ ∧ Wk S.K F G0 Γ [] G H' σ' [], fun σ' H' ⟨m', hm, Γ', G', hI', wk'⟩ => ⟨m', hm, Γ', G', hI', wk'⟩, (h1 rfl).can F G0 G2 H2 σ1 wk2 _ ⟨fun Γ G H σ ⟨m', hm, hI⟩ wk => ⟨m', hm, Γ, G, hI, wk⟩, K.rt, K.nx, fun Γ G H σ ⟨m', hm, hI⟩ wk => ⟨m', hm, Γ, G, hI, wk⟩⟩⟩
  | false =>
    rw [if_neg Bool.false_ne_true]
    exact K.nx Γ' G2 H2 σ1 (h2 rfl) wk2

/-! ### comprehensions -/
/-- the names of a block, told anew -/
def reN (N scope : List (Str × NameKind)) : List (Str × NameKind) := scope.map fun (n, k) => if (k == .free && N.lookup n == some .cell) then (n, .cell) else (n, k)
def Stat.blk (S : Stat) (scope : Scope) : Stat := { S with names := reN S.names scope.names, fn := fun x => scope.names.lookup x == some .cell }
theorem Stat.Is.blk {X : Cx} {s : Shared} {H : Hp} {scope : Scope} {C : Addr} {cl : List (Str × Addr)} {fp : List Addr} (I : S.Is X) (hk : scope.kind = .function) : (S.blk scope).Is (X.blk s H scope (compEnvC scope cl C X.env) fp) := by
  refine ⟨I.prog, I.w, I.K, I.mg, I.base, I.N, ?_, hk, rfl, I.calm, I.room, rfl, I.nd⟩
  show (relabel scope X.env).names = reN S.names scope.names
  unfold relabel reN
  show List.map _ _ = _
  refine List.map_congr_left fun ⟨n, k⟩ _ => ?_
  have e : (X.env.scope.kind == ScopeKind.function) = true := by rw [I.kind]; rfl
  show (if (k == NameKind.free && X.env.scope.kind == ScopeKind.function && X.env.kindOf n == some .cell) = true then (n, NameKind.cell) else (n, k)) = _
  rw [e, Bool.and_true]
  unfold Env.kindOf
  rw [I.names]
def wipeG (Γ : List Sl) : List Nat → List Sl
  | [] => Γ
  | v :: vs => (wipeG Γ vs).set v .no
end
end Lf
set_option maxHeartbeats 4000000
namespace Lf
open PySem L2 Evl

section
variable {S : Stat} {Γ Γ0 Γ1 Γ2 Γ3 τ τ1 : List Sl} {s s1 s2 s3 : Sl} {a b c e o tg iter elt : Expr} {es ifs : List Expr} {pos p2 pt : Pos} {p : Pt} {d : D} {ds L : List D} {E : Endv} {st : Stmt} {sts body : List Stmt} {i j : Nat} {x y : Str} {k : Bool}

/-! ### wiped slots -/
theorem wipeG_len (Γ : List Sl) : ∀ vs : List Nat, (wipeG Γ vs).length = Γ.length
  | [] => rfl
  | v :: vs => by unfold wipeG; rw [List.length_set, wipeG_len Γ vs]
theorem wipeG_out {Γ : List Sl} {i : Nat} : ∀ {vs : List Nat}, i ∉ vs → (wipeG Γ vs)[i]? = Γ[i]?
  | [], _ => rfl
  | v :: vs, h => by
    simp only [List.mem_cons, not_or] at h
    unfold wipeG
    rw [List.getElem?_set_ne (Ne.symm h.1)]
    exact wipeG_out h.2
theorem wipeG_in {Γ : List Sl} {i : Nat} {s : Sl} : ∀ {vs : List Nat}, i ∈ vs → (wipeG Γ vs)[i]? = some s → s = .no
  | v :: vs, h, e => by
    unfold wipeG at e
    by_cases hv : v = i
    · subst hv
      by_cases hl : v < (wipeG Γ vs).length
      · rw [List.getElem?_set_self hl] at e; cases e; rfl
      · rw [List.getElem?_eq_none (by simpa using hl)] at e; cases e
    · rw [List.getElem?_set_ne hv] at e
      rcases List.mem_cons.mp h with z | z
      · exact absurd z.symm hv
      · exact wipeG_in z e
theorem wipe_in {σ : L2.St} {i : Nat} : ∀ {vs : List Nat}, i ∈ vs → i < σ.length → (wipe σ vs)[i]? = some none
  | v :: vs, h, e => by
    unfold wipe
    by_cases hv : v = i
    · subst hv
      rw [List.getElem?_set_self (by rw [wipe_length]; exact e)]
    · rw [List.getElem?_set_ne hv]
      rcases List.mem_cons.mp h with z | z
      · exact absurd z.symm hv
      · exact wipe_in z e
theorem wipe_eq {σ σ' : L2.St} {vs : List Nat} (hl : σ'.length = σ.length) (h : ∀ j, j ∉ vs → σ'[j]? = σ[j]?) : wipe σ' vs = wipe σ vs := by
  refine List.ext_getElem? fun j => ?_
  by_cases hj : j ∈ vs
  · by_cases hl2 : j < σ.length
    · rw [wipe_in hj hl2, wipe_in hj (by rw [hl]; exact hl2)]
    · rw [List.getElem?_eq_none (by rw [wipe_length]; omega), List.getElem?_eq_none (by rw [wipe_length]; omega)]
  · rw [wipe_out hj, wipe_out hj, h j hj]
theorem wipe_wipe {σ : L2.St} {vs : List Nat} : wipe (wipe σ vs) vs = wipe σ vs := wipe_eq (wipe_length _ _) fun j hj => wipe_out hj
mutual
theorem bindP_out : ∀ {p : Pt} {d : D} {Γ Γ' : List Sl}, bindP p d Γ = some Γ' → Γ'.length = Γ.length ∧ ∀ j, j ∉ p.slots → Γ'[j]? = Γ[j]?
  | .nm i, d, Γ, Γ', e => by
    unfold bindP at e
    split at e
    · cases e
      exact ⟨by simp, fun j hj => List.getElem?_set_ne fun z => hj (by simp [Pt.slots, z])⟩
    · cases e
  | .tp ps, d, Γ, Γ', e => by
    cases d with
    | tuple ds => unfold bindP at e; exact bindPs_out e
    | _ => unfold bindP at e; cases e
theorem bindPs_out : ∀ {p : Pts} {d : List D} {Γ Γ' : List Sl}, bindPs p d Γ = some Γ' → Γ'.length = Γ.length ∧ ∀ j, j ∉ p.slots → Γ'[j]? = Γ[j]?
  | .nil, d, Γ, Γ', e => by
    cases d with
    | nil => unfold bindPs at e; cases e; exact ⟨rfl, fun _ _ => rfl⟩
    | cons d ds => unfold bindPs at e; cases e
  | .cons p ps, d, Γ, Γ', e => by
    cases d with
    | nil => unfold bindPs at e; cases e
    | cons d ds =>
      unfold bindPs at e
      cases e1 : bindP p d Γ with
      | none => rw [e1] at e; cases e
      | some Γ1 =>
        rw [e1] at e
        obtain ⟨l1, h1⟩ := bindP_out e1
        obtain ⟨l2, h2⟩ := bindPs_out (show bindPs ps ds Γ1 = some Γ' from e)
        exact ⟨l2.trans l1, fun j hj => (h2 j fun z => hj (by simp [Pts.slots, z])).trans (h1 j fun z => hj (by simp [Pts.slots, z]))⟩
end
theorem wipeG_eq {Γ Γ' : List Sl} {vs : List Nat} (hl : Γ'.length = Γ.length) (h : ∀ j, j ∉ vs → Γ'[j]? = Γ[j]?) : wipeG Γ' vs = wipeG Γ vs := by
  refine List.ext_getElem? fun j => ?_
  by_cases hj : j ∈ vs
  · by_cases hl2 : j < Γ.length
    · have e1 : (wipeG Γ vs)[j]? = some .no := by
        rw [List.getElem?_eq_getElem (by rw [wipeG_len]; exact hl2)]
        exact congrArg some (wipeG_in hj (List.getElem?_eq_getElem (by rw [wipeG_len]; exact hl2)))
      have e2 : (wipeG Γ' vs)[j]? = some .no := by
        rw [List.getElem?_eq_getElem (by rw [wipeG_len, hl]; exact hl2)]
        exact congrArg some (wipeG_in hj (List.getElem?_eq_getElem (by rw [wipeG_len, hl]; exact hl2)))
      rw [e1, e2]
    · rw [List.getElem?_eq_none (by rw [wipeG_len]; omega), List.getElem?_eq_none (by rw [wipeG_len]; omega)]
  · rw [wipeG_out hj, wipeG_out hj, h j hj]
theorem wipeG_wipeG {Γ : List Sl} {vs : List Nat} : wipeG (wipeG Γ vs) vs = wipeG Γ vs := wipeG_eq (wipeG_len _ _) fun j hj => wipeG_out hj
theorem Ok.sig {K : PySem.W.Frag} {G H : Hp} {σ σ' : L2.St} {O : Own} {id : Id} {w : V} (hs : sto s = true) (h : Ok K G H σ O id w s) : Ok K G H σ' O id w s := by
  cases s with
  | bo i => cases hs
  | boi i k => cases hs
  | _ => exact h
theorem OkTs.sig {K : PySem.W.Frag} {G H : Hp} {σ σ' : L2.St} {O : Own} : ∀ {ws : List V} {τ : List Sl}, NB τ → OkTs K G H σ O ws τ → OkTs K G H σ' O ws τ
  | [], [], _, _ => trivial
  | _ :: _, s :: τ, n, ⟨h1, h2⟩ => ⟨h1.sig (n s (by simp)), h2.sig (fun s' h => n s' (by simp [h]))⟩
  | [], _ :: _, _, h => h
  | _ :: _, [], _, h => h
theorem Wk.wiped {K : PySem.W.Frag} {F G0 G H : Hp} {σ : L2.St} {ws : List V} (h : Wk K F G0 Γ τ G H σ ws) (hn : NB τ) (vs : List Nat) : Wk K F G0 (wipeG Γ vs) τ G H (wipe σ vs) ws := by
  obtain ⟨O, a⟩ := h
  refine ⟨O, by rw [wipeG_len, wipe_length]; exact a.len, fun i s e => ?_, a.ts.sig hn, a.own, a.g0, a.gh, a.fh, a.gf⟩
  by_cases hi : i ∈ vs
  · exact .inl (wipeG_in hi e)
  · rw [wipeG_out hi] at e
    rcases a.sl i s e with z | ⟨w, e', h⟩
    · exact .inl z
    · exact .inr ⟨w, by rw [wipe_out hi]; exact e', h.sig (a.sto e)⟩
/-- a slot that a block may hide -/
def hid : Option Sl → Bool
  | some .no => true
  | some (.sh _) => true
  | none => true
  | _ => false
theorem Wk.unwiped {K : PySem.W.Frag} {F G0 G1 H1 G H : Hp} {σ : L2.St} {ws1 ws : List V} {vs : List Nat} (h1 : Wk K F G0 Γ τ1 G1 H1 σ ws1) (h : Wk K F G1 (wipeG Γ vs) τ G H (wipe σ vs) ws) (hn : NB τ) (hh : ∀ i, i ∈ vs → hid Γ[i]? = true) : Wk K F G0 Γ τ G H σ ws := by
  have h := h1.based h
  have hx : Ex G1 G := let ⟨_, a⟩ := h1; let ⟨_, b⟩ := (‹Wk K F G1 (wipeG Γ vs) τ G H (wipe σ vs) ws›); b.g0
  obtain ⟨O1, a1⟩ := h1
  obtain ⟨O, a⟩ := h
  refine ⟨O, a1.len, fun i s e => ?_, a.ts.sig hn, a.own, a.g0, a.gh, a.fh, a.gf⟩
  by_cases hi : i ∈ vs
  · have hs := hh i hi
    rw [e] at hs
    cases s with
    | no => exact .inl rfl
    | sh d =>
      rcases a1.sl i _ e with z | ⟨w, e', h⟩
      · cases z
      · exact .inr ⟨w, e', dp_ex hx d w h⟩
    | _ => cases hs
  · rcases a.sl i s (by rw [wipeG_out hi]; exact e) with z | ⟨w, e', h⟩
    · exact .inl z
    · rw [wipe_out hi] at e'
      exact .inr ⟨w, e', h.sig (a1.sto e)⟩

/-! ### the list that grows -/
theorem Wk.push {K : PySem.W.Frag} {F G0 G H : Hp} {σ : L2.St} {w : V} {p : Addr} {r : D} {acc : List D} (h : Wk K F G0 Γ [.sh r, .ol acc] G H σ [w, .ref p]) :
    ∃ vs, H p = some (.lst vs) ∧ vs.length = acc.length ∧ Wk K F G0 Γ [.ol (acc ++ [r])] G (upd H p (.lst (vs ++ [w]))) σ [.ref p] := by
  obtain ⟨O, a⟩ := h
  obtain ⟨hr, ⟨q, vs, eq, o, hp, B⟩, _⟩ := a.ts
  cases eq
  have gp := (a.own p (by rw [o]; simp)).1
  have fp := (a.own p (by rw [o]; simp)).2
  refine ⟨vs, hp, dpa_len B, O, a.len, fun i s e => ?_, ⟨⟨p, _, rfl, o, upd_same, dpa_app B (.cons hr .nil)⟩, trivial⟩, a.own, a.g0, fun b u hb => ?_, fun b u hb => ?_, a.gf⟩
  · rcases a.sl i s e with z | ⟨w, e', h⟩
    · exact .inl z
    · refine .inr ⟨w, e', h.tr (Ex.refl _) (fun b ho _ => ⟨ho, upd_ne fun z => ?_⟩) id (.inr fun b i ho _ => ⟨ho, upd_ne fun z => ?_⟩)⟩
      · rw [z] at ho; have := o.symm.trans ho; cases this
      · rw [z] at ho; have := o.symm.trans ho; cases this
  · rw [upd_ne (ne_of_none hb gp)]; exact a.gh b u hb
  · rw [upd_ne (ne_of_none hb fp)]; exact a.fh b u hb
theorem paired_app {α β : Type} {R : α → β → Prop} {x : α} {y : β} : ∀ {l : List α} {m : List β}, Paired R l m → R x y → Paired R (l ++ [x]) (m ++ [y])
  | _, _, .nil, h => .cons h .nil
  | _, _, .cons a t, h => .cons a (paired_app t h)
theorem paired_mem {α β : Type} {R R' : α → β → Prop} : ∀ {l : List α} {m : List β}, (∀ a b, a ∈ l → R a b → R' a b) → Paired R l m → Paired R' l m
  | _, _, _, .nil => .nil
  | _, _, h, .cons a t => .cons (h _ _ (by simp) a) (paired_mem (fun x y hx => h x y (by simp [hx])) t)
theorem paired_len {α β : Type} {R : α → β → Prop} : ∀ {l : List α} {m : List β}, Paired R l m → l.length = m.length
  | _, _, .nil => rfl
  | _, _, .cons _ t => congrArg (· + 1) (paired_len t)
theorem paired_left {α β : Type} {R : α → β → Prop} {x : α} : ∀ {l : List α} {m : List β}, Paired R l m → x ∈ l → ∃ y, R x y
  | _, _, .nil, h => by cases h
  | _, _, .cons a t, h => by
    rcases List.mem_cons.mp h with z | z
    · rw [z]; exact ⟨_, a⟩
    · exact paired_left t z
theorem Wk.pushO {K : PySem.W.Frag} {F G0 G H : Hp} {σ : L2.St} {w : V} {p : Addr} {r : List D} {acc : List (List D)} (h : Wk K F G0 Γ [.ol r, .oll acc] G H σ [w, .ref p]) :
    ∃ vs, H p = some (.lst vs) ∧ vs.length = acc.length ∧ Wk K F G0 Γ [.oll (acc ++ [r])] G (upd H p (.lst (vs ++ [w]))) σ [.ref p] := by
  obtain ⟨O, a⟩ := h
  obtain ⟨⟨q, us, ew, oq, hq, Bq⟩, ⟨p', ps, e', o, hp, nd, B⟩, _⟩ := a.ts
  cases e'
  subst ew
  have o : O p = some (.inr 0) := o
  have oq : O q = some (.inr 1) := oq
  have gp := (a.own p (by rw [o]; simp)).1
  have fp := (a.own p (by rw [o]; simp)).2
  have nqp : q ≠ p := fun z => by rw [z, o] at oq; cases oq
  refine ⟨ps.map V.ref, hp, by rw [List.length_map]; exact paired_len B, fun b => if O b = some (.inr 1) then some (.inr 0) else O b, a.len, fun i s e => ?_, ⟨⟨p, ps ++ [q], rfl, ?_, by rw [upd_same]; simp, ?_, paired_app (paired_mem (fun q' ds hm h => ?_) B) ⟨if_pos oq, us, (upd_ne nqp).trans hq, Bq⟩⟩, trivial⟩, fun b hb => ?_, a.g0, fun b u hb => ?_, fun b u hb => ?_, a.gf⟩
  · rcases a.sl i s e with z | ⟨w, e', h⟩
    · exact .inl z
    · refine .inr ⟨w, e', h.tr (Ex.refl _) (fun b ho _ => ⟨?_, upd_ne fun z => ?_⟩) id (.inr fun b i ho _ => ⟨?_, upd_ne fun z => ?_⟩)⟩
      · rw [ho, if_neg (by simp)]
      · rw [z, o] at ho; cases ho
      · rw [ho, if_neg (by simp)]
      · rw [z, o] at ho; cases ho
  · show (if O p = some (.inr 1) then some (.inr 0) else O p) = _
    rw [o]; rfl
  · have nd' := nd
    simp only [List.nodup_cons] at nd ⊢
    have hnq : q ∉ ps := fun hm => by
      obtain ⟨_, o2, _⟩ := paired_left B hm
      rw [oq] at o2; cases o2
    refine ⟨fun hm => ?_, ?_⟩
    · rcases List.mem_append.mp hm with z | z
      · exact nd.1 z
      · simp at z; exact nqp z.symm
    · rw [List.nodup_append]
      refine ⟨nd.2, by simp, fun x hx y hy => ?_⟩
      simp at hy; subst hy
      exact fun z => hnq (z ▸ hx)
  · obtain ⟨o2, vs, h1, h2⟩ := h
    have o2 : O q' = some (.inr 0) := o2
    have ne : q' ≠ p := fun z => (List.nodup_cons.mp nd).1 (z ▸ hm)
    exact ⟨by show (if O q' = some (.inr 1) then some (.inr 0) else O q') = _; rw [o2]; rfl, vs, (upd_ne ne).trans h1, h2⟩
  · have : O b ≠ none := fun z => hb (by rw [z]; rfl)
    exact a.own b this
  · rw [upd_ne (ne_of_none hb gp)]; exact a.gh b u hb
  · rw [upd_ne (ne_of_none hb fp)]; exact a.fh b u hb
end
end Lf
set_option maxHeartbeats 4000000
namespace Lf
open PySem L2 Evl

section
variable {S : Stat} {Γ Γ0 Γ1 Γ2 Γ3 τ τ1 : List Sl} {s s1 s2 s3 : Sl} {a b c e o tg iter elt : Expr} {es ifs : List Expr} {pos spos p2 pt py : Pos} {p : Pt} {d : D} {ds L : List D} {E : Endv} {st : Stmt} {sts body : List Stmt} {i j : Nat} {x y : Str} {k : Bool} {scope : Scope} {own : List (Str × Nat)} {P : Sl → Prop}

/-! ### values told by a word only -/
def XE (K : PySem.W.Frag) (te : TE) (Γ τ Γ' : List Sl) (P : Sl → Prop) : Prop :=
  ∀ F G0 G H σ ws, Wk K F G0 Γ τ G H σ ws → ∀ Q : VK, (∀ s w G' H', P s → Wk K F G0 Γ' (s :: τ) G' H' σ (w :: ws) → Q w H') → te σ H Q
def GX (S : Stat) (e : Expr) (Γ τ Γ' : List Sl) (P : Sl → Prop) : Prop := ∃ te, (∀ X, S.Is X → PE X e te) ∧ XE S.K te Γ τ Γ' P
theorem GE.toX (h : GE S e Γ τ Γ1 s) : GX S e Γ τ Γ1 (fun s' => s' = s) := by
  obtain ⟨te, pe, ee⟩ := h
  exact ⟨te, pe, fun F G0 G H σ ws wk Q q => ee F G0 G H σ ws wk Q fun w G' H' wk' => q s w G' H' rfl wk'⟩
theorem GX.toE (h : GX S e Γ τ Γ1 (fun s' => s' = s)) : GE S e Γ τ Γ1 s := by
  obtain ⟨te, pe, ee⟩ := h
  exact ⟨te, pe, fun F G0 G H σ ws wk Q q => ee F G0 G H σ ws wk Q fun s' w G' H' e wk' => q w G' H' (by rw [← show s' = s from e]; exact wk')⟩
theorem GX.imp {P' : Sl → Prop} (h : GX S e Γ τ Γ1 P) (hi : ∀ s, P s → P' s) : GX S e Γ τ Γ1 P' := by
  obtain ⟨te, pe, ee⟩ := h
  exact ⟨te, pe, fun F G0 G H σ ws wk Q q => ee F G0 G H σ ws wk Q fun s w G' H' hp wk' => q s w G' H' (hi s hp) wk'⟩
theorem GX.frame (h : GX S e Γ [] Γ1 P) (hn : NI τ) : GX S e Γ τ Γ1 P := by
  obtain ⟨te, pe, ee⟩ := h
  refine ⟨te, pe, fun F G0 G H σ ws wk Q q => ?_⟩
  obtain ⟨F', wk0, back⟩ := wk.aside hn
  exact ee F' G G H σ [] wk0 Q fun s w G' H' hp wk' => q s w G' H' hp (back Γ1 [s] G' H' [w] wk')
theorem GX.can (h : GX S e Γ τ Γ1 P) : XE S.K (wpE S e) Γ τ Γ1 P := by
  obtain ⟨te, pe, ee⟩ := h
  exact fun F G0 G H σ ws wk Q q X I pins s J => (pe X I).run pins s σ H Q J (ee F G0 G H σ ws wk Q q)
/-- a clause's tests -/
def GTs (S : Stat) (ifs : List Expr) (Γ τ Γ' : List Sl) (k : Bool) : Prop := ∃ tt, (∀ X, S.Is X → PTs X ifs tt) ∧ ET S.K tt Γ τ Γ' k
def wpTs (S : Stat) (ifs : List Expr) : TT := fun σ H Q => ∀ X, S.Is X → ∀ pins s, Inv X pins σ H s →
  wpAny (model X.prog X.w) X.A (forIn ifs true fun c r => if r = true then do let ok ← isTrue c X.env (eval c X.env); pure (ForInStep.yield ok) else pure (ForInStep.yield r)) (TP X pins σ Q) X.xe s
theorem pts_can {X : Cx} (I : S.Is X) : PTs X ifs (wpTs S ifs) := ⟨fun pins s _ _ _ J h => h X I pins s J⟩
theorem GTs.can (h : GTs S ifs Γ τ Γ1 k) : ET S.K (wpTs S ifs) Γ τ Γ1 k := by
  obtain ⟨te, pe, ee⟩ := h
  exact fun F G0 G H σ ws wk Q q X I pins s J => (pe X I).run pins s σ H Q J (ee F G0 G H σ ws wk Q q)
theorem gts_nil : GTs S [] Γ τ Γ true := ⟨tYes, fun _ _ => pts_nil, fun F G0 G H σ ws wk Q q => q G H wk⟩
theorem gts_one (h : GT S c Γ τ Γ1 k) : GTs S [c] Γ τ Γ1 k := by
  obtain ⟨te, pe, ee⟩ := h
  exact ⟨te, fun X I => pts_one (pe X I), ee⟩
theorem GTs.frame (h : GTs S ifs Γ [] Γ1 k) (hn : NI τ) : GTs S ifs Γ τ Γ1 k := by
  obtain ⟨te, pe, ee⟩ := h
  refine ⟨te, pe, fun F G0 G H σ ws wk Q q => ?_⟩
  obtain ⟨F', wk0, back⟩ := wk.aside hn
  exact ee F' G G H σ [] wk0 Q fun G' H' wk' => q G' H' (back Γ1 [] G' H' [] wk')

/-! ### the block -/
def blkN (N : List Str) (names : List (Str × NameKind)) (scope : Scope) (own : List (Str × Nat)) : Bool :=
  (match scope.kind with | .function => true | _ => false) && (scope.names.all fun y => decide (scope.names.lookup y.1 = some y.2)) && (own.all fun p => decide (N[p.2]? = some p.1)) &&
    (scope.names.all fun y => match y.2 with
      | .free => (match names.lookup y.1 with | some .cell => true | some .free => true | _ => false)
      | .local => decide (y.1 ∈ own.map (·.1)) || decide (y.1 ∉ N)
      | .cell => decide (y.1 ∈ own.map (·.1)) || decide (y.1 ∉ N)
      | _ => true)
theorem blkN_ok {X : Cx} (I : S.Is X) (h : blkN S.N S.names scope own = true) : BlkOk X.N X.env.scope scope own := by
  refine blkOk_by ?_
  unfold blkC
  rw [I.N, I.names]
  exact h
theorem blkN_kind (h : blkN S.N S.names scope own = true) : scope.kind = .function := by
  unfold blkN at h
  simp only [Bool.and_eq_true] at h
  obtain ⟨⟨⟨h1, _⟩, _⟩, _⟩ := h
  split at h1
  · assumption
  · cases h1
def Push (r s s' : Sl) : Prop := ∀ {K : PySem.W.Frag} {F G0 : Hp} {Γ : List Sl} {G H : Hp} {σ : L2.St} {w : V} {p : Addr}, Wk K F G0 Γ [r, s] G H σ [w, .ref p] →
  ∃ vs, H p = some (.lst vs) ∧ vs.length < sizeLine ∧ Wk K F G0 Γ [s'] G (upd H p (.lst (vs ++ [w]))) σ [.ref p]
theorem push_sh {acc : List D} (h : acc.length < 100000) : Push (.sh d) (.ol acc) (.ol (acc ++ [d])) := fun {K F G0 Γ G H σ w p} wk => by
  obtain ⟨vs, h1, h2, h3⟩ := wk.push
  exact ⟨vs, h1, by rw [h2]; exact Nat.lt_of_lt_of_le h (by decide), h3⟩
theorem push_ol {acc : List (List D)} (h : acc.length < 100000) : Push (.ol ds) (.oll acc) (.oll (acc ++ [ds])) := fun {K F G0 Γ G H σ w p} wk => by
  obtain ⟨vs, h1, h2, h3⟩ := wk.pushO
  exact ⟨vs, h1, by rw [h2]; exact Nat.lt_of_lt_of_le h (by decide), h3⟩
def LcIt (S : Stat) (scope : Scope) (ifs : List Expr) (elt : Expr) (p : Pt) (vs : List Nat) (Γ0 : List Sl) (A : Nat → Sl → Prop) (n : Nat) (d : D) : Prop :=
  ∃ Γ', bindP p d (wipeG Γ0 vs) = some Γ' ∧ ∃ kf, GTs (S.blk scope) ifs Γ' [] Γ' kf ∧ (kf = true → ∃ P, GX (S.blk scope) elt Γ' [] Γ' P ∧ ∀ r s, P r → A n s → ∃ s', A (n + 1) s' ∧ Push r s s') ∧ (kf = false → ∀ s, A n s → A (n + 1) s)
/-- what a new list may be told as -/
inductive New : Sl → Prop
  | ol : New (.ol [])
  | oll : New (.oll [])
theorem Wk.new {K : PySem.W.Frag} {F G0 G H : Hp} {σ : L2.St} {ws : List V} {q : Addr} (n : New s) (h : Wk K F G0 Γ τ G H σ ws) (hq : H q = none) : Wk K F G0 Γ (s :: τ) G (upd H q (.lst [])) σ (.ref q :: ws) := by
  cases n with
  | ol => exact h.newL hq .nil
  | oll => exact h.newO hq fun O o => ⟨q, [], rfl, o, upd_same, by simp, .nil⟩
structure LcOk (S : Stat) (tg iter : Expr) (scope : Scope) (own : List (Str × Nat)) (p : Pt) (Γ Γ0 : List Sl) (L : List D) : Prop where
  it : IG S tg iter Γ [] Γ0 L
  pg : PgG (S.blk scope) tg p
  blk : blkN S.N S.names scope own = true
  sub : ∀ i, i ∈ p.slots → i ∈ own.map (·.2)
  hid : ∀ i, i ∈ own.map (·.2) → hid Γ0[i]? = true
  plain : ∀ env x, foldedSetIterable iter env x = pure x
theorem lc_xe {A : Nat → Sl → Prop} {wi : TI} (O : LcOk S tg iter scope own p Γ Γ0 L) (ei : ∀ F G0 G H σ ws, Wk S.K F G0 Γ [] G H σ ws → ∀ R : It → Hp → Prop, (∀ J G1 H1, Wk S.K F G0 Γ0 [] G1 H1 σ ws → YieldsG J G1 L → R J H1) → wi σ H R)
    (hn : ∃ s, New s ∧ A 0 s) (hA : ∀ n s, A n s → sto s = true) (item : ∀ n d, L[n]? = some d → LcIt S scope ifs elt p (own.map (·.2)) Γ0 A n d) :
    XE S.K (tLc wi (gPt S.K p) (wpTs (S.blk scope) ifs) (wpE (S.blk scope) elt) (own.map (·.2))) Γ [] Γ0 (A L.length) := by
  intro F G0 G H σ ws wk Q q
  have ews : ws = [] := by
    obtain ⟨_, a⟩ := wk
    have := a.ts.len
    exact List.eq_nil_of_length_eq_zero this
  subst ews
  have ni : ∀ {s : Sl}, sto s = true → NI [s] := fun {s} hs => ni_cons (fun i k z => by rw [z] at hs; cases hs) ni_nil
  refine ei F G0 G H σ [] wk _ fun J G1 H1 wk1 hy D hD => ?_
  obtain ⟨s0, n0, a0⟩ := hn
  refine ⟨fun i m H => i ≤ L.length ∧ m = L.length - i ∧ ∃ s G, A i s ∧ Wk S.K F G1 (wipeG Γ0 (own.map (·.2))) [s] G H (wipe σ (own.map (·.2))) [.ref D],
    ⟨L.length, Nat.zero_le _, rfl, s0, G1, a0, (wk1.rebase.wiped (by intro s hs; cases hs) _).new n0 hD⟩, ?_⟩
  rintro i m H2 ⟨hi, rfl, s, G2, hs, wk2⟩
  by_cases h : i < L.length
  · refine .inr ⟨(hy i G2 H2 wk2.base_ex wk2.gh).1 h, fun H' => ∃ s G, A (i + 1) s ∧ Wk S.K F G1 (wipeG Γ0 (own.map (·.2))) [s] G H' (wipe σ (own.map (·.2))) [.ref D],
      fun H' ⟨s', G', hs', wk'⟩ => ⟨L.length - (i + 1), by omega, h, rfl, s', G', hs', wk'⟩, fun x H' y => ?_⟩
    obtain ⟨d, G3, hd, e3, wk3⟩ := hy.turn wk2.base_ex wk2 h y
    obtain ⟨Γ', hb, kf, ht, h1, h2⟩ := item i d hd
    obtain ⟨σ', wk4, ho, kk⟩ := bind_ok hb (nb1 (hA i s hs)) wk3
    obtain ⟨hl, hoG⟩ := bindP_out hb
    have ew : wipe σ' (own.map (·.2)) = wipe σ (own.map (·.2)) := (wipe_eq ho.1 fun j hj => ho.2 j fun z => hj (O.sub j z)).trans wipe_wipe
    have eg : wipeG Γ' (own.map (·.2)) = wipeG Γ0 (own.map (·.2)) := (wipeG_eq hl fun j hj => hoG j fun z => hj (O.sub j z)).trans wipeG_wipeG
    have back : ∀ {s G H}, sto s = true → Wk S.K F G1 Γ' [s] G H σ' [.ref D] → Wk S.K F G1 (wipeG Γ0 (own.map (·.2))) [s] G H (wipe σ (own.map (·.2))) [.ref D] := fun {s G H} hs w => by
      have := w.wiped (nb1 hs) (own.map (·.2))
      rw [ew, eg] at this
      exact this
    refine kk _ ⟨ew, (ht.frame (ni (hA i s hs))).can F G1 G3 H' σ' _ wk4 _ fun G4 H4 wk5 => ?_⟩
    cases kf with
    | true =>
      rw [if_pos rfl]
      obtain ⟨P, hx, hp⟩ := h1 rfl
      refine (hx.frame (ni (hA i s hs))).can F G1 G4 H4 σ' _ wk5 _ fun r w G5 H5 hr wk6 => ?_
      obtain ⟨s', hs', pu⟩ := hp r s hr hs
      obtain ⟨vs', e1, e2, wk7⟩ := pu wk6
      exact ⟨vs', e1, e2, s', G5, hs', back (hA _ _ hs') wk7⟩
    | false =>
      rw [if_neg Bool.false_ne_true]
      exact ⟨s, G4, h2 rfl s hs, back (hA _ _ hs) wk5⟩
  · have e : i = L.length := by omega
    subst e
    exact .inl ⟨(hy _ G2 H2 wk2.base_ex wk2.gh).2.1 (Nat.le_refl _), q s _ G2 H2 hs (wk1.unwiped wk2 (nb1 (hA _ _ hs)) O.hid)⟩
theorem gx_lc {A : Nat → Sl → Prop} (O : LcOk S tg iter scope own p Γ Γ0 L) (hn : ∃ s, New s ∧ A 0 s) (hA : ∀ n s, A n s → sto s = true) (item : ∀ n d, L[n]? = some d → LcIt S scope ifs elt p (own.map (·.2)) Γ0 A n d) :
    GX S (.ListComp elt [⟨tg, iter, ifs, 0⟩] scope pos) Γ [] Γ0 (A L.length) := by
  obtain ⟨wi, pi, ei⟩ := O.it
  exact ⟨_, fun X I => pe_lc I.calm I.nd' (pi X I) (blkN_ok I O.blk) (fun s H C cl fp => O.pg _ (I.blk (blkN_kind O.blk))) (fun s H C cl fp => pts_can (I.blk (blkN_kind O.blk))) (fun s H C cl fp => pe_can (I.blk (blkN_kind O.blk))) (O.plain _), lc_xe O ei hn hA item⟩
/-- x = e, e told by a word -/
theorem gs_setX (hN : S.N[i]? = some x) (hx : LocS S x) (he : GX S e Γ [] Γ1 P) (hi : i < Γ1.length) (k : ∀ s, P s → sto s = true ∧ E.nx (Γ1.set i s)) (hsw : ∀ X, S.Is X → swapsWith e (some (.Name x py)) pos.line X.env = pure false) :
    GS S (.Assign [.Name x py] e pos) Γ E := by
  obtain ⟨te, pe, ee⟩ := he
  exact ⟨tAsg te (gName i), fun X I => ps_set I.nd' (by rw [I.N]; exact hN) (hx.loc I) (pe X I) (hsw X I) (hx.fn I), fun F G0 G H σ wk D K => ee F G0 G H σ [] wk _ fun s w G1 H1 hs wk1 => K.nx _ G1 H1 _ (k s hs).2 (wk1.store (k s hs).1 hi)⟩
/-- x = [..] on one line, x a local -/
theorem gs_setLc {A : Nat → Sl → Prop} (hN : S.N[i]? = some x) (hx : S.names.lookup x = some .local) (hi : i < Γ0.length) (O : LcOk S tg iter scope own p Γ Γ0 L) (hn : ∃ s, New s ∧ A 0 s) (hA : ∀ n s, A n s → sto s = true) (item : ∀ n d, L[n]? = some d → LcIt S scope ifs elt p (own.map (·.2)) Γ0 A n d)
    (k : ∀ s, A L.length s → E.nx (Γ0.set i s)) (hline : (py.line == pos.line) = true) (hown : (scope.names.any fun (n, k) => n == x && (k == .local || k == .cell)) = false) :
    GS S (.Assign [.Name x py] (.ListComp elt [⟨tg, iter, ifs, 0⟩] scope pos) spos) Γ E := by
  obtain ⟨wi, pi, ei⟩ := O.it
  refine ⟨_, fun X I => ps_setLc I.calm I.nd' (by rw [I.N]; exact hN) (by rw [I.names]; exact hx) ?_ (pi X I) (blkN_ok I O.blk) (fun s H C cl fp => O.pg _ (I.blk (blkN_kind O.blk))) (fun s H C cl fp => pts_can (I.blk (blkN_kind O.blk))) (fun s H C cl fp => pe_can (I.blk (blkN_kind O.blk))) (O.plain _), fun F G0 G H σ wk D K => lc_xe O ei hn hA item F G0 G H σ [] wk _ fun s w G1 H1 hs wk1 => K.nx _ G1 H1 _ (k s hs) (wk1.store (hA _ _ hs) hi)⟩
  unfold swapsWith
  have e1 : (X.env.blockKind == ScopeKind.function) = true := by
    unfold Env.blockKind
    rw [I.kind]; rfl
  have e2 : (X.env.kindOf x == some .local) = true := by
    show (X.env.scope.names.lookup x == _) = true
    rw [I.names, hx]; rfl
  show pure _ = _
  rw [e1, e2]
  show pure (true && true && (py.line == pos.line) && !_) = _
  rw [hline, hown]
  rfl
end
end Lf
set_option maxHeartbeats 4000000
namespace Lf
open PySem L2 Evl

section
variable {S : Stat} {Γ Γ0 Γ1 Γ2 Γ3 τ τ1 : List Sl} {s s1 s2 s3 : Sl} {a b c e o tg iter elt : Expr} {es ifs : List Expr} {pos spos p2 pt py cpos apos : Pos} {p : Pt} {d : D} {ds L : List D} {dss : List (List D)} {E : Endv} {st : Stmt} {sts body : List Stmt} {i j : Nat} {x y : Str} {k : Bool} {scope : Scope} {own : List (Str × Nat)} {P : Sl → Prop}

/-! ### a slot's own objects are changed -/
theorem Wk.chg {K : PySem.W.Frag} {F G0 G H : Hp} {σ : L2.St} {ws : List V} {w : V} (h : Wk K F G0 Γ τ G H σ ws) (hn : NI τ) (hw : σ[i]? = some (some w)) (hi : Γ[i]? = some s) (ne : s ≠ .no) :
    ∃ O, Ok K G H σ O (.inl i) w s ∧ (∀ b, O b ≠ none → G b = none ∧ F b = none) ∧ Ex G H ∧ ∀ H' s', (∀ b, O b ≠ some (.inl i) → H' b = H b) → Ok K G H' σ O (.inl i) w s' → Wk K F G0 (Γ.set i s') τ G H' σ ws := by
  obtain ⟨O, a⟩ := h
  have hil : i < Γ.length := (List.getElem?_eq_some_iff.mp hi).1
  rcases a.sl i _ hi with z | ⟨w', e, hok⟩
  · exact absurd z ne
  · rw [hw] at e; cases e
    refine ⟨O, hok, a.own, a.gh, fun H' s' hh hok' => ?_⟩
    have okts : ∀ {ws : List V} {τ : List Sl}, NI τ → OkTs K G H σ O ws τ → OkTs K G H' σ O ws τ := by
      intro ws τ
      induction τ generalizing ws with
      | nil => intro _ h; cases ws with
        | nil => trivial
        | cons _ _ => exact h
      | cons s τ ih => intro hn h; cases ws with
        | nil => exact h
        | cons w ws =>
          refine ⟨h.1.tr (Ex.refl _) (fun b ho _ => ⟨ho, hh b (by rw [ho]; simp)⟩) id (.inl (hn s (by simp))), ih (fun s hs => hn s (by simp [hs])) h.2⟩
    refine ⟨O, by simp [a.len], fun j s2 e => ?_, okts hn a.ts, a.own, a.g0, fun b u hb => ?_, fun b u hb => ?_, a.gf⟩
    · by_cases hj : i = j
      · subst hj
        rw [List.getElem?_set_self hil] at e
        cases e
        exact .inr ⟨w, hw, hok'⟩
      · rw [List.getElem?_set_ne hj] at e
        rcases a.sl j s2 e with z | ⟨w', e', h'⟩
        · exact .inl z
        · refine .inr ⟨w', e', h'.tr (Ex.refl _) (fun b ho _ => ⟨ho, hh b (by rw [ho]; intro z; exact hj (Sum.inl.inj (Option.some.inj z)).symm)⟩) id (.inl fun i k z => ?_)⟩
          have := a.sto e
          rw [z] at this; cases this
    · have : O b = none := by
        cases z : O b with
        | none => rfl
        | some id => have := (a.own b (by rw [z]; simp)).1; rw [this] at hb; cases hb
      rw [hh b (by rw [this]; simp)]; exact a.gh b u hb
    · have : O b = none := by
        cases z : O b with
        | none => rfl
        | some id => have := (a.own b (by rw [z]; simp)).2; rw [this] at hb; cases hb
      rw [hh b (by rw [this]; simp)]; exact a.fh b u hb
theorem Wk.bo_at {K : PySem.W.Frag} {F G0 G H : Hp} {σ : L2.St} {w : V} {ws : List V} (h : Wk K F G0 Γ (.bo i :: τ) G H σ (w :: ws)) : σ[i]? = some (some w) := let ⟨_, a⟩ := h; a.ts.1.2

/-! ### xs[i] = , xss[r][i] = -/
theorem paired_set {α β : Type} {R R' : α → β → Prop} {x : α} {y : β} : ∀ {l : List α} {m : List β} {r : Nat}, Paired R l m → l[r]? = some x → R' x y → (∀ (j : Nat) a b, j ≠ r → l[j]? = some a → R a b → R' a b) → Paired R' l (m.set r y)
  | _, _, _, .nil, h, _, _ => by simp at h
  | _, _, 0, .cons a t, h, hx, k => by
    simp at h; subst h
    exact .cons hx (paired_mem2 t fun j a b e r => k (j + 1) a b (by omega) (by simpa using e) r)
  | _, _, r + 1, .cons a t, h, hx, k => .cons (k 0 _ _ (by omega) rfl a) (paired_set t (by simpa using h) hx fun j a b hj e r => k (j + 1) a b (by omega) (by simpa using e) r)
where
  paired_mem2 {α β : Type} {R R' : α → β → Prop} : ∀ {l : List α} {m : List β}, Paired R l m → (∀ (j : Nat) a b, l[j]? = some a → R a b → R' a b) → Paired R' l m
  | _, _, .nil, _ => .nil
  | _, _, .cons a t, k => .cons (k 0 _ _ rfl a) (paired_mem2 t fun j a b e r => k (j + 1) a b (by simpa using e) r)
theorem ref_inj : ∀ {ps qs : List Addr}, ps.map V.ref = qs.map V.ref → ps = qs
  | [], [], _ => rfl
  | p :: ps, q :: qs, h => by
    simp only [List.map_cons, List.cons.injEq, V.ref.injEq] at h
    rw [h.1, ref_inj h.2]
  | [], _ :: _, h => by cases h
  | _ :: _, [], h => by cases h
theorem tg_sub {ki : Int} {kn : Nat} (ho : ∀ τ, GE S o Γ τ Γ (.bo i)) (hi : ∀ τ, GE S e Γ τ Γ (.sh (.int ki))) (hs : Γ[i]? = some (.ol ds)) (hk : ixN ds.length ki = some kn)
    (ha : ∀ env v, assign (.Subscript o e pos) env v = (do
      let ov ← holding [v] (eval o env)
      let iv ← holding [v, ov] (eval e env)
      standAt pos
      holding [v, ov, iv] (setItem ov iv v)
      release [v, ov, iv] [])) : TgG S (.Subscript o e pos) Γ d (Γ.set i (.ol (ds.set kn d))) := by
  refine ⟨gSub (wpE S o) (wpE S e) rSetL, fun X I => pg_sub (pe_can I) (pe_can I) set_list (ha _), fun F G0 G H σ w τ ws hn wk Q q => (ho _).can F G0 G H σ _ wk _ fun wo G1 H1 wk1 => (hi _).can F G0 G1 H1 σ _ wk1 _ fun wi G2 H2 wk2 => ?_⟩
  have h2 := wk2.top_sh
  cases h2
  have hw := wk2.drop.bo_at
  have hd := wk2.drop.drop.top_sh
  obtain ⟨O, ⟨p, vs, ew, op, hp, B⟩, hown, _, fin⟩ := wk2.drop.drop.drop.chg (fun s hs i k z => by have := hn s hs; rw [z] at this; cases this) hw hs (by simp)
  refine ⟨p, vs, ki, kn, ew, rfl, hp, by rw [dpa_len B]; exact hk, q _ _ _ (fin _ _ (fun b hb => upd_ne fun z => hb (by rw [z]; exact op)) ⟨p, _, ew, op, upd_same, dpa_set hd kn B⟩)⟩
theorem tg_sub2 {ki : Int} {kn r : Nat} (ho : ∀ τ, GE S o Γ τ Γ (.boi i r)) (hi : ∀ τ, GE S e Γ τ Γ (.sh (.int ki))) (hs : Γ[i]? = some (.oll dss)) (hr : dss[r]? = some ds) (hk : ixN ds.length ki = some kn)
    (ha : ∀ env v, assign (.Subscript o e pos) env v = (do
      let ov ← holding [v] (eval o env)
      let iv ← holding [v, ov] (eval e env)
      standAt pos
      holding [v, ov, iv] (setItem ov iv v)
      release [v, ov, iv] [])) : TgG S (.Subscript o e pos) Γ d (Γ.set i (.oll (dss.set r (ds.set kn d)))) := by
  refine ⟨gSub (wpE S o) (wpE S e) rSetL, fun X I => pg_sub (pe_can I) (pe_can I) set_list (ha _), fun F G0 G H σ w τ ws hn wk Q q => (ho _).can F G0 G H σ _ wk _ fun wo G1 H1 wk1 => (hi _).can F G0 G1 H1 σ _ wk1 _ fun wi G2 H2 wk2 => ?_⟩
  have h2 := wk2.top_sh
  cases h2
  have hd := wk2.drop.drop.top_sh
  obtain ⟨O', A'⟩ := id wk2
  obtain ⟨_, p', ps', q', e', _, hp', hq', ew'⟩ := A'.ts.2.1
  obtain ⟨O, ⟨p, ps, ew, op, hp, nd, B⟩, hown, _, fin⟩ := wk2.drop.drop.drop.chg (fun s hs i k z => by have := hn s hs; rw [z] at this; cases this) e' hs (by simp)
  cases ew
  rw [hp] at hp'
  have eps : ps.map V.ref = ps'.map V.ref := by simpa using hp'
  have eps : ps = ps' := ref_inj eps
  subst eps
  obtain ⟨q2, hq2, oq, vs, hv, bv⟩ := paired_at B hr
  rw [hq'] at hq2; cases hq2
  have hnp : q' ≠ p' := fun z => (List.nodup_cons.mp nd).1 (z ▸ List.mem_of_getElem? hq')
  refine ⟨q', vs, ki, kn, ew', rfl, hv, by rw [dpa_len bv]; exact hk, q _ _ _ (fin _ _ (fun b hb => upd_ne fun z => hb (by rw [z]; exact oq)) ⟨p', ps, rfl, op, (upd_ne hnp.symm).trans hp, nd, paired_set B hq' ⟨oq, _, upd_same, dpa_set hd kn bv⟩ fun j a b hj ea h => ⟨h.1, ?_⟩⟩)⟩
  obtain ⟨us, h1, h2⟩ := h.2
  refine ⟨us, (upd_ne fun z => ?_).trans h1, h2⟩
  subst z
  have nd2 := (List.nodup_cons.mp nd).2
  exact hj ((List.getElem?_inj (List.getElem?_eq_some_iff.mp ea).1 nd2).mp (ea.trans hq'.symm))

/-! ### dicts -/
abbrev KR (G : Hp) : Key × V → Key × D → Prop := fun a b => a.1 = b.1 ∧ Dq G a.2 b.2
def valD (kvs : List (Key × D)) (k : Key) : Option D := (kvs.find? fun kv => decide (kv.1 = k)).map (·.2)
def putD (kvs : List (Key × D)) (k : Key) (v : D) : List (Key × D) :=
  if (kvs.any fun kv => decide (kv.1 = k)) = true then kvs.map (fun kv => if kv.1 = k then (kv.1, v) else kv) else kvs ++ [(k, v)]
theorem kr_val {G : Hp} {k : Key} : ∀ {vs : List (Key × V)} {kvs : List (Key × D)}, Paired (KR G) vs kvs → (valV vs k).isSome = (valD kvs k).isSome
  | _, _, .nil => rfl
  | _, _, .cons (a := a) (b := b) h t => by
    unfold valV valD
    rw [List.find?_cons, List.find?_cons, h.1]
    cases decide (b.1 = k) with
    | true => rfl
    | false => exact kr_val t
theorem kr_any {G : Hp} {k : Key} : ∀ {vs : List (Key × V)} {kvs : List (Key × D)}, Paired (KR G) vs kvs → (vs.any fun kv => decide (kv.1 = k)) = (kvs.any fun kv => decide (kv.1 = k))
  | _, _, .nil => rfl
  | _, _, .cons h t => by rw [List.any_cons, List.any_cons, kr_any t, h.1]
theorem kr_map {G : Hp} {k : Key} {v : V} {d : D} (hv : Dq G v d) : ∀ {vs : List (Key × V)} {kvs : List (Key × D)}, Paired (KR G) vs kvs → Paired (KR G) (vs.map (fun kv => if kv.1 = k then (kv.1, v) else kv)) (kvs.map (fun kv => if kv.1 = k then (kv.1, d) else kv))
  | _, _, .nil => .nil
  | _, _, .cons (a := a) (b := b) h t => by
    refine .cons ?_ (kr_map hv t)
    show KR G (if a.1 = k then (a.1, v) else a) (if b.1 = k then (b.1, d) else b)
    rw [← h.1]
    split
    · exact ⟨rfl, hv⟩
    · exact h
theorem kr_put {G : Hp} {k : Key} {v : V} {d : D} (hv : Dq G v d) {vs : List (Key × V)} {kvs : List (Key × D)} (h : Paired (KR G) vs kvs) : Paired (KR G) (putK vs k v) (putD kvs k d) := by
  unfold putK putD
  rw [kr_any h]
  split
  · exact kr_map hv h
  · exact paired_app h ⟨rfl, hv⟩
/-- an int or a text as a key -/
inductive IsK : D → Key → Prop
  | int (i : Int) : IsK (.int i) (.inl i)
  | str (x : Str) : IsK (.str x) (.inr x)
theorem IsK.kV {G : Hp} {w : V} {d : D} {k : Key} (h : IsK d k) (q : Dq G w d) : w = kV k := by cases h <;> cases q <;> rfl
/-- {k: v} -/
theorem ge_disp1 {kk : Key} {dk : D} (ha : GE S a Γ [] Γ1 (.sh dk)) (hb : GE S b Γ1 [.sh dk] Γ2 (.sh d)) (hk : IsK dk kk) : GE S (.Dict [some a] [b] pos) Γ [] Γ2 (.od [(kk, d)]) := by
  refine ⟨tDisp [(wpE S a, wpE S b)], fun X I => pe_disp (pps_cons (pe_can I) (pe_can I) pps_nil) rfl rfl (fun z => by cases z) (by simp), fun F G0 G H σ ws wk Q q => ?_⟩
  have ews : ws = [] := by
    obtain ⟨_, A⟩ := wk
    exact List.eq_nil_of_length_eq_zero A.ts.len
  subst ews
  intro p hp
  have wk' : Wk S.K F G0 Γ [.od []] G (upd H p (.dK [])) σ [.ref p] := wk.newD hp .nil
  refine (ha.frame (ni_cons (fun i k z => by cases z) ni_nil)).can F G0 G _ σ _ wk' _ fun w1 G1 H1 wk1 => ?_
  obtain ⟨F', wk0, back⟩ := wk1.drop.aside (ni_cons (fun i k z => by cases z) ni_nil)
  have hd1 := wk1.top_sh
  refine hb.can F' G1 G1 H1 σ [w1] (wk0.sh hd1) _ fun w2 G2 H2 wk2 => ?_
  have wk3 := back _ _ _ _ _ wk2
  have wk3 : Wk S.K F G0 Γ2 [.sh d, .sh dk, .od []] G2 H2 σ [w2, w1, .ref p] := wk3
  obtain ⟨O, A⟩ := id wk3
  obtain ⟨h2, h1, ⟨p', vs, e, op, hp', B⟩, _⟩ := A.ts
  cases e
  cases B
  have gp := (A.own p (by rw [op]; simp)).1
  have fp := (A.own p (by rw [op]; simp)).2
  refine ⟨hp', [(kk, w2)], by rw [hk.kV h1]; rfl, by simp, q _ G2 _ ⟨O, A.len, fun i s e => ?_, ⟨⟨p, _, rfl, op, upd_same, .cons ⟨rfl, h2⟩ .nil⟩, trivial⟩, A.own, A.g0, fun b u hb => ?_, fun b u hb => ?_, A.gf⟩⟩
  · rcases A.sl i s e with z | ⟨w, e', h⟩
    · exact .inl z
    · refine .inr ⟨w, e', h.tr (Ex.refl _) (fun b ho _ => ⟨ho, upd_ne fun z => ?_⟩) id (.inr fun b i ho _ => ⟨ho, upd_ne fun z => ?_⟩)⟩
      · rw [z, op] at ho; cases ho
      · rw [z, op] at ho; cases ho
  · rw [upd_ne (ne_of_none hb gp)]; exact A.gh b u hb
  · rw [upd_ne (ne_of_none hb fp)]; exact A.fh b u hb
theorem Wk.od_at {K : PySem.W.Frag} {F G0 G H : Hp} {σ : L2.St} {w : V} {ws : List V} {kvs : List (Key × D)} (h : Wk K F G0 Γ (.bo i :: τ) G H σ (w :: ws)) (hi : Γ[i]? = some (.od kvs)) : ∃ p vs, w = .ref p ∧ H p = some (.dK vs) ∧ Paired (KR G) vs kvs := by
  obtain ⟨O, a⟩ := h
  rcases a.sl i _ hi with z | ⟨w', e, p, vs, e2, _, hp, b⟩
  · cases z
  · rw [a.ts.1.2] at e; cases e
    exact ⟨p, vs, e2, hp, b⟩
/-- k in d, k not in d -/
theorem gt_inD {kk : Key} {dk : D} {kvs : List (Key × D)} (ha : GE S a Γ τ Γ1 (.sh dk)) (hb : GE S b Γ1 (.sh dk :: τ) Γ2 (.bo i)) (hk : IsK dk kk) (hi : Γ2[i]? = some (.od kvs)) (hm : behindInMarks .In b = false) : GT S (.Compare a [.In] [b] pos) Γ τ Γ2 (valD kvs kk).isSome := by
  obtain ⟨ta, pa, ea⟩ := ha
  obtain ⟨tb, pb, eb⟩ := hb
  refine ⟨tB (tDIn ta tb), fun X I => pt_cmp (pc_din I.hu1 (pa X I) (pb X I)) hm, fun F G0 G H σ ws wk Q q => ea F G0 G H σ ws wk _ fun w1 G1 H1 wk1 => eb F G0 G1 H1 σ _ wk1 _ fun w2 G2 H2 wk2 => ?_⟩
  obtain ⟨p, vs, e, hp, B⟩ := wk2.od_at hi
  subst e
  have h1 := wk2.drop.top_sh
  cases hk.kV h1
  exact ⟨p, _, rfl, DGet.k hp, _, rfl, by rw [kr_val B]; exact q G2 H2 wk2.drop.drop⟩
theorem gt_notInD {kk : Key} {dk : D} {kvs : List (Key × D)} (ha : GE S a Γ τ Γ1 (.sh dk)) (hb : GE S b Γ1 (.sh dk :: τ) Γ2 (.bo i)) (hk : IsK dk kk) (hi : Γ2[i]? = some (.od kvs)) (hm : behindInMarks .NotIn b = false) : GT S (.Compare a [.NotIn] [b] pos) Γ τ Γ2 (!(valD kvs kk).isSome) := by
  obtain ⟨ta, pa, ea⟩ := ha
  obtain ⟨tb, pb, eb⟩ := hb
  refine ⟨tB (tDNotIn ta tb), fun X I => pt_cmp (pc_dnotin I.hu1 (pa X I) (pb X I)) hm, fun F G0 G H σ ws wk Q q => ea F G0 G H σ ws wk _ fun w1 G1 H1 wk1 => eb F G0 G1 H1 σ _ wk1 _ fun w2 G2 H2 wk2 => ?_⟩
  obtain ⟨p, vs, e, hp, B⟩ := wk2.od_at hi
  subst e
  have h1 := wk2.drop.top_sh
  cases hk.kV h1
  exact ⟨p, _, rfl, DGet.k hp, _, rfl, by rw [kr_val B]; exact q G2 H2 wk2.drop.drop⟩
/-- d[k] = v -/
theorem gs_dput {kk : Key} {dk : D} {kvs : List (Key × D)} (hv : GE S e Γ [] Γ (.sh d)) (ho : ∀ τ, GE S o Γ τ Γ (.bo i)) (hx : ∀ τ, GE S a Γ τ Γ (.sh dk)) (hk : IsK dk kk) (hi : Γ[i]? = some (.od kvs)) (hl : kvs.length < 100000) (k : E.nx (Γ.set i (.od (putD kvs kk d))))
    (hsw : ∀ X, S.Is X → swapsWith e (some (.Subscript o a pt)) pos.line X.env = pure false) : GS S (.Assign [.Subscript o a pt] e pos) Γ E := by
  refine ⟨sDPut (wpE S o) (wpE S a) (wpE S e), fun X I => ps_dput I.hu1 (pe_can I) (pe_can I) (pe_can I) (hsw X I), fun F G0 G H σ wk D K => hv.can F G0 G H σ [] wk _ fun w1 G1 H1 wk1 => (ho _).can F G0 G1 H1 σ _ wk1 _ fun w2 G2 H2 wk2 => (hx _).can F G0 G2 H2 σ _ wk2 _ fun w3 G3 H3 wk3 => ?_⟩
  have h3 := wk3.top_sh
  cases hk.kV h3
  have hw := wk3.drop.bo_at
  have hd := wk3.drop.drop.top_sh
  obtain ⟨O, ⟨p, vs, ew, op, hp, B⟩, hown, _, fin⟩ := wk3.drop.drop.drop.chg (by intro s hs; cases hs) hw hi (by simp)
  exact ⟨p, _, ew, DPut.k hp (by rw [paired_len B]; exact Nat.lt_of_lt_of_le hl (by decide)), K.nx _ _ _ _ k (fin _ _ (fun b hb => upd_ne fun z => hb (by rw [z]; exact op)) ⟨p, _, ew, op, upd_same, kr_put hd B⟩)⟩
end
end Lf
set_option maxHeartbeats 4000000
namespace Lf
open PySem L2 Evl RZ PySem.Spec PyProof.Rows

/-! ### enumerate over a tuple -/
theorem meets_enum1 {v : Value} {o : Obj} {H : Heap → Prop} (B : Begins v o H) :
    Meets (Builtin.«enumerate.__new__» ⟨[.type "enumerate", v], []⟩) (fun _ R s => H s.heap ∧
      R (.ok (.ret (.ref (s.heap.push o).objs.size))) { s with heap := (s.heap.push o).push { cls := .type "enumerate", data := .fields #[.none, .bool false, .ref s.heap.objs.size, rawInt 0, .none, .none] } }) :=
  .of_wp fun prog w A R s h => by
    obtain ⟨hp, g, d, tk, os⟩ := s
    obtain ⟨h1, h⟩ := h
    have hsub := sub_enumerate
    have q1 : ∀ {A' : Around} {E : Value → Shared → Prop} {Q : Value → Shared → Prop}, Q (.ref hp.objs.size) ⟨hp.push o, g, d, tk, os⟩ → wpAny (model prog w) A' (pyIter v) Q E ⟨hp, g, d, tk, os⟩ :=
      fun q => B.iter prog w _ _ ⟨hp, g, d, tk, os⟩ _ h1 q
    wp_walk using q1
    refine wpAny_stack_any fun st => wpAny_pure ?_
    split
    · rename_i c _ _ _ _ _
      cases (c == Value.type "enumerate")
      · wp_walk using q1
        exact ⟨_, rfl, h⟩
      · wp_walk using q1
        exact ⟨_, rfl, h⟩
    · wp_walk using q1
      exact ⟨_, rfl, h⟩
theorem call_enum1 {prog : Program} {w : World} {A : Around} {E : Value → Shared → Prop} {s : Shared} {v : Value} {o : Obj} {H : Heap → Prop} {Q : Value → Shared → Prop} (B : Begins v o H) (h1 : H s.heap)
    (h : ∀ h', IsEnum h' (s.heap.objs.size + 1) s.heap.objs.size 0 .none → h'.get? s.heap.objs.size = some o → (∀ b o, s.heap.get? b = some o → h'.get? b = some o) → Q (.ref (s.heap.objs.size + 1)) { s with heap := h' }) :
    wpAny (model prog w) A (call (.type "enumerate") [v]) Q E s := by
  refine callType_new F.called_enumerate (by decide) (F.typeCall_enumerate_1 _) (F.newCall_enumerate_1 _) (fun obj => F.args_object_init_2 obj _) F.entry_enumerate_new (meets_enum1 B) ⟨h1, ?_⟩
  have hz : (s.heap.push o).objs.size = s.heap.objs.size + 1 := Heap.size_push ..
  show _ ∧ _
  rw [hz]
  have he : IsEnum ((s.heap.push o).push { cls := .type "enumerate", data := .fields #[.none, .bool false, .ref s.heap.objs.size, rawInt 0, .none, .none] }) (s.heap.objs.size + 1) s.heap.objs.size 0 .none := by
    have := Heap.get?_push_size (s.heap.push o) (o := { cls := .type "enumerate", data := .fields #[.none, .bool false, .ref s.heap.objs.size, rawInt 0, .none, .none] }) rfl
    rw [hz] at this; exact this
  exact ⟨⟨_, he, rfl⟩, h _ he (Heap.get?_push_of_some _ (Heap.get?_push_size _ B.free)) fun b o x => Heap.get?_push_of_some _ (Heap.get?_push_of_some _ x)⟩
def IteT (K : PySem.W.Frag) (a : Addr) : It :=
  ⟨fun i H => ∃ (xs : List V) (x : V), SqT K H a xs ∧ xs[i]? = some x, fun i H v H' => ∃ T x, v = .ref T ∧ H T = none ∧ H' = upd H T (.tup [.int (i : Nat), x]) ∧ ∀ xs, SqT K H a xs → xs[i]? = some x, fun i H => ∃ xs : List V, SqT K H a xs ∧ xs.length ≤ i⟩
theorem turn_enumT {P : Program} {w : World} {K : PySem.W.Frag} {elts : List Expr} {kk : Nat} {tpos : Pos} (a e it : Addr) :
    Turn P w K (.Tuple elts kk tpos) (IteT K a) [e, it] e (fun i h => (∃ old, IsEnum h e it ((i : Nat) : Int) old) ∧ h.IsTupleIter it a i ∧ e ≠ it ∧ a ≠ it ∧ a ≠ e) where
  mem := by simp
  obj := fun i h st b hb => by
    obtain ⟨⟨old, he⟩, ⟨o, ho, hc, hd⟩, _⟩ := st
    have e' : b = e ∨ b = it := by simpa using hb
    rcases e' with z | z
    · rw [z]; exact ⟨_, he, fun v q => nomatch q⟩
    · rw [z]; exact ⟨o, ho, fun v q => by rw [hd] at q; cases q⟩
  keep := fun i h h' st k => let ⟨⟨old, he⟩, hi, hne⟩ := st; ⟨⟨old, k e (by simp) _ he⟩, hi.at fun o q => k it (by simp) o q, hne⟩
  item := by
    intro X hP hw hK hc i pins s σ H E I hf st hg
    subst hP hw hK
    obtain ⟨⟨old, he⟩, hit, hne, hai, hae⟩ := st
    obtain ⟨xs, x, hq, hx⟩ := hg
    obtain ⟨its, rv, p, hz⟩ := I.tuple hq
    obtain ⟨u, hu, ru⟩ := rv.get hx
    have hl := rv.length
    have hix : i < xs.length := (List.getElem?_eq_some_iff.mp hx).1
    have hel : e < s.heap.objs.size := Heap.lt_size he
    have hil : it < s.heap.objs.size := by obtain ⟨_, q, _⟩ := hit; exact Heap.lt_size q
    refine wpAny_pyNext_enum_itemC (c := (i : Int)) (Draws.tuple (show X.A.in1.handled = none from I.ok.hd hc) it a hai its.toArray) he ⟨hit, p⟩ (by simp; omega) hne (by simp [hne, Ne.symm hae]) fun v h' tk hP ho hst hT hsz hk => ?_
    obtain ⟨hit', p'⟩ := hst
    have ev : v = u := by simpa [hu] using hP.symm
    subst ev
    refine ⟨_, rfl, wpAny_letOwnedTupleGo_enum (s := { s with heap := h', toks := tk + 1 }) ho fun h'' he' sb => ?_⟩
    have hT2 : h''.get? s.heap.objs.size = some { cls := .type "tuple", data := .seq #[.int i tk, v] } := (sb.2 _ (Nat.ne_of_gt hel)).trans hT
    have new : ObjOk X.prog X.w (upd H s.heap.objs.size (.tup [.int (i : Nat), x])) h'' s.heap.objs.size (.tup [.int (i : Nat), x]) :=
      ⟨by show 2 ≤ sizeLine; decide, [.int i tk, v], .cons ⟨_, rfl⟩ (.cons ru .nil), ⟨_, hT2, rfl, _, rfl⟩⟩
    have I1 : Inv X pins σ (upd H s.heap.objs.size (.tup [.int (i : Nat), x])) { s with heap := h'', toks := tk + 1 } :=
      I.turnedNew (ch := [e, it]) (fun b ob hb q => (sb.2 b (fun z => hb (by simp [z]))).trans (hk b ob (fun z => hb (by simp [z])) (fun z => hb (by simp [z])) q)) hf (Nat.le_refl _) new
    refine ⟨.ref s.heap.objs.size, _, I1, rfl, ⟨_, x, rfl, I.hok.fresh (Nat.le_refl _), rfl, fun ys hy => by rw [I.tuple_inj hy hq]; exact hx⟩, ⟨⟨v, ?_⟩, hit'.at fun o q => (sb.2 it (Ne.symm hne)).trans q, hne, hai, hae⟩, fun b hb => ?_⟩
    · have e1 : ((i + 1 : Nat) : Int) = (i : Int) + 1 := by omega
      rw [e1]; exact he'
    · have hb' : b < s.heap.objs.size := by
        have e' : b = e ∨ b = it := by simpa using hb
        rcases e' with z | z
        · rw [z]; exact hel
        · rw [z]; exact hil
      rw [upd_ne (Nat.ne_of_lt hb')]
      exact (hf b hb).1
  done := by
    intro X hP hw hK hc i pins s σ H E I hf st hg
    subst hP hw hK
    obtain ⟨⟨old, he⟩, hit, hne, hai, hae⟩ := st
    obtain ⟨xs, hq, hx⟩ := hg
    obtain ⟨its, rv, p, hz⟩ := I.tuple hq
    obtain ⟨f0, f1, f2, f3, f4, f5⟩ := hf it (by simp)
    have hl := rv.length
    have D : Draws X.prog X.w X.A.in1 it [it, a] i (fun _ _ => True) (fun j h => j = i ∧ h.IsTupleIter it a i ∧ h.IsTuple a its.toArray) := {
      live := fun _ _ st => let ⟨o, ho, _⟩ := st.2.1; ⟨o, ho⟩
      frame := fun _ _ _ st hk => ⟨st.1, st.2.1.at fun o e => hk it (by simp) o e, st.2.2.at fun o e => hk a (by simp) o e⟩
      item := fun j s Q E hj st hQ => absurd st.1 (by omega)
      done := fun s Q E st hE => wpAny_nextOf_tuple_end (show X.A.in1.handled = none from I.ok.hd hc) st.2.1 st.2.2 (by simp; omega) hE }
    exact wpAny_pyNext_enum_endD D he ⟨rfl, hit, p⟩ fun h' eb => ⟨rfl, I.turned (t' := s.toks) (fun b o hb q => eb b o hb q) f0 f1 f3 f4 f5⟩
  self := fun A i s Q E st h => let ⟨⟨_, he⟩, _⟩ := st; wpAny_pyIter_enum he h
def iEnumT (K : PySem.W.Frag) (ta : TA) : TI := fun σ H R => ta σ H fun vs H1 => ∃ a xs, vs = [.ref a] ∧ SqT K H1 a xs ∧ R (IteT K a) H1
theorem pi_enumT {X : Cx} {e : Expr} {ta : TA} {p pos tpos : Pos} {elts : List Expr} {kk : Nat} (hg : Gl X "enumerate") (hm : X.mg "enumerate" = none) (ha : PA X [e] ta) (hs : starEach [e] X.env = [(false, eval e X.env)]) :
    PI X (.Tuple elts kk tpos) (.Call (.Name "enumerate" p) [e] [] pos) (iEnumT X.K ta) := by
  refine ⟨fun pins s σ H R I h => ?_⟩
  refine Call_ (ld_blt I hg hm boot_enumerate (PyProof.Rows.callWith_type1 (thn (ha.run pos pins s σ H _ I h) fun us s1 ⟨vs, H1, I1, r1, q1⟩ => ?_) hs rfl))
  obtain ⟨a, xs, ex, hq, q⟩ := q1
  subst ex
  cases r1 with
  | cons r rr =>
    cases rr
    cases r
    obtain ⟨its, rv, p', hz⟩ := I1.tuple hq
    have hal : a < s1.heap.objs.size := by obtain ⟨o, ho, _⟩ := p'; exact Heap.lt_size ho
    refine call_enum1 (begins_tuple a its.toArray) p' fun h' he hit hk => wpAny_pyIter_enum he ?_
    have I2 : Inv X pins σ H1 { s1 with heap := h' } := I1.kept (t' := s1.toks) hk
    refine ⟨s1.heap.objs.size + 1, [s1.heap.objs.size + 1, s1.heap.objs.size], _, _, H1, rfl, I2, turn_enumT a (s1.heap.objs.size + 1) s1.heap.objs.size, ⟨⟨.none, he⟩, ⟨_, hit, rfl, rfl⟩, Nat.succ_ne_self _, Nat.ne_of_lt hal, Nat.ne_of_lt (Nat.lt_succ_of_lt hal)⟩, fun b hb => ?_, q⟩
    have e' : b = s1.heap.objs.size + 1 ∨ b = s1.heap.objs.size := by simpa using hb
    have hle : s1.heap.objs.size ≤ b := by
      rcases e' with z | z
      · rw [z]; exact Nat.le_add_right _ _
      · rw [z]; exact Nat.le_refl _
    exact I1.fpOk hle (I1.hok.fresh hle)

section
variable {S : Stat} {Γ Γ0 Γ1 Γ2 Γ3 τ τ1 : List Sl} {s s1 s2 s3 : Sl} {a b c e o tg iter elt : Expr} {es ifs elts : List Expr} {pos spos p2 pt py cpos apos tpos : Pos} {p : Pt} {d : D} {ds L L1 L2 : List D} {dss : List (List D)} {E : Endv} {st : Stmt} {sts body : List Stmt} {i j kk : Nat} {x y : Str} {k : Bool} {scope : Scope} {own : List (Str × Nat)} {P : Sl → Prop}
/-- (i, x), from n on -/
def enD (n : Nat) : List D → List D
  | [] => []
  | d :: ds => .tuple [.int (n : Nat), d] :: enD (n + 1) ds
theorem enD_len : ∀ (n : Nat) (ds : List D), (enD n ds).length = ds.length
  | _, [] => rfl
  | n, d :: ds => by unfold enD; rw [List.length_cons, List.length_cons, enD_len]
theorem enD_at : ∀ (n : Nat) (ds : List D) (i : Nat), (enD n ds)[i]? = ds[i]?.map fun d => .tuple [.int ((n + i : Nat) : Int), d]
  | _, [], i => by simp [enD]
  | n, d :: ds, 0 => by simp [enD]
  | n, d :: ds, i + 1 => by
    unfold enD
    rw [List.getElem?_cons_succ, List.getElem?_cons_succ, enD_at (n + 1) ds i]
    have : n + 1 + i = n + (i + 1) := by omega
    rw [this]
theorem yields_enT {G : Hp} {K : PySem.W.Frag} {q : Addr} {vs : List V} (hp : G q = some (.tup vs)) (B : DqAll G vs L) : YieldsG (IteT K q) G (enD 0 L) := fun i G2 H2 e1 e2 => by
  have hq : SqT K H2 q vs := st_of (e2 _ _ (e1 _ _ hp))
  have hl := dpa_len B
  rw [enD_len]
  refine ⟨fun hi => ⟨vs, vs[i], hq, by simp⟩, fun hi => ⟨vs, hq, by omega⟩, fun x H' hi y => ?_⟩
  obtain ⟨T, v', ev, hT, eH, hv⟩ := y
  obtain ⟨v, hv2, hd⟩ := dpa_get B (List.getElem?_eq_getElem hi)
  have := hv vs hq
  rw [hv2] at this
  cases this
  refine ⟨_, by rw [enD_at, List.getElem?_eq_getElem hi]; rfl, .inr ⟨T, _, _, hT, ev, eH, rfl, ?_⟩⟩
  rw [Nat.zero_add]
  exact .cons (.int _) (.cons (dp_ex e1 _ _ hd) .nil)
theorem yields_enL {G : Hp} {K : PySem.W.Frag} {q : Addr} {vs : List V} (hp : G q = some (.lst vs)) (B : DqAll G vs L) : YieldsG (Ite K q) G (enD 0 L) := fun i G2 H2 e1 e2 => by
  have hq : SqL K H2 q vs := sq_of (e2 _ _ (e1 _ _ hp))
  have hl := dpa_len B
  rw [enD_len]
  refine ⟨fun hi => ⟨vs, vs[i], hq, by simp⟩, fun hi => ⟨vs, hq, by omega⟩, fun x H' hi y => ?_⟩
  obtain ⟨T, v', ev, hT, eH, hv⟩ := y
  obtain ⟨v, hv2, hd⟩ := dpa_get B (List.getElem?_eq_getElem hi)
  have := hv vs hq
  rw [hv2] at this
  cases this
  refine ⟨_, by rw [enD_at, List.getElem?_eq_getElem hi]; rfl, .inr ⟨T, _, _, hT, ev, eH, rfl, ?_⟩⟩
  rw [Nat.zero_add]
  exact .cons (.int _) (.cons (dp_ex e1 _ _ hd) .nil)
theorem ig_enT (hg : GlB S "enumerate") (hm : S.mg "enumerate" = none) (h : GE S e Γ τ Γ1 (.sh (.tuple L))) (he : ∀ env, starEach [e] env = [(false, eval e env)]) : IG S (.Tuple elts kk tpos) (.Call (.Name "enumerate" pt) [e] [] pos) Γ τ Γ1 (enD 0 L) := by
  obtain ⟨te, pe, ee⟩ := h
  refine ⟨iEnumT S.K (tCons te tNil), fun X I => by rw [← I.K]; exact pi_enumT (I.gl hg) (by rw [I.mg]; exact hm) (pa_cons (pe X I) pa_nil (he _)) (he _), fun F G0 G H σ ws wk R r => ee F G0 G H σ ws wk _ fun w G1 H1 wk1 => ?_⟩
  have := wk1.top_sh
  cases this with
  | tup hp B => exact ⟨_, _, rfl, st_of (wk1.gh _ _ hp), r _ G1 H1 wk1.drop (yields_enT hp B)⟩
theorem ig_enL (hg : GlB S "enumerate") (hm : S.mg "enumerate" = none) (h : GE S e Γ τ Γ1 (.sh (.list L))) (he : ∀ env, starEach [e] env = [(false, eval e env)]) : IG S (.Tuple elts kk tpos) (.Call (.Name "enumerate" pt) [e] [] pos) Γ τ Γ1 (enD 0 L) := by
  obtain ⟨te, pe, ee⟩ := h
  refine ⟨iEnum S.K (tCons te tNil), fun X I => by rw [← I.K]; exact pi_enum (I.gl hg) (by rw [I.mg]; exact hm) (pa_cons (pe X I) pa_nil (he _)) (he _), fun F G0 G H σ ws wk R r => ee F G0 G H σ ws wk _ fun w G1 H1 wk1 => ?_⟩
  have := wk1.top_sh
  cases this with
  | lst hp B => exact ⟨_, _, rfl, sq_of (wk1.gh _ _ hp), r _ G1 H1 wk1.drop (yields_enL hp B)⟩

/-! ### zip -/
def zpD (L1 L2 : List D) : List D := (L1.zip L2).map fun p => .tuple [p.1, p.2]
theorem zpD_len : (zpD L1 L2).length = min L1.length L2.length := by simp [zpD]
theorem zpD_at {i : Nat} (h1 : i < L1.length) (h2 : i < L2.length) : (zpD L1 L2)[i]? = some (.tuple [L1[i], L2[i]]) := by
  unfold zpD
  rw [List.getElem?_map, List.getElem?_eq_getElem (by simp; omega)]
  simp
theorem yields_zpL {G : Hp} {K : PySem.W.Frag} {q r : Addr} {vs us : List V} (hp : G q = some (.lst vs)) (B : DqAll G vs L1) (hr : G r = some (.lst us)) (C : DqAll G us L2) : YieldsG (Itz K q r) G (zpD L1 L2) := fun i G2 H2 e1 e2 => by
  have hq : SqL K H2 q vs := sq_of (e2 _ _ (e1 _ _ hp))
  have hr' : SqL K H2 r us := sq_of (e2 _ _ (e1 _ _ hr))
  have hl := dpa_len B
  have hl2 := dpa_len C
  rw [zpD_len]
  refine ⟨fun hi => ⟨vs, us, vs[i], us[i], hq, hr', by simp, by simp⟩, fun hi => ⟨vs, us, hq, hr', by omega⟩, fun x H' hi y => ?_⟩
  obtain ⟨T, x', y', ev, hT, eH, hv, hu⟩ := y
  have h1 : i < L1.length := by omega
  have h2 : i < L2.length := by omega
  obtain ⟨v, hv2, hd⟩ := dpa_get B (List.getElem?_eq_getElem h1)
  obtain ⟨u, hu2, hd2⟩ := dpa_get C (List.getElem?_eq_getElem h2)
  have t1 := hv vs hq
  rw [hv2] at t1; cases t1
  have t2 := hu us hr'
  rw [hu2] at t2; cases t2
  exact ⟨_, zpD_at h1 h2, .inr ⟨T, _, _, hT, ev, eH, rfl, .cons (dp_ex e1 _ _ hd) (.cons (dp_ex e1 _ _ hd2) .nil)⟩⟩
theorem yields_zpT {G : Hp} {K : PySem.W.Frag} {q r : Addr} {vs us : List V} (hp : G q = some (.tup vs)) (B : DqAll G vs L1) (hr : G r = some (.tup us)) (C : DqAll G us L2) : YieldsG (ItzT K q r) G (zpD L1 L2) := fun i G2 H2 e1 e2 => by
  have hq : SqT K H2 q vs := st_of (e2 _ _ (e1 _ _ hp))
  have hr' : SqT K H2 r us := st_of (e2 _ _ (e1 _ _ hr))
  have hl := dpa_len B
  have hl2 := dpa_len C
  rw [zpD_len]
  refine ⟨fun hi => ⟨vs, us, vs[i], us[i], hq, hr', by simp, by simp⟩, fun hi => ⟨vs, us, hq, hr', by omega⟩, fun x H' hi y => ?_⟩
  obtain ⟨T, x', y', ev, hT, eH, hv, hu⟩ := y
  have h1 : i < L1.length := by omega
  have h2 : i < L2.length := by omega
  obtain ⟨v, hv2, hd⟩ := dpa_get B (List.getElem?_eq_getElem h1)
  obtain ⟨u, hu2, hd2⟩ := dpa_get C (List.getElem?_eq_getElem h2)
  have t1 := hv vs hq
  rw [hv2] at t1; cases t1
  have t2 := hu us hr'
  rw [hu2] at t2; cases t2
  exact ⟨_, zpD_at h1 h2, .inr ⟨T, _, _, hT, ev, eH, rfl, .cons (dp_ex e1 _ _ hd) (.cons (dp_ex e1 _ _ hd2) .nil)⟩⟩
theorem ig_zpT (hg : GlB S "zip") (hm : S.mg "zip" = none) (ha : GE S a Γ τ Γ1 (.sh (.tuple L1))) (hb : GE S b Γ1 (.sh (.tuple L1) :: τ) Γ2 (.sh (.tuple L2)))
    (he : ∀ env, starEach [a, b] env = [(false, eval a env), (false, eval b env)]) (he2 : ∀ env, starEach [b] env = [(false, eval b env)]) : IG S (.Tuple elts kk tpos) (.Call (.Name "zip" pt) [a, b] [] pos) Γ τ Γ2 (zpD L1 L2) := by
  obtain ⟨ta, pa, ea⟩ := ha
  obtain ⟨tb, pb, eb⟩ := hb
  refine ⟨iZipA S.K (tCons ta (tCons tb tNil)), fun X I => by rw [← I.K]; exact pi_zipA (I.gl hg) (by rw [I.mg]; exact hm) (pa_cons (pa X I) (pa_cons (pb X I) pa_nil (he2 _)) (by rw [he, he2])) (by rw [he, he2]) (by rw [he2]; rfl), fun F G0 G H σ ws wk R r => ea F G0 G H σ ws wk _ fun w G1 H1 wk1 => eb F G0 G1 H1 σ _ wk1 _ fun w2 G2 H2 wk2 => ?_⟩
  have h1 := wk2.drop.top_sh
  have h2 := wk2.top_sh
  cases h1 with
  | tup hp B => cases h2 with
    | tup hp2 B2 => exact ⟨_, _, _, _, rfl, .inr ⟨st_of (wk2.gh _ _ hp), st_of (wk2.gh _ _ hp2), r _ G2 H2 wk2.drop.drop (yields_zpT hp B hp2 B2)⟩⟩
theorem ig_zpL (hg : GlB S "zip") (hm : S.mg "zip" = none) (ha : GE S a Γ τ Γ1 (.sh (.list L1))) (hb : GE S b Γ1 (.sh (.list L1) :: τ) Γ2 (.sh (.list L2)))
    (he : ∀ env, starEach [a, b] env = [(false, eval a env), (false, eval b env)]) (he2 : ∀ env, starEach [b] env = [(false, eval b env)]) : IG S (.Tuple elts kk tpos) (.Call (.Name "zip" pt) [a, b] [] pos) Γ τ Γ2 (zpD L1 L2) := by
  obtain ⟨ta, pa, ea⟩ := ha
  obtain ⟨tb, pb, eb⟩ := hb
  refine ⟨iZipA S.K (tCons ta (tCons tb tNil)), fun X I => by rw [← I.K]; exact pi_zipA (I.gl hg) (by rw [I.mg]; exact hm) (pa_cons (pa X I) (pa_cons (pb X I) pa_nil (he2 _)) (by rw [he, he2])) (by rw [he, he2]) (by rw [he2]; rfl), fun F G0 G H σ ws wk R r => ea F G0 G H σ ws wk _ fun w G1 H1 wk1 => eb F G0 G1 H1 σ _ wk1 _ fun w2 G2 H2 wk2 => ?_⟩
  have h1 := wk2.drop.top_sh
  have h2 := wk2.top_sh
  cases h1 with
  | lst hp B => cases h2 with
    | lst hp2 B2 => exact ⟨_, _, _, _, rfl, .inl ⟨sq_of (wk2.gh _ _ hp), sq_of (wk2.gh _ _ hp2), r _ G2 H2 wk2.drop.drop (yields_zpL hp B hp2 B2)⟩⟩
end
end Lf
set_option maxHeartbeats 4000000
namespace Lf
open PySem L2 Evl

section
variable {S : Stat} {Γ Γ0 Γ1 Γ2 Γ3 τ τ1 : List Sl} {s s1 s2 s3 : Sl} {a b c e o tg iter elt tg1 iter1 : Expr} {es ifs ifs1 : List Expr} {pos spos p2 pt py cpos apos : Pos} {p q : Pt} {d : D} {ds L : List D} {dss : List (List D)} {E : Endv} {st : Stmt} {sts body : List Stmt} {i j : Nat} {x y : Str} {k : Bool} {scope : Scope} {own : List (Str × Nat)} {P : Sl → Prop}

/-! ### comprehensions of plain data -/
section
variable {α : Type} {xs : List α} {rep : α → D} {kf : α → Bool} {g : α → D} {g2 : α → List D}
def accF (xs : List α) (kf : α → Bool) (g : α → D) (n : Nat) : List D := ((xs.take n).filter kf).map g
theorem accF_len {n : Nat} : (accF xs kf g n).length ≤ xs.length := by
  unfold accF
  rw [List.length_map]
  exact Nat.le_trans (List.length_filter_le _ _) (by rw [List.length_take]; exact Nat.min_le_right _ _)
theorem accF_succ {n : Nat} {x : α} (h : xs[n]? = some x) : accF xs kf g (n + 1) = if kf x then accF xs kf g n ++ [g x] else accF xs kf g n := by
  unfold accF
  rw [List.take_succ, h]
  rw [List.filter_append, List.map_append]
  cases e : kf x <;> simp [e]
theorem accF_all : accF xs kf g (xs.map rep).length = (xs.filter kf).map g := by
  unfold accF
  rw [List.length_map, List.take_length]
abbrev LcItem (S : Stat) (scope : Scope) (ifs : List Expr) (p : Pt) (own : List (Str × Nat)) (Γ0 : List Sl) (d : D) (k : Bool) (T : List Sl → Prop) : Prop :=
  ∃ Γ', bindP p d (wipeG Γ0 (own.map (·.2))) = some Γ' ∧ GTs (S.blk scope) ifs Γ' [] Γ' k ∧ (k = true → T Γ')
theorem lc_items (hl : xs.length < 100000) (item : ∀ x, x ∈ xs → LcItem S scope ifs p own Γ0 (rep x) (kf x) fun Γ' => GE (S.blk scope) elt Γ' [] Γ' (.sh (g x))) :
    ∀ n d, (xs.map rep)[n]? = some d → LcIt S scope ifs elt p (own.map (·.2)) Γ0 (fun n s => s = .ol (accF xs kf g n)) n d := by
  intro n d hd
  rw [List.getElem?_map] at hd
  cases hx : xs[n]? with
  | none => rw [hx] at hd; cases hd
  | some x =>
    rw [hx] at hd
    cases hd
    obtain ⟨Γ', hb, ht, he⟩ := item x (List.mem_of_getElem? hx)
    refine ⟨Γ', hb, kf x, ht, fun hk => ⟨_, (he hk).toX, fun r s hr hs => ?_⟩, fun hk s hs => ?_⟩
    · subst hr hs
      refine ⟨_, rfl, ?_⟩
      rw [accF_succ hx, if_pos hk]
      exact push_sh (Nat.lt_of_le_of_lt accF_len hl)
    · subst hs
      show Sl.ol _ = Sl.ol (accF xs kf g (n + 1))
      rw [accF_succ hx, if_neg (by rw [hk]; simp)]
theorem ge_lc (O : LcOk S tg iter scope own p Γ Γ0 (xs.map rep)) (hl : xs.length < 100000) (item : ∀ x, x ∈ xs → LcItem S scope ifs p own Γ0 (rep x) (kf x) fun Γ' => GE (S.blk scope) elt Γ' [] Γ' (.sh (g x))) :
    GE S (.ListComp elt [⟨tg, iter, ifs, 0⟩] scope pos) Γ [] Γ0 (.ol ((xs.filter kf).map g)) := by
  have := gx_lc (pos := pos) (A := fun n s => s = .ol (accF xs kf g n)) O ⟨_, .ol, rfl⟩ (fun n s h => by rw [h]; rfl) (lc_items hl item)
  rw [show (fun s => s = Sl.ol (accF xs kf g (xs.map rep).length)) = fun s => s = Sl.ol ((xs.filter kf).map g) from by rw [accF_all]] at this
  exact this.toE
theorem gs_lc (hN : S.N[i]? = some x) (hx : S.names.lookup x = some .local) (hi : i < Γ0.length) (O : LcOk S tg iter scope own p Γ Γ0 (xs.map rep)) (hl : xs.length < 100000)
    (item : ∀ x, x ∈ xs → LcItem S scope ifs p own Γ0 (rep x) (kf x) fun Γ' => GE (S.blk scope) elt Γ' [] Γ' (.sh (g x))) (k : E.nx (Γ0.set i (.ol ((xs.filter kf).map g)))) (hline : (py.line == pos.line) = true) (hown : (scope.names.any fun (n, k) => n == x && (k == .local || k == .cell)) = false) :
    GS S (.Assign [.Name x py] (.ListComp elt [⟨tg, iter, ifs, 0⟩] scope pos) spos) Γ E :=
  gs_setLc (A := fun n s => s = .ol (accF xs kf g n)) hN hx hi O ⟨_, .ol, rfl⟩ (fun n s h => by rw [h]; rfl) (lc_items hl item) (fun s hs => by rw [hs, accF_all]; exact k) hline hown
/-- each item a list of its own -/
theorem lc_itemsO (hl : xs.length < 100000) (item : ∀ x, x ∈ xs → LcItem S scope ifs p own Γ0 (rep x) true fun Γ' => GE (S.blk scope) elt Γ' [] Γ' (.ol (g2 x))) :
    ∀ n d, (xs.map rep)[n]? = some d → LcIt S scope ifs elt p (own.map (·.2)) Γ0 (fun n s => s = .oll ((xs.take n).map g2)) n d := by
  intro n d hd
  rw [List.getElem?_map] at hd
  cases hx : xs[n]? with
  | none => rw [hx] at hd; cases hd
  | some x =>
    rw [hx] at hd
    cases hd
    obtain ⟨Γ', hb, ht, he⟩ := item x (List.mem_of_getElem? hx)
    refine ⟨Γ', hb, true, ht, fun hk => ⟨_, (he rfl).toX, fun r s hr hs => ?_⟩, fun hk s hs => (by cases hk)⟩
    subst hr hs
    refine ⟨_, rfl, ?_⟩
    rw [List.take_succ, hx, List.map_append]
    exact push_ol (Nat.lt_of_le_of_lt (by rw [List.length_map, List.length_take]; exact Nat.min_le_right _ _) hl)
theorem ge_lcO (O : LcOk S tg iter scope own p Γ Γ0 (xs.map rep)) (hl : xs.length < 100000) (item : ∀ x, x ∈ xs → LcItem S scope ifs p own Γ0 (rep x) true fun Γ' => GE (S.blk scope) elt Γ' [] Γ' (.ol (g2 x))) :
    GE S (.ListComp elt [⟨tg, iter, ifs, 0⟩] scope pos) Γ [] Γ0 (.oll (xs.map g2)) := by
  have := gx_lc (pos := pos) (A := fun n s => s = .oll ((xs.take n).map g2)) O ⟨_, .oll, rfl⟩ (fun n s h => by rw [h]; rfl) (lc_itemsO hl item)
  rw [List.length_map, List.take_length] at this
  exact this.toE
theorem gs_lcO (hN : S.N[i]? = some x) (hx : S.names.lookup x = some .local) (hi : i < Γ0.length) (O : LcOk S tg iter scope own p Γ Γ0 (xs.map rep)) (hl : xs.length < 100000)
    (item : ∀ x, x ∈ xs → LcItem S scope ifs p own Γ0 (rep x) true fun Γ' => GE (S.blk scope) elt Γ' [] Γ' (.ol (g2 x))) (k : E.nx (Γ0.set i (.oll (xs.map g2)))) (hline : (py.line == pos.line) = true) (hown : (scope.names.any fun (n, k) => n == x && (k == .local || k == .cell)) = false) :
    GS S (.Assign [.Name x py] (.ListComp elt [⟨tg, iter, ifs, 0⟩] scope pos) spos) Γ E :=
  gs_setLc (A := fun n s => s = .oll ((xs.take n).map g2)) hN hx hi O ⟨_, .oll, rfl⟩ (fun n s h => by rw [h]; rfl) (lc_itemsO hl item) (fun s hs => by rw [hs, List.length_map, List.take_length]; exact k) hline hown
end
/-- a comprehension to a cell: not swapped -/
theorem sw_cell {value : Expr} {t : Str} {tp : Pos} {n : Nat} (h : S.names.lookup t = some .cell) : ∀ X, S.Is X → swapsWith value (some (.Name t tp)) n X.env = pure false := fun X I => by
  have e2 : (X.env.kindOf t == some NameKind.local) = false := by
    show (X.env.scope.names.lookup t == _) = false
    rw [I.names, h]; rfl
  unfold swapsWith
  split
  · show pure _ = _
    rw [e2]
    simp
  · rfl

/-! ### two for -/
structure Lc2Ok (S : Stat) (tg1 iter1 : Expr) (scope : Scope) (own : List (Str × Nat)) (q : Pt) (vs1 : List Nat) : Prop where
  pg : PgG (S.blk scope) tg1 q
  vs : ∀ i, i ∈ q.slots → i ∈ vs1
  sub : ∀ i, i ∈ vs1 → i ∈ own.map (·.2)
  plain : ∀ env x, foldedSetIterable iter1 env x = pure x
def wpI (S : Stat) (tg iter : Expr) : TI := fun σ H R => ∀ X, S.Is X → ∀ pins s, Inv X pins σ H s → wpAny (model X.prog X.w) X.A (eval iter X.env) (fun v s1 => wpAny (model X.prog X.w) X.A (pyIter v) (PIE X pins σ tg R) X.xe s1) X.xe s
theorem pi_can {X : Cx} (I : S.Is X) : PI X tg iter (wpI S tg iter) := ⟨fun pins s σ H R J h => h X I pins s J⟩
theorem IG.can (h : IG S tg iter Γ τ Γ1 L) : ∀ F G0 G H σ ws, Wk S.K F G0 Γ τ G H σ ws → ∀ R : It → Hp → Prop, (∀ J G1 H1, Wk S.K F G0 Γ1 τ G1 H1 σ ws → YieldsG J G1 L → R J H1) → wpI S tg iter σ H R := by
  obtain ⟨wi, pi, ei⟩ := h
  exact fun F G0 G H σ ws wk R r X I pins s J => (pi X I).run pins s σ H R J (ei F G0 G H σ ws wk R r)
theorem YieldsG.ex {J : It} {G G' : Hp} (h : YieldsG J G L) (e : Ex G G') : YieldsG J G' L := fun i G2 H2 e1 e2 => h i G2 H2 (e.trans e1) e2
theorem IG.frame (h : IG S tg iter Γ [] Γ1 L) (hn : NI τ) : IG S tg iter Γ τ Γ1 L := by
  obtain ⟨te, pe, ee⟩ := h
  refine ⟨te, pe, fun F G0 G H σ ws wk R r => ?_⟩
  obtain ⟨F', wk0, back⟩ := wk.aside hn
  exact ee F' G G H σ [] wk0 R fun J G' H' wk' hy => r J G' H' (back Γ1 [] G' H' [] wk') hy
/-- an outer turn: the inner source's items, then each inner turn -/
def Lc2It (S : Stat) (scope : Scope) (tg1 iter1 : Expr) (ifs ifs1 : List Expr) (elt : Expr) (p q : Pt) (vs vs1 : List Nat) (Γ0 : List Sl) (A : Nat → Sl → Prop) (n : Nat) (d : D) : Prop :=
  ∃ Γ', bindP p d (wipeG Γ0 vs) = some Γ' ∧ ∃ kf, GTs (S.blk scope) ifs Γ' [] Γ' kf ∧ (kf = false → ∀ s, A n s → A (n + 1) s) ∧ (kf = true → ∃ L1 Γ1, IG (S.blk scope) tg1 iter1 Γ' [] Γ1 L1 ∧ wipeG Γ1 vs = wipeG Γ0 vs ∧ ∃ B : Nat → Sl → Prop, (∀ s, A n s → B 0 s) ∧ (∀ m s, B m s → sto s = true) ∧ (∀ s, B L1.length s → A (n + 1) s) ∧
    ∀ m d1, L1[m]? = some d1 → ∃ Γ2, bindP q d1 (wipeG Γ1 vs1) = some Γ2 ∧ ∃ k1, GTs (S.blk scope) ifs1 Γ2 [] Γ2 k1 ∧ (k1 = true → ∃ P, GX (S.blk scope) elt Γ2 [] Γ2 P ∧ ∀ r s, P r → B m s → ∃ s', B (m + 1) s' ∧ Push r s s') ∧ (k1 = false → ∀ s, B m s → B (m + 1) s))
theorem wipe_sub {σ σ' : L2.St} {vs vs1 : List Nat} (hs : ∀ i, i ∈ vs1 → i ∈ vs) (hl : σ'.length = σ.length) (h : ∀ j, j ∉ vs1 → σ'[j]? = σ[j]?) : wipe σ' vs = wipe σ vs := wipe_eq hl fun j hj => h j fun z => hj (hs j z)
theorem lc2_xe {A : Nat → Sl → Prop} {vs1 : List Nat} (O : LcOk S tg iter scope own p Γ Γ0 L) (O2 : Lc2Ok S tg1 iter1 scope own q vs1)
    (hn : ∃ s, New s ∧ A 0 s) (hA : ∀ n s, A n s → sto s = true) (item : ∀ n d, L[n]? = some d → Lc2It S scope tg1 iter1 ifs ifs1 elt p q (own.map (·.2)) vs1 Γ0 A n d) :
    XE S.K (tLc2 (wpI S tg iter) (gPt S.K p) (wpTs (S.blk scope) ifs) (wpI (S.blk scope) tg1 iter1) (gPt S.K q) (wpTs (S.blk scope) ifs1) (wpE (S.blk scope) elt) (own.map (·.2)) vs1) Γ [] Γ0 (A L.length) := by
  intro F G0 G H σ ws wk Q qq
  have ews : ws = [] := by
    obtain ⟨_, a⟩ := wk
    exact List.eq_nil_of_length_eq_zero a.ts.len
  subst ews
  have ni : ∀ {s : Sl}, sto s = true → NI [s] := fun {s} hs => ni_cons (fun i k z => by rw [z] at hs; cases hs) ni_nil
  refine O.it.can F G0 G H σ [] wk _ fun J G1 H1 wk1 hy D hD => ?_
  obtain ⟨s0, n0, a0⟩ := hn
  refine ⟨fun i m H => i ≤ L.length ∧ m = L.length - i ∧ ∃ s G, A i s ∧ Wk S.K F G1 (wipeG Γ0 (own.map (·.2))) [s] G H (wipe σ (own.map (·.2))) [.ref D],
    ⟨L.length, Nat.zero_le _, rfl, s0, G1, a0, (wk1.rebase.wiped (by intro s hs; cases hs) _).new n0 hD⟩, ?_⟩
  rintro i m H2 ⟨hi, rfl, s, G2, hs, wk2⟩
  by_cases h : i < L.length
  · refine .inr ⟨(hy i G2 H2 wk2.base_ex wk2.gh).1 h, fun H' => ∃ s G, A (i + 1) s ∧ Wk S.K F G1 (wipeG Γ0 (own.map (·.2))) [s] G H' (wipe σ (own.map (·.2))) [.ref D],
      fun H' ⟨s', G', hs', wk'⟩ => ⟨L.length - (i + 1), by omega, h, rfl, s', G', hs', wk'⟩, fun x H' y => ?_⟩
    obtain ⟨d, G3, hd, e3, wk3⟩ := hy.turn wk2.base_ex wk2 h y
    obtain ⟨Γ', hb, kf, ht, h1, h2⟩ := item i d hd
    obtain ⟨σ', wk4, ho, kk⟩ := bind_ok hb (nb1 (hA i s hs)) wk3
    obtain ⟨hl, hoG⟩ := bindP_out hb
    have ew : wipe σ' (own.map (·.2)) = wipe σ (own.map (·.2)) := (wipe_eq ho.1 fun j hj => ho.2 j fun z => hj (O.sub j z)).trans wipe_wipe
    have eg : wipeG Γ' (own.map (·.2)) = wipeG Γ0 (own.map (·.2)) := (wipeG_eq hl fun j hj => hoG j fun z => hj (O.sub j z)).trans wipeG_wipeG
    refine kk _ ⟨ew, (ht.frame (ni (hA i s hs))).can F G1 G3 H' σ' _ wk4 _ fun G4 H4 wk5 => ?_⟩
    cases kf with
    | false =>
      rw [if_neg Bool.false_ne_true]
      have := wk5.wiped (nb1 (hA i s hs)) (own.map (·.2))
      rw [ew, eg] at this
      exact ⟨s, G4, h1 rfl s hs, this⟩
    | true =>
      rw [if_pos rfl]
      obtain ⟨L1, Γ1, hi1, eg1, B, b0, hB, bN, item1⟩ := h2 rfl
      refine (hi1.frame (ni (hA i s hs))).can F G1 G4 H4 σ' _ wk5 _ fun J1 G5 H5 wk6 hy1 => ?_
      -- the inner loop's states: Γ1 with the inner target's names forgotten
      refine ⟨fun j m H => j ≤ L1.length ∧ m = L1.length - j ∧ ∃ s G, B j s ∧ Wk S.K F G5 (wipeG Γ1 vs1) [s] G H (wipe σ' vs1) [.ref D], ⟨L1.length, Nat.zero_le _, rfl, s, G5, b0 s hs, (wk6.wiped (nb1 (hA i s hs)) vs1).rebase⟩, ?_⟩
      rintro j m H6 ⟨hj, rfl, s6, G6, hs6, wk7⟩
      have e6 := wk7.base_ex
      have nb6 := nb1 (hB j s6 hs6)
      by_cases h' : j < L1.length
      · refine .inr ⟨(hy1 j G6 H6 e6 wk7.gh).1 h', fun H' => ∃ s G, B (j + 1) s ∧ Wk S.K F G5 (wipeG Γ1 vs1) [s] G H' (wipe σ' vs1) [.ref D],
          fun H' ⟨s', G', hs', wk'⟩ => ⟨L1.length - (j + 1), by omega, h', rfl, s', G', hs', wk'⟩, fun x1 H7 y1 => ?_⟩
        obtain ⟨d1, G7, hd1, e7, wk8⟩ := hy1.turn e6 wk7 h' y1
        obtain ⟨Γ2, hb1, k1, ht1, g1, g2⟩ := item1 j d1 hd1
        obtain ⟨σ3, wk9, ho1, kk1⟩ := bind_ok hb1 nb6 wk8
        obtain ⟨hl1, hoG1⟩ := bindP_out hb1
        have ew1 : wipe σ3 vs1 = wipe σ' vs1 := (wipe_eq ho1.1 fun j hj => ho1.2 j fun z => hj (O2.vs j z)).trans wipe_wipe
        have eg2 : wipeG Γ2 vs1 = wipeG Γ1 vs1 := (wipeG_eq hl1 fun j hj => hoG1 j fun z => hj (O2.vs j z)).trans wipeG_wipeG
        have back : ∀ {s G H}, sto s = true → Wk S.K F G5 Γ2 [s] G H σ3 [.ref D] → Wk S.K F G5 (wipeG Γ1 vs1) [s] G H (wipe σ' vs1) [.ref D] := fun {s G H} hs w => by
          have := w.wiped (nb1 hs) vs1
          rw [ew1, eg2] at this
          exact this
        refine kk1 _ ⟨ew1, (ht1.frame (ni (hB j s6 hs6))).can F G5 G7 H7 σ3 _ wk9 _ fun G8 H8 wk10 => ?_⟩
        cases k1 with
        | true =>
          rw [if_pos rfl]
          obtain ⟨P, hx, hp⟩ := g1 rfl
          refine (hx.frame (ni (hB j s6 hs6))).can F G5 G8 H8 σ3 _ wk10 _ fun r w G9 H9 hr wk11 => ?_
          obtain ⟨s', hs', pu⟩ := hp r s6 hr hs6
          obtain ⟨vs', e1, e2, wk12⟩ := pu wk11
          exact ⟨vs', e1, e2, s', G9, hs', back (hB _ _ hs') wk12⟩
        | false =>
          rw [if_neg Bool.false_ne_true]
          exact ⟨s6, G8, g2 rfl s6 hs6, back (hB j s6 hs6) wk10⟩
      · have e : j = L1.length := by omega
        subst e
        refine .inl ⟨(hy1 _ G6 H6 e6 wk7.gh).2.1 (Nat.le_refl _), s6, G6, bN s6 hs6, ?_⟩
        have := (wk6.based wk7).wiped nb6 (own.map (·.2))
        rw [wipe_sub O2.sub (wipe_length _ _) (fun j hj => wipe_out hj), ew] at this
        rw [wipeG_eq (Γ := Γ1) (wipeG_len _ _) (fun j hj => wipeG_out fun z => hj (O2.sub j z)), eg1] at this
        exact this
  · have e : i = L.length := by omega
    subst e
    exact .inl ⟨(hy _ G2 H2 wk2.base_ex wk2.gh).2.1 (Nat.le_refl _), qq s _ G2 H2 hs (wk1.unwiped wk2 (nb1 (hA _ _ hs)) O.hid)⟩
end
end Lf
set_option maxHeartbeats 4000000
namespace Lf
open PySem L2 Evl

section
variable {S : Stat} {Γ Γ0 Γ1 Γ2 Γ3 τ τ1 : List Sl} {s s1 s2 s3 : Sl} {a b c e o tg iter elt tg1 iter1 : Expr} {es ifs ifs1 : List Expr} {pos spos p2 pt py cpos apos : Pos} {p q : Pt} {d : D} {ds L : List D} {dss : List (List D)} {E : Endv} {st : Stmt} {sts body : List Stmt} {i j : Nat} {x y : Str} {k : Bool} {scope : Scope} {own : List (Str × Nat)} {P : Sl → Prop} {vs1 : List Nat}

theorem gx_lc2 {A : Nat → Sl → Prop} (O : LcOk S tg iter scope own p Γ Γ0 L) (O2 : Lc2Ok S tg1 iter1 scope own q vs1) (hn : ∃ s, New s ∧ A 0 s) (hA : ∀ n s, A n s → sto s = true)
    (item : ∀ n d, L[n]? = some d → Lc2It S scope tg1 iter1 ifs ifs1 elt p q (own.map (·.2)) vs1 Γ0 A n d) : GX S (.ListComp elt [⟨tg, iter, ifs, 0⟩, ⟨tg1, iter1, ifs1, 0⟩] scope pos) Γ [] Γ0 (A L.length) :=
  ⟨_, fun X I => pe_lc2 I.calm I.nd' (pi_can I) (blkN_ok I O.blk) O2.sub (fun s H C cl fp => O.pg _ (I.blk (blkN_kind O.blk))) (fun s H C cl fp => pts_can (I.blk (blkN_kind O.blk))) (fun s H C cl fp => pi_can (I.blk (blkN_kind O.blk))) (fun s H C cl fp => O2.pg _ (I.blk (blkN_kind O.blk)))
    (fun s H C cl fp => pts_can (I.blk (blkN_kind O.blk))) (fun s H C cl fp => pe_can (I.blk (blkN_kind O.blk))) (O.plain _) O2.plain, lc2_xe O O2 hn hA item⟩
theorem sw_lc2 {t : Str} {tp : Pos} (hx : S.names.lookup t = some .local) (hline : (tp.line == pos.line) = true) (hown : (scope.names.any fun (n, k) => n == t && (k == .local || k == .cell)) = false) {X : Cx} (I : S.Is X) {n : Nat} {cs : List Comprehension} :
    swapsWith (.ListComp elt cs scope pos) (some (.Name t tp)) n X.env = pure true := by
  unfold swapsWith
  have e1 : (X.env.blockKind == ScopeKind.function) = true := by
    unfold Env.blockKind
    rw [I.kind]; rfl
  have e2 : (X.env.kindOf t == some .local) = true := by
    show (X.env.scope.names.lookup t == _) = true
    rw [I.names, hx]; rfl
  show pure _ = _
  rw [e1, e2]
  show pure (true && true && (tp.line == pos.line) && !_) = _
  rw [hline, hown]
  rfl
theorem gs_setLc2 {A : Nat → Sl → Prop} (hN : S.N[i]? = some x) (hx : S.names.lookup x = some .local) (hi : i < Γ0.length) (O : LcOk S tg iter scope own p Γ Γ0 L) (O2 : Lc2Ok S tg1 iter1 scope own q vs1) (hn : ∃ s, New s ∧ A 0 s) (hA : ∀ n s, A n s → sto s = true)
    (item : ∀ n d, L[n]? = some d → Lc2It S scope tg1 iter1 ifs ifs1 elt p q (own.map (·.2)) vs1 Γ0 A n d) (k : ∀ s, A L.length s → E.nx (Γ0.set i s)) (hline : (py.line == pos.line) = true) (hown : (scope.names.any fun (n, k) => n == x && (k == .local || k == .cell)) = false) :
    GS S (.Assign [.Name x py] (.ListComp elt [⟨tg, iter, ifs, 0⟩, ⟨tg1, iter1, ifs1, 0⟩] scope pos) spos) Γ E :=
  ⟨_, fun X I => ps_setLc2 I.calm I.nd' (by rw [I.N]; exact hN) (by rw [I.names]; exact hx) (sw_lc2 hx hline hown I) (pi_can I) (blkN_ok I O.blk) O2.sub (fun s H C cl fp => O.pg _ (I.blk (blkN_kind O.blk))) (fun s H C cl fp => pts_can (I.blk (blkN_kind O.blk))) (fun s H C cl fp => pi_can (I.blk (blkN_kind O.blk))) (fun s H C cl fp => O2.pg _ (I.blk (blkN_kind O.blk)))
    (fun s H C cl fp => pts_can (I.blk (blkN_kind O.blk))) (fun s H C cl fp => pe_can (I.blk (blkN_kind O.blk))) (O.plain _) O2.plain, fun F G0 G H σ wk D K => lc2_xe O O2 hn hA item F G0 G H σ [] wk _ fun s w G1 H1 hs wk1 => K.nx _ G1 H1 _ (k s hs) (wk1.store (hA _ _ hs) hi)⟩
section
variable {α β : Type} {xs : List α} {rep : α → D} {ys : α → List β} {rep1 : β → D} {g : α → β → D}
def acc2 (xs : List α) (ys : α → List β) (g : α → β → D) : List D := xs.flatMap fun x => (ys x).map (g x)
theorem acc2_succ {n : Nat} {x : α} (h : xs[n]? = some x) : acc2 (xs.take (n + 1)) ys g = acc2 (xs.take n) ys g ++ (ys x).map (g x) := by
  unfold acc2
  rw [List.take_succ, h]
  simp
theorem acc2_le {n : Nat} : (acc2 (xs.take n) ys g).length ≤ (acc2 xs ys g).length := by
  have : acc2 xs ys g = acc2 (xs.take n) ys g ++ acc2 (xs.drop n) ys g := by
    unfold acc2
    rw [← List.flatMap_append, List.take_append_drop]
  rw [this, List.length_append]
  omega
abbrev Lc2Item (S : Stat) (scope : Scope) (tg1 iter1 : Expr) (elt : Expr) (p q : Pt) (own : List (Str × Nat)) (vs1 : List Nat) (Γ0 : List Sl) (d : D) (zs : List β) (rep1 : β → D) (g : β → D) : Prop :=
  ∃ Γ', bindP p d (wipeG Γ0 (own.map (·.2))) = some Γ' ∧ ∃ Γ1, IG (S.blk scope) tg1 iter1 Γ' [] Γ1 (zs.map rep1) ∧ wipeG Γ1 (own.map (·.2)) = wipeG Γ0 (own.map (·.2)) ∧
    ∀ z, z ∈ zs → ∃ Γ2, bindP q (rep1 z) (wipeG Γ1 vs1) = some Γ2 ∧ GE (S.blk scope) elt Γ2 [] Γ2 (.sh (g z))
theorem lc2_items (hl : (acc2 xs ys g).length < 100000) (item : ∀ x, x ∈ xs → Lc2Item S scope tg1 iter1 elt p q own vs1 Γ0 (rep x) (ys x) rep1 (g x)) :
    ∀ n d, (xs.map rep)[n]? = some d → Lc2It S scope tg1 iter1 [] [] elt p q (own.map (·.2)) vs1 Γ0 (fun n s => s = .ol (acc2 (xs.take n) ys g)) n d := by
  intro n d hd
  rw [List.getElem?_map] at hd
  cases hx : xs[n]? with
  | none => rw [hx] at hd; cases hd
  | some x =>
    rw [hx] at hd
    cases hd
    obtain ⟨Γ', hb, Γ1, hi, eg, it⟩ := item x (List.mem_of_getElem? hx)
    refine ⟨Γ', hb, true, gts_nil, (fun z => by cases z), fun _ => ⟨_, Γ1, hi, eg, fun m s => s = .ol (acc2 (xs.take n) ys g ++ ((ys x).take m).map (g x)), fun s hs => ?_, fun m s hs => by rw [hs]; rfl, fun s hs => ?_, fun m d1 hd1 => ?_⟩⟩
    · rw [hs]; simp
    · rw [hs]
      show _ = Sl.ol _
      rw [acc2_succ hx, List.length_map, List.take_length]
    · rw [List.getElem?_map] at hd1
      cases hz : (ys x)[m]? with
      | none => rw [hz] at hd1; cases hd1
      | some z =>
        rw [hz] at hd1
        cases hd1
        obtain ⟨Γ2, hb2, he⟩ := it z (List.mem_of_getElem? hz)
        refine ⟨Γ2, hb2, true, gts_nil, fun _ => ⟨_, he.toX, fun r s hr hs => ?_⟩, (fun z => by cases z)⟩
        subst hr hs
        refine ⟨_, rfl, ?_⟩
        rw [List.take_succ, hz, List.map_append, ← List.append_assoc]
        refine push_sh (Nat.lt_of_le_of_lt ?_ hl)
        have h1 := acc2_le (xs := xs) (ys := ys) (g := g) (n := n + 1)
        rw [acc2_succ hx, List.length_append, List.length_map] at h1
        rw [List.length_append, List.length_map, List.length_take]
        omega
theorem ge_lc2 (O : LcOk S tg iter scope own p Γ Γ0 (xs.map rep)) (O2 : Lc2Ok S tg1 iter1 scope own q vs1) (hl : (acc2 xs ys g).length < 100000) (item : ∀ x, x ∈ xs → Lc2Item S scope tg1 iter1 elt p q own vs1 Γ0 (rep x) (ys x) rep1 (g x)) :
    GE S (.ListComp elt [⟨tg, iter, [], 0⟩, ⟨tg1, iter1, [], 0⟩] scope pos) Γ [] Γ0 (.ol (acc2 xs ys g)) := by
  have := gx_lc2 (pos := pos) (A := fun n s => s = .ol (acc2 (xs.take n) ys g)) O O2 ⟨_, .ol, rfl⟩ (fun n s h => by rw [h]; rfl) (lc2_items hl item)
  rw [List.length_map, List.take_length] at this
  exact this.toE
theorem gs_lc2 (hN : S.N[i]? = some x) (hx : S.names.lookup x = some .local) (hi : i < Γ0.length) (O : LcOk S tg iter scope own p Γ Γ0 (xs.map rep)) (O2 : Lc2Ok S tg1 iter1 scope own q vs1) (hl : (acc2 xs ys g).length < 100000)
    (item : ∀ x, x ∈ xs → Lc2Item S scope tg1 iter1 elt p q own vs1 Γ0 (rep x) (ys x) rep1 (g x)) (k : E.nx (Γ0.set i (.ol (acc2 xs ys g)))) (hline : (py.line == pos.line) = true) (hown : (scope.names.any fun (n, k) => n == x && (k == .local || k == .cell)) = false) :
    GS S (.Assign [.Name x py] (.ListComp elt [⟨tg, iter, [], 0⟩, ⟨tg1, iter1, [], 0⟩] scope pos) spos) Γ E :=
  gs_setLc2 (A := fun n s => s = .ol (acc2 (xs.take n) ys g)) hN hx hi O O2 ⟨_, .ol, rfl⟩ (fun n s h => by rw [h]; rfl) (lc2_items hl item) (fun s hs => by rw [hs, List.length_map, List.take_length]; exact k) hline hown
end

/-! ### xs.pop(), xs.pop(i); an expression as a statement; len of what is owned -/
theorem dqa_last {G : Hp} : ∀ {ds : List D} {vs : List V}, DqAll G vs (ds ++ [d]) → ∃ us y, vs = us ++ [y] ∧ DqAll G us ds ∧ Dq G y d
  | [], _, .cons h .nil => ⟨[], _, rfl, .nil, h⟩
  | _ :: ds, _, .cons h t => by
    obtain ⟨us, y, e, a, b⟩ := dqa_last (ds := ds) t
    subst e
    exact ⟨_ :: us, y, rfl, .cons h a, b⟩
theorem ge_pop (ho : GE S a Γ τ Γ (.bo i)) (hi : Γ[i]? = some (.ol (ds ++ [d]))) (hn : NI τ) (hb : ∀ X, S.Is X → attributeBase a "pop" X.env (eval a X.env) = eval a X.env) (hline : (apos.endLine == pos.line) = true) :
    GE S (.Call (.Attribute a "pop" apos) [] [] pos) Γ τ (Γ.set i (.ol ds)) (.sh d) := by
  obtain ⟨ta, pa, ea⟩ := ho
  refine ⟨tBM0 S.K "list" rPop ta, fun X I => by rw [← I.K]; exact pe_bm0 PySem.F.plainAttrs_list PySem.F.slot_list_pop PySem.F.type_list_pop mt_pop (pa X I) (hb X I) hline, fun F G0 G H σ ws wk Q q => ea F G0 G H σ ws wk _ fun w G1 H1 wk1 => ?_⟩
  have hw := wk1.bo_at
  obtain ⟨O, ⟨p, vs, ew, op, hp, B⟩, hown, _, fin⟩ := wk1.drop.chg hn hw hi (by simp)
  obtain ⟨us, y, e, B1, hd⟩ := dqa_last B
  subst e ew
  refine ⟨.inl ⟨rfl, _, sq_of hp⟩, p, _, y, rfl, rfl, hp, by simp, ?_⟩
  rw [List.dropLast_concat]
  exact q y G1 _ ((fin _ (.ol ds) (fun b hb => upd_ne fun z => hb (by rw [z]; exact op)) ⟨p, us, rfl, op, upd_same, B1⟩).sh hd)
/-- values and states told by a word -/
def YE (K : PySem.W.Frag) (te : TE) (Γ τ : List Sl) (P : List Sl → Sl → Prop) : Prop :=
  ∀ F G0 G H σ ws, Wk K F G0 Γ τ G H σ ws → ∀ Q : VK, (∀ Γ' s w G' H', P Γ' s → Wk K F G0 Γ' (s :: τ) G' H' σ (w :: ws) → Q w H') → te σ H Q
def GY (S : Stat) (e : Expr) (Γ τ : List Sl) (P : List Sl → Sl → Prop) : Prop := ∃ te, (∀ X, S.Is X → PE X e te) ∧ YE S.K te Γ τ P
theorem seqIx_nat {n k : Nat} (h : k < n) : seqIndex? (k : Int) n = some k := (ixN_seq (n := n) (i := (k : Int)) (j := k) (by unfold ixN; rw [if_pos (by omega), if_pos (by omega)]; simp)).1
/-- xs.pop(e), e an index told by a word -/
theorem gy_popAt (ho : GE S a Γ τ Γ (.bo i)) (hx : GX S e Γ (.bo i :: τ) Γ P) (hP : ∀ s, P s → ∃ n : Nat, s = .sh (.int n) ∧ n < ds.length) (hi : Γ[i]? = some (.ol ds)) (hl : ds.length < 100000) (hn : NI τ) (hb : ∀ X, S.Is X → attributeBase a "pop" X.env (eval a X.env) = eval a X.env) (hline : (apos.endLine == pos.line) = true)
    (hs : ∀ env, starEach (e :: []) env = (false, eval e env) :: starEach [] env) :
    GY S (.Call (.Attribute a "pop" apos) [e] [] pos) Γ τ fun Γ' s => ∃ (n : Nat) (d : D), ds[n]? = some d ∧ Γ' = Γ.set i (.ol (ds.eraseIdx n)) ∧ s = .sh d := by
  obtain ⟨ta, pa, ea⟩ := ho
  obtain ⟨te, pe, ee⟩ := hx
  refine ⟨tBM S.K "list" rPopAt ta (tCons te tNil), fun X I => ?_, fun F G0 G H σ ws wk Q q => ea F G0 G H σ ws wk _ fun w G1 H1 wk1 => ?_⟩
  · rw [← I.K]
    refine pe_bm PySem.F.plainAttrs_list PySem.F.slot_list_pop PySem.F.type_list_pop mt_popAt (pa X I) (pa_cons (pe X I) pa_nil (hs _)) (hb X I) ?_ hline (hs _) rfl
    rw [hs]
    rfl
  · obtain ⟨O, A⟩ := id wk1
    obtain ⟨p, vs, e, _, hp, B⟩ := A.own_ol A.ts.1 hi
    subst e
    refine ⟨.inl ⟨rfl, vs, sq_of hp⟩, ee F G0 G1 H1 σ _ wk1 _ fun s w2 G2 H2 hs wk2 => ?_⟩
    obtain ⟨n, rfl, hn2⟩ := hP s hs
    have h2 := wk2.top_sh
    cases h2
    have hw := wk2.drop.bo_at
    obtain ⟨O2, ⟨p2, vs2, ew, op, hp2, B2⟩, hown, _, fin⟩ := wk2.drop.drop.chg hn hw hi (by simp)
    cases ew
    obtain ⟨y, hy, hd⟩ := dpa_get B2 (List.getElem?_eq_getElem hn2)
    refine ⟨p, vs2, (n : Int), n, y, rfl, rfl, hp2, by omega, by omega, seqIx_nat (by rw [dpa_len B2]; exact hn2), hy, q _ _ y G2 _ ⟨n, _, List.getElem?_eq_getElem hn2, rfl, rfl⟩ ((fin _ (.ol (ds.eraseIdx n)) (fun b hb => upd_ne fun z => hb (by rw [z]; exact op)) ⟨p, _, rfl, op, upd_same, dpa_erase n B2⟩).sh hd)⟩
theorem gs_expr (h : GE S e Γ [] Γ1 s) (k : E.nx Γ1) (hs : ∀ env, swapsWith e none pos.line env = pure false) : GS S (.Expr e pos) Γ E := by
  obtain ⟨te, pe, ee⟩ := h
  exact ⟨tDrop te, fun X I => ps_expr (pe X I) (hs _), fun F G0 G H σ wk D K => ee F G0 G H σ [] wk _ fun w G1 H1 wk1 => K.nx _ G1 H1 σ k wk1.drop⟩
theorem ge_lenO (hg : GlB S "len") (hm : S.mg "len" = none) (ha : GE S e Γ τ Γ1 (.bo i)) (hi : Γ1[i]? = some (.oll dss)) (he : ∀ env, starEach [e] env = (false, eval e env) :: starEach [] env) : GE S (.Call (.Name "len" pt) [e] [] pos) Γ τ Γ1 (.sh (.int dss.length)) :=
  ge_callB (r := fun xs H Q => ∃ p ys, xs = [.ref p] ∧ (SqL S.K H p ys ∨ SqT S.K H p ys) ∧ Q (.int ys.length) H) (fun X I => by rw [← I.K]; exact call_len_seq) hg hm PySem.boot_len (ga_cons ha ga_nil he) (ra1 fun F G0 G H σ ws w wk Q q => by
    obtain ⟨O, A⟩ := id wk
    rcases A.sl i _ hi with z | ⟨w', e, p, ps, e2, o, hp, nd, B⟩
    · cases z
    · rw [A.ts.1.2] at e; cases e
      refine ⟨p, _, by rw [e2], .inl (sq_of hp), ?_⟩
      rw [List.length_map, paired_len B]
      exact q _ G H (wk.drop.sh (.int _))) (by decide) (by decide) he (fun _ => rfl)

/-! ### xs.index(e), xs.count(e) -/
theorem ge_index {n : Nat} {z : D} (ho : GE S a Γ τ Γ1 (.sh (.list ds))) (he : GE S e Γ1 (.sh (.list ds) :: τ) Γ2 (.sh d)) (h1 : SeqAt.shaped (.list ds) = true) (h2 : SeqAt.shaped d = true) (hz : ds[n]? = some z) (hzd : PyData.eqv z d = true) (hno : ∀ m z', m < n → ds[m]? = some z' → PyData.eqv z' d = false)
    (hb : ∀ X, S.Is X → attributeBase a "index" X.env (eval a X.env) = eval a X.env) (hline : (apos.endLine == pos.line) = true) (hs : ∀ env, starEach (e :: []) env = (false, eval e env) :: starEach [] env) :
    GE S (.Call (.Attribute a "index" apos) [e] [] pos) Γ τ Γ2 (.sh (.int n)) := by
  obtain ⟨ta, pa, ea⟩ := ho
  obtain ⟨te, pe, ee⟩ := he
  refine ⟨tBM S.K "list" (rIndexD S.K) ta (tCons te tNil), fun X I => ?_, fun F G0 G H σ ws wk Q q => ea F G0 G H σ ws wk _ fun w G1 H1 wk1 => ?_⟩
  · rw [← I.K]
    refine pe_bm PySem.F.plainAttrs_list PySem.F.slot_list_index PySem.F.type_list_index (mt_indexD (by have := I.room.un; omega)) (pa X I) (pa_cons (pe X I) pa_nil (hs _)) (hb X I) ?_ hline (hs _) rfl
    rw [hs]
    rfl
  · have h := wk1.top_sh
    cases h with
    | lst hp B =>
      refine ⟨.inl ⟨rfl, _, sq_of (wk1.gh _ _ hp)⟩, ee F G0 G1 H1 σ _ wk1 _ fun w2 G2 H2 wk2 => ?_⟩
      have h2' := wk2.top_sh
      have h1' := wk2.drop.top_sh
      exact ⟨_, w2, d, ds, n, z, rfl, rfl, dq_dp _ _ (dp_ex wk2.gh _ _ h1'), dq_dp _ _ (dp_ex wk2.gh _ _ h2'), h1, h2, hz, hzd, hno, q _ G2 H2 (wk2.drop.drop.sh (.int _))⟩
theorem ge_count {ns : List Int} {n : Int} (ho : GE S a Γ τ Γ1 (.sh (.list (ns.map .int)))) (he : GE S e Γ1 (.sh (.list (ns.map .int)) :: τ) Γ2 (.sh (.int n)))
    (hb : ∀ X, S.Is X → attributeBase a "count" X.env (eval a X.env) = eval a X.env) (hline : (apos.endLine == pos.line) = true) (hs : ∀ env, starEach (e :: []) env = (false, eval e env) :: starEach [] env) :
    GE S (.Call (.Attribute a "count" apos) [e] [] pos) Γ τ Γ2 (.sh (.int (ns.count n : Nat))) := by
  obtain ⟨ta, pa, ea⟩ := ho
  obtain ⟨te, pe, ee⟩ := he
  refine ⟨tBM S.K "list" (rCntI S.K) ta (tCons te tNil), fun X I => ?_, fun F G0 G H σ ws wk Q q => ea F G0 G H σ ws wk _ fun w G1 H1 wk1 => ?_⟩
  · rw [← I.K]
    refine pe_bm PySem.F.plainAttrs_list PySem.F.slot_list_count PySem.F.type_list_count mt_lcount (pa X I) (pa_cons (pe X I) pa_nil (hs _)) (hb X I) ?_ hline (hs _) rfl
    rw [hs]
    rfl
  · have h := wk1.top_sh
    cases h with
    | lst hp B =>
      have ev := dpa_ints_inv B
      subst ev
      refine ⟨.inl ⟨rfl, _, sq_of (wk1.gh _ _ hp)⟩, ee F G0 G1 H1 σ _ wk1 _ fun w2 G2 H2 wk2 => ?_⟩
      have h2' := wk2.top_sh
      have h1' := wk2.drop.top_sh
      cases h2'
      cases h1' with
      | lst hp B => 
        have ev := dpa_ints_inv B
        subst ev
        exact ⟨_, ns, n, rfl, rfl, sq_of (wk2.gh _ _ hp), q _ G2 H2 (wk2.drop.drop.sh (.int _))⟩
end
end Lf
set_option maxHeartbeats 4000000
namespace Lf
open PySem L2 Evl

section
variable {S : Stat} {Γ Γ0 Γ1 Γ2 Γ3 τ τ1 : List Sl} {s s1 s2 s3 : Sl} {a b c e o tg : Expr} {es : List Expr} {pos spos p2 pt py : Pos} {p : Pt} {d : D} {ds L : List D} {E : Endv} {st : Stmt} {sts body : List Stmt} {i j : Nat} {x y : Str} {P : Sl → Prop}
/-! ### defs whose answer is told by a word -/
def relSp (Pre : List D → Prop) (Post : List D → D → Prop) : Sp := fun vs H Q _ => ∃ (G : Hp) (ds : List D), Ex G H ∧ DqAll G vs ds ∧ Pre ds ∧
  ∀ r w G' H', Post ds r → Ex G G' → Ex G' H' → Ex H H' → (∀ a, G' a ≠ none → G a ≠ none ∨ H a = none) → Dq G' w r → Q w H'
abbrev FnX (P : Program) (w : World) (K : PySem.W.Frag) (mg : Str → Option Value) (base : Heap) (x : Str) (k : Nat) (Pre : List D → Prop) (Post : List D → D → Prop) : Prop := FnS P w K mg base x k (relSp Pre Post)
def retX (Post : D → Prop) : Endv := ⟨fun _ => Post .none, fun Γ s => ∃ r, RetOk Γ s r ∧ Post r, fun _ => False, fun _ => False⟩
theorem fn_rel {P : Program} {w : World} {K : PySem.W.Frag} {mg : Str → Option Value} {base : Heap} {x qual : Str} {st : Stmt} {f : Addr} {fd : FuncData} {N ps : List Str} {k : Nat} {Pre : List D → Prop} {Post : List D → D → Prop} (F : Fun K x qual st f fd) (hS : FnScope N ps (defScope st))
    (hlen : ∀ ds, Pre ds → ds.length = ps.length) (body : ∀ ds, Pre ds → GSs (stOf P w K mg base N (defScope st) k) (defBody st) (startG N ds) (retX (Post ds))) : FnOk P w K mg base CX0 (k + 1) f fd ps (relSp Pre Post) := by
  refine F.ok hS (fun vs H Q E h => ?_) (fun cdv A outer s H vs Q E hr h => ?_)
  · obtain ⟨G, ds, _, B, hp, _⟩ := h
    rw [dpa_len B]
    exact hlen ds hp
  · obtain ⟨G, ds, gh, B, hp, q⟩ := h
    obtain ⟨t, pt, et⟩ := body ds hp
    refine ⟨t, pt _ ⟨rfl, rfl, rfl, rfl, rfl, rfl, rfl, hS.kind, rfl, rfl, hr, rfl, hS.nd⟩, et H G G H _ (wk_start gh B) _ ⟨fun Γ G1 H1 σ hn wk => ?_, fun Γ s w G1 H1 σ hr wk => ?_, fun _ _ _ _ h => h.elim, fun _ _ _ _ h => h.elim⟩⟩
    · obtain ⟨O, a⟩ := wk
      exact q _ .non G1 H1 hn a.g0 a.gh a.fh a.gf .non
    · have fh : Ex H H1 := let ⟨_, a⟩ := wk; a.fh
      obtain ⟨r, hr, hpost⟩ := hr
      obtain ⟨G2, g1, g2, g3, hd⟩ := wk.ret hr
      exact q r w G2 H1 hpost g1 g2 fh g3 hd
/-- one answer only -/
theorem fn_sole {P : Program} {w : World} {K : PySem.W.Frag} {mg : Str → Option Value} {base : Heap} {f : Addr} {fd : FuncData} {ps : List Str} {k : Nat} {Pre : List D → Prop} {Post : List D → D → Prop} {pre : List D → D → Prop} (F : FnOk P w K mg base CX0 k f fd ps (relSp Pre Post))
    (h : ∀ ds r, pre ds r → Pre ds ∧ ∀ r', Post ds r' → r' = r) : FnOk P w K mg base CX0 k f fd ps (pureSp pre) :=
  F.imp fun vs H Q E ⟨G, ds, r, gh, B, hp, q⟩ => by
    obtain ⟨h1, h2⟩ := h ds r hp
    exact ⟨G, ds, gh, B, h1, fun r' w G' H' hpost g1 g2 g3 g4 hd => q w G' H' g1 g2 g3 g4 (by rw [← h2 r' hpost]; exact hd)⟩
theorem gx_call {x : Str} {k : Nat} {Pre : List D → Prop} {Post : List D → D → Prop} (Fn : FnX S.P S.w S.K S.mg S.base x k Pre Post) (hk : k ≤ S.k) (hg : GlB S x) (ha : GA S (e :: es) Γ τ Γ1 (ds.map Sl.sh)) (hp : Pre ds)
    (hdb : (x == ("__debug__" : Str)) = false) (he : ∀ env, starEach (e :: es) env = (false, eval e env) :: starEach es env) (hpl : ∀ env, (backTo pos (starEach es env)).any (·.1) = false) :
    GX S (.Call (.Name x p2) (e :: es) [] pos) Γ τ Γ1 (fun s => ∃ r, s = .sh r ∧ Post ds r) := by
  obtain ⟨ta, pa, ea⟩ := ha
  obtain ⟨f, fd, ps, hm, hkp, hb, F⟩ := Fn
  refine ⟨tCall (relSp Pre Post) [] E0 ta, fun X I => ?_, fun F G0 G H σ ws wk Q q => ea F G0 G H σ ws wk _ fun vs G1 H1 hl wk1 => ?_⟩
  · rw [← I.prog, ← I.w, ← I.K, ← I.mg, ← I.base] at F
    exact pe_call F (I.room.mono hk) (I.gl hg) (by rw [I.mg]; exact hm) (by rw [I.K]; exact hkp) (by rw [I.K]; exact hb) .nil pass0 (pa X I) hdb (he _) (hpl _)
  · rw [List.append_nil]
    obtain ⟨B, wk2⟩ := wk1.args_sh hl
    exact ⟨G1, ds, wk2.gh, B, hp, fun r w G' H' hpost g1 g2 g3 g4 hd => q (.sh r) w G' H' ⟨r, rfl, hpost⟩ ((wk2.grown g1 g2 g3 g4).sh hd)⟩
theorem gs_retX (h : GX S e Γ [] Γ1 P) (k : ∀ s, P s → E.rt Γ1 s) : GS S (.Return (some e) pos) Γ E := by
  obtain ⟨te, pe, ee⟩ := h
  exact ⟨tRet te, fun X I => ps_ret (pe X I), fun F G0 G H σ wk D K => ee F G0 G H σ [] wk _ fun s w G1 H1 hs wk1 => K.rt Γ1 s w G1 H1 σ (k s hs) wk1⟩
/-- targets of what is told by a word -/
theorem gs_asgTX {tg : Expr} (he : GX S e Γ [] Γ1 P) (hpg : PgG S tg p) (hb : ∀ s, P s → ∃ d Γ2, s = .sh d ∧ bindP p d Γ1 = some Γ2 ∧ E.nx Γ2)
    (hs : ∀ X, S.Is X → swapsWithSole [tg] e pos.line X.env = pure false) (hw : ∀ X, S.Is X → swappedStores [tg] e X.env = pure none) (h1 : ∀ env, (assignEach [tg] env).map (·.2) = [assign tg env]) : GS S (.Assign [tg] e pos) Γ E := by
  obtain ⟨te, pe, ee⟩ := he
  refine ⟨tAsg te (gPt S.K p), fun X I => ps_asg (pe X I) (hpg X I) (hs X I) (hw X I) (h1 _), fun F G0 G H σ wk D K => ee F G0 G H σ [] wk _ fun s w G1 H1 hs wk1 => ?_⟩
  obtain ⟨d, Γ2, rfl, hb, k⟩ := hb s hs
  obtain ⟨σ', wk2, _, kk⟩ := bind_ok hb (by intro s hs; cases hs) wk1
  exact kk _ (K.nx Γ2 G1 H1 σ' k wk2)
/-- t[i], t told by a word -/
theorem gx_ixT {i : Int} {P' : Sl → Prop} (ha : GX S a Γ τ Γ1 P) (hb : ∀ s, P s → GE S b Γ1 (s :: τ) Γ1 (.sh (.int i))) (hr : ∀ s, P s → ∃ ds d, s = .sh (.tuple ds) ∧ atI ds i = some d ∧ P' (.sh d)) (hp : PlainIx b) : GX S (.Subscript a b pos) Γ τ Γ1 P' := by
  obtain ⟨ta, pa, ea⟩ := ha
  refine ⟨tOp (rIxT S.K) ta (wpE S b), fun X I => by rw [← I.K]; exact pe_ix ix_tup (pa X I) (pe_can I) hp, fun F G0 G H σ ws wk Q q => ea F G0 G H σ ws wk _ fun s w1 G1 H1 hs wk1 => (hb s hs).can F G0 G1 H1 σ _ wk1 _ fun w2 G2 H2 wk2 => ?_⟩
  obtain ⟨ds, d, rfl, hd, hp'⟩ := hr s hs
  obtain ⟨O, A⟩ := id wk2
  obtain ⟨p, vs, e, hq, B⟩ := A.rdt A.ts.2.1 .sh
  obtain ⟨v, hv, hvd⟩ := atI_dp B hd
  have hi := wk2.top_sh
  cases hi
  exact ⟨p, vs, i, v, e, rfl, st_of hq, hv, q _ v G2 H2 hp' (wk2.drop.drop.sh hvd)⟩
end
end Lf
set_option maxHeartbeats 4000000
namespace Lf
open PySem L2 Evl

section
variable {S : Stat} {Γ Γ0 Γ1 Γ2 Γ3 τ τ1 : List Sl} {s s1 s2 s3 : Sl} {a b c e o tg : Expr} {es : List Expr} {pos spos p2 pt py : Pos} {d : D} {ds L : List D} {i j : Nat} {x y : Str}
/-! ### a dict is locked while it is walked -/
def del (G : Hp) (p : Addr) : Hp := fun a => if a = p then none else G a
theorem del_ne {G : Hp} {p a : Addr} (h : a ≠ p) : del G p a = G a := if_neg h
theorem del_same {G : Hp} {p : Addr} : del G p p = none := if_pos rfl
mutual
theorem dq_del {G : Hp} {p : Addr} {od : Obj} {u : HO} (hp : G p = some (.frz od u)) : ∀ (d : D) (w : V), Dq G w d → Dq (del G p) w d
  | .none, _, .non => .non
  | .bool _, _, .bl b => .bl b
  | .int _, _, .int i => .int i
  | .str _, _, .str x => .str x
  | .list ds, _, .lst (a := a) h t => .lst ((del_ne (by rintro rfl; rw [hp] at h; cases h)).trans h) (dqa_del hp ds _ t)
  | .tuple ds, _, .tup (a := a) h t => .tup ((del_ne (by rintro rfl; rw [hp] at h; cases h)).trans h) (dqa_del hp ds _ t)
theorem dqa_del {G : Hp} {p : Addr} {od : Obj} {u : HO} (hp : G p = some (.frz od u)) : ∀ (ds : List D) (ws : List V), DqAll G ws ds → DqAll (del G p) ws ds
  | [], _, .nil => .nil
  | d :: ds, _, .cons h t => .cons (dq_del hp d _ h) (dqa_del hp ds _ t)
end
def noLk : Sl → Bool
  | .lk _ => false
  | _ => true
theorem Ok.unlock {K : PySem.W.Frag} {G H : Hp} {σ : L2.St} {O O' : Own} {id : Id} {w : V} {p : Addr} {od : Obj} {u : HO} {v : HO} (hp : G p = some (.frz od u)) (ho : ∀ b id, O b = some id → b ≠ p ∧ O' b = some id) (hs : noLk s = true) (h : Ok K G H σ O id w s) : Ok K (del G p) (upd H p v) σ O' id w s := by
  cases s with
  | no => trivial
  | sh d => exact dq_del hp d w h
  | ol ds =>
    obtain ⟨q, vs, e, o, hq, b⟩ := h
    obtain ⟨k1, k2⟩ := ho q _ o
    exact ⟨q, vs, e, k2, (upd_ne k1).trans hq, dqa_del hp _ _ b⟩
  | oll dss =>
    obtain ⟨q, ps, e, o, hq, nd, b⟩ := h
    obtain ⟨k1, k2⟩ := ho q _ o
    refine ⟨q, ps, e, k2, (upd_ne k1).trans hq, nd, paired_mono (fun q ds h => ?_) b⟩
    obtain ⟨oq, vs, hq, aq⟩ := h
    obtain ⟨k1, k2⟩ := ho q _ oq
    exact ⟨k2, vs, (upd_ne k1).trans hq, dqa_del hp _ _ aq⟩
  | od kvs =>
    obtain ⟨q, vs, e, o, hq, b⟩ := h
    obtain ⟨k1, k2⟩ := ho q _ o
    exact ⟨q, vs, e, k2, (upd_ne k1).trans hq, paired_mono (fun x y h => ⟨h.1, dq_del hp _ _ h.2⟩) b⟩
  | bo i => exact h
  | boi i j =>
    obtain ⟨n, q, ps, r, e, o, hq, h2, ew⟩ := h
    obtain ⟨k1, k2⟩ := ho q _ o
    exact ⟨n, q, ps, r, e, k2, (upd_ne k1).trans hq, h2, ew⟩
  | ob R => obtain ⟨cs, hc, r⟩ := h; exact ⟨cs, fun c m => let ⟨k1, k2⟩ := ho _ _ (hc c m).1; ⟨k2, (upd_ne k1).trans (hc c m).2⟩, r⟩
  | lk ks => cases hs
theorem kr_keys {G : Hp} : ∀ {vs : List (Key × V)} {kvs : List (Key × D)}, Paired (KR G) vs kvs → vs.map (·.1) = kvs.map (·.1)
  | _, _, .nil => rfl
  | _, _, .cons h t => by simp only [List.map_cons]; rw [h.1, kr_keys t]
theorem ge_lock {kvs : List (Key × D)} (hi : Γ[i]? = some (.od kvs)) (hno : ∀ (j : Nat) (s : Sl), Γ[j]? = some s → noLk s = true) (hs : noLk s = true) (h : GE S e (Γ.set i (.lk (kvs.map (·.1)))) [] (Γ.set i (.lk (kvs.map (·.1)))) s) : GE S e Γ [] Γ s := by
  obtain ⟨te, pe, ee⟩ := h
  refine ⟨tLockE te, fun X I => pe_lock (pe X I), fun F G0 G H σ ws wk Q q => ?_⟩
  have ews : ws = [] := by
    obtain ⟨_, A⟩ := wk
    exact List.eq_nil_of_length_eq_zero A.ts.len
  subst ews
  obtain ⟨O, a⟩ := id wk
  have hil : i < Γ.length := (List.getElem?_eq_some_iff.mp hi).1
  rcases a.sl i _ hi with z | ⟨w0, ew0, p, vs, ew, op, hp, B⟩
  · cases z
  · have gp := (a.own p (by rw [op]; simp)).1
    have fp := (a.own p (by rw [op]; simp)).2
    refine ⟨p, .dK vs, hp, trivial, fun od => ?_⟩
    have eg : Ex G (upd G p (.frz od (.dK vs))) := Ex.new gp
    have keys : vs.map (·.1) = kvs.map (·.1) := kr_keys B
    have wk' : Wk S.K F (upd G p (.frz od (.dK vs))) (Γ.set i (.lk (kvs.map (·.1)))) [] (upd G p (.frz od (.dK vs))) (upd H p (.frz od (.dK vs))) σ [] := by
      refine ⟨fun b => if b = p then none else O b, by simp [a.len], fun j s' e => ?_, trivial, fun b hb => ?_, Ex.refl _, fun b u hb => ?_, fun b u hb => ?_, fun b hb => .inl hb⟩
      · by_cases hj : i = j
        · subst hj
          rw [List.getElem?_set_self hil] at e
          cases e
          exact .inr ⟨w0, ew0, p, od, vs, ew, upd_same, keys⟩
        · rw [List.getElem?_set_ne hj] at e
          rcases a.sl j s' e with z | ⟨w', e', h'⟩
          · exact .inl z
          · refine .inr ⟨w', e', h'.tr eg (fun b ho _ => ?_) id (.inl fun i k z => by have := a.sto e; rw [z] at this; cases this)⟩
            have : b ≠ p := fun z => by rw [z, op] at ho; exact hj (Sum.inl.inj (Option.some.inj ho))
            exact ⟨(if_neg this).trans ho, upd_ne this⟩
      · by_cases e : b = p
        · exact absurd (if_pos e) hb
        · have hb' : O b ≠ none := by simpa [e] using hb
          rw [upd_ne e]; exact a.own b hb'
      · by_cases e : b = p
        · subst e; rw [upd_same] at hb ⊢; exact hb
        · rw [upd_ne e] at hb ⊢; exact a.gh b u hb
      · rw [upd_ne (ne_of_none hb fp)]; exact a.fh b u hb
    refine ee F _ _ _ σ [] wk' _ fun w G2 H2 wk2 => ?_
    obtain ⟨O2, a2⟩ := wk2
    have g2p : G2 p = some (.frz od (.dK vs)) := a2.g0 _ _ upd_same
    have o2p : O2 p = none := by
      cases z : O2 p with
      | none => rfl
      | some id => have := (a2.own p (by rw [z]; simp)).1; rw [this] at g2p; cases g2p
    refine ⟨a2.gh _ _ g2p, q w (del G2 p) _ ?_⟩
    have ho : ∀ b id, O2 b = some id → b ≠ p ∧ (if b = p then some (.inl i) else O2 b) = some id := fun b id hb => by
      have : b ≠ p := fun z => by rw [z, o2p] at hb; cases hb
      exact ⟨this, (if_neg this).trans hb⟩
    refine ⟨fun b => if b = p then some (.inl i) else O2 b, a.len, fun j s' e => ?_, ⟨a2.ts.1.unlock g2p ho hs, trivial⟩, fun b hb => ?_, fun b u hb => ?_, fun b u hb => ?_, fun b u hb => ?_, fun b hb => ?_⟩
    · by_cases hj : i = j
      · subst hj
        rw [hi] at e
        cases e
        exact .inr ⟨w0, ew0, p, vs, ew, if_pos rfl, upd_same, paired_mono (fun x y h => ⟨h.1, dq_del g2p _ _ (dp_ex (eg.trans a2.g0) _ _ h.2)⟩) B⟩
      · rcases a2.sl j s' (by rw [List.getElem?_set_ne hj]; exact e) with z | ⟨w', e', h'⟩
        · exact .inl z
        · exact .inr ⟨w', e', h'.unlock g2p ho (hno j s' e)⟩
    · by_cases e : b = p
      · rw [e]; exact ⟨del_same, fp⟩
      · have hb' : O2 b ≠ none := by simpa [e] using hb
        rw [del_ne e]; exact a2.own b hb'
    · have hG := a.g0 _ _ hb
      have e : b ≠ p := ne_of_none hG gp
      rw [del_ne e]
      exact a2.g0 _ _ (by rw [upd_ne e]; exact hG)
    · by_cases e : b = p
      · rw [e, del_same] at hb; cases hb
      · rw [del_ne e] at hb; rw [upd_ne e]; exact a2.gh b u hb
    · rw [upd_ne (ne_of_none hb fp)]; exact a2.fh b u hb
    · by_cases e : b = p
      · rw [e, del_same] at hb; exact absurd rfl hb
      · rw [del_ne e] at hb
        rcases a2.gf b hb with z | z
        · rw [upd_ne e] at z; exact a.gf b z
        · exact .inr z
def keyD : Key → D
  | .inl i => .int i
  | .inr x => .str x
theorem yields_keys {G : Hp} {p : Addr} {od : Obj} {vs : List (Key × V)} (hp : G p = some (.frz od (.dK vs))) : YieldsG (Itk p od vs) G ((vs.map (·.1)).map keyD) := fun i G2 H2 e1 e2 => by
  have hq := e2 _ _ (e1 _ _ hp)
  have hl : ((vs.map (·.1)).map keyD).length = vs.length := by simp
  rw [hl]
  refine ⟨fun hi => ⟨hq, hi⟩, fun hi => ⟨hq, hi⟩, fun x H' hi y => ?_⟩
  obtain ⟨eH, k, v, hk, ex⟩ := y
  refine ⟨keyD k, by rw [List.getElem?_map, List.getElem?_map, hk]; rfl, .inl ⟨eH, ?_⟩⟩
  rw [ex]
  cases k with
  | inl i => exact .int i
  | inr x => exact .str x
theorem ig_keys {ks : List Key} (ho : GE S e Γ τ Γ (.bo i)) (hi : Γ[i]? = some (.lk ks)) : IG S tg e Γ τ Γ (ks.map keyD) := by
  obtain ⟨te, pe, ee⟩ := ho
  refine ⟨iKeys te, fun X I => pi_keys (pe X I), fun F G0 G H σ ws wk R r => ee F G0 G H σ ws wk _ fun w G1 H1 wk1 => ?_⟩
  obtain ⟨O, a⟩ := id wk1
  rcases a.sl i _ hi with z | ⟨w', e, p, od, vs, ew, hp, hk⟩
  · cases z
  · rw [a.ts.1.2] at e; cases e
    refine ⟨p, od, ew, .inl ⟨vs, wk1.gh _ _ hp, r _ G1 H1 wk1.drop ?_⟩⟩
    rw [← hk]
    exact yields_keys hp
end
end Lf
set_option maxHeartbeats 4000000
namespace Lf
open PySem L2 Evl
section
variable {S : Stat} {Γ Γ1 τ : List Sl} {o o' eA eJ v1 v2 v3 : Expr} {pos p1 p2 py pt pt2 : Pos} {k1 k2 l i a k : Nat} {d3 : D} {dss : List (List D)} {E : Endv} {y : Str}
theorem paired_set2 {α β : Type} {R : α → β → Prop} {x : α} {y : β} (hx : R x y) : ∀ {l : List α} {m : List β} (r : Nat), Paired R l m → Paired R (l.set r x) (m.set r y)
  | _, _, _, .nil => .nil
  | _, _, 0, .cons _ t => .cons hx t
  | _, _, r + 1, .cons a t => .cons a (paired_set2 hx r t)
theorem paired_ex {α β γ : Type} {R : α → β → Prop} {T : α → γ → β → Prop} (h : ∀ a b, R a b → ∃ c, T a c b) : ∀ {l : List α} {m : List β}, Paired R l m → ∃ cs : List (α × γ), cs.map (·.1) = l ∧ Paired (fun c b => T c.1 c.2 b) cs m
  | _, _, .nil => ⟨[], rfl, .nil⟩
  | _, _, .cons r t => by
    obtain ⟨c, hc⟩ := h _ _ r
    obtain ⟨cs, h1, h2⟩ := paired_ex h t
    exact ⟨(_, c) :: cs, by rw [List.map_cons, h1], .cons hc h2⟩
theorem paired_fst {α β γ : Type} {R : α → γ → β → Prop} {R' : α → β → Prop} : ∀ {cs : List (α × γ)} {m : List β}, (∀ c b, c ∈ cs → R c.1 c.2 b → R' c.1 b) → Paired (fun c b => R c.1 c.2 b) cs m → Paired R' (cs.map (·.1)) m
  | _, _, _, .nil => .nil
  | _, _, h, .cons r t => .cons (h _ _ (by simp) r) (paired_fst (fun c b hc => h c b (by simp [hc])) t)
theorem paired_mem_left {α β : Type} {R : α → β → Prop} {x : α} : ∀ {l : List α} {m : List β}, Paired R l m → x ∈ l → ∃ y, R x y
  | _, _, .cons r t, h => by
    rcases List.mem_cons.mp h with z | z
    · exact ⟨_, z ▸ r⟩
    · exact paired_mem_left t z
/-- two rows change places: xss[a], xss[i], y = (xss[i], xss[a], e) -/
theorem gs_swap (hl : Γ[l]? = some (.oll dss)) (ha : a < dss.length) (hi : i < dss.length) (hv1 : GE S v1 Γ [] Γ (.boi l i)) (hv2 : GE S v2 Γ [.boi l i] Γ (.boi l a)) (hv3 : GE S v3 Γ [.boi l a, .boi l i] Γ (.sh d3))
    (ho1 : ∀ τ, GE S o Γ τ Γ (.bo l)) (h1 : ∀ τ, GE S eA Γ τ Γ (.sh (.int a))) (ho2 : ∀ R τ, GE S o' (Γ.set l (.ob R)) τ (Γ.set l (.ob R)) (.bo l)) (h2 : ∀ R τ, GE S eJ (Γ.set l (.ob R)) τ (Γ.set l (.ob R)) (.sh (.int i)))
    (hN : S.N[k]? = some y) (hy : LocS S y) (hk : k < Γ.length) (kk : E.nx ((Γ.set l (.oll ((dss.set a dss[i]).set i dss[a]))).set k (.sh d3)))
    (he : ∀ env, starEach [v1, v2, v3] env = (false, eval v1 env) :: starEach [v2, v3] env) (he2 : ∀ env, starEach [v2, v3] env = (false, eval v2 env) :: starEach [v3] env) (he3 : ∀ env, starEach [v3] env = (false, eval v3 env) :: starEach [] env)
    (as1 : ∀ env v, assign (.Subscript o eA p1) env v = (do
      let ov ← holding [v] (eval o env)
      let iv ← holding [v, ov] (eval eA env)
      standAt p1
      holding [v, ov, iv] (setItem ov iv v)
      release [v, ov, iv] []))
    (as2 : ∀ env v, assign (.Subscript o' eJ p2) env v = (do
      let ov ← holding [v] (eval o' env)
      let iv ← holding [v, ov] (eval eJ env)
      standAt p2
      holding [v, ov, iv] (setItem ov iv v)
      release [v, ov, iv] []))
    (e1 : ∀ env, (assignEach [.Subscript o eA p1, .Subscript o' eJ p2, .Name y py] env).map (·.2) = assign (.Subscript o eA p1) env :: (assignEach [.Subscript o' eJ p2, .Name y py] env).map (·.2))
    (e2 : ∀ env, (assignEach [.Subscript o' eJ p2, .Name y py] env).map (·.2) = assign (.Subscript o' eJ p2) env :: (assignEach [.Name y py] env).map (·.2))
    (e3 : ∀ env, (assignEach [.Name y py] env).map (·.2) = assign (.Name y py) env :: (assignEach [] env).map (·.2))
    (en : ∀ env, (assignEach [.Subscript o eA p1, .Subscript o' eJ p2, .Name y py] env).length = 3) (ef : ∀ env, (assignEach [.Subscript o eA p1, .Subscript o' eJ p2, .Name y py] env).findIdx? (·.1) = none)
    (hs : ∀ X, S.Is X → swapsWithSole [.Tuple [.Subscript o eA p1, .Subscript o' eJ p2, .Name y py] k1 pt] (.Tuple [v1, v2, v3] k2 pt2) pos.line X.env = pure false) (hw : ∀ X, S.Is X → swappedStores [.Tuple [.Subscript o eA p1, .Subscript o' eJ p2, .Name y py] k1 pt] (.Tuple [v1, v2, v3] k2 pt2) X.env = pure none)
    (h11 : ∀ env, (assignEach [.Tuple [.Subscript o eA p1, .Subscript o' eJ p2, .Name y py] k1 pt] env).map (·.2) = [assign (.Tuple [.Subscript o eA p1, .Subscript o' eJ p2, .Name y py] k1 pt) env]) :
    GS S (.Assign [.Tuple [.Subscript o eA p1, .Subscript o' eJ p2, .Name y py] k1 pt] (.Tuple [v1, v2, v3] k2 pt2) pos) Γ E := by
  obtain ⟨ta, pa, ea⟩ := ga_cons hv1 (ga_cons hv2 (ga_cons hv3 ga_nil he3) he2) he
  refine ⟨tAsg (tTup ta) (gTup S.K 3 (gCons (gSub (wpE S o) (wpE S eA) rSetL) (gCons (gSub (wpE S o') (wpE S eJ) rSetL) (gCons (gName k) gNil)))), fun X I => ?_, fun F G0 G H σ wk D K => ga_three ea wk fun w1 w2 w3 G1 H1 wk1 => ⟨by show 3 ≤ sizeLine; decide, fun pn hpn => ?_⟩⟩
  · rw [← I.K]
    exact ps_asg (pe_tup (pa X I)) (pg_tup I.calm (pgs_cons (pg_sub (pe_can I) (pe_can I) set_list (as1 _)) (pgs_cons (pg_sub (pe_can I) (pe_can I) set_list (as2 _)) (pgs_cons (pg_name I.nd' (by rw [I.N]; exact hN) (hy.loc I) (hy.fn I)) pgs_nil (e3 _)) (e2 _)) (e1 _)) (en _) (ef _)) (hs X I) (hw X I) (h11 _)
  · have wk2 := wk1.ground hpn (.tup [w1, w2, w3])
    refine ⟨pn, [w1, w2, w3], rfl, st_of upd_same, rfl, w1, [w2, w3], rfl, (ho1 _).can F G0 _ _ σ _ wk2 _ fun wo G3 H3 wk3 => (h1 _).can F G0 G3 H3 σ _ wk3 _ fun wi G4 H4 wk4 => ?_⟩
    have hi4 := wk4.top_sh
    cases hi4
    have ho4 := wk4.drop.bo_at
    obtain ⟨O', A'⟩ := id wk4
    obtain ⟨_, _, hw3, ⟨_, pa', psa, qa, ea1, _, ea2, ea3, ea4⟩, ⟨_, pb', psb, qb, eb1, _, eb2, eb3, eb4⟩, _⟩ := A'.ts
    have wk5 := wk4.drop.drop.drop.drop.drop
    obtain ⟨O, ⟨p, ps, ew, op, hp, nd, B⟩, hown, hgh, fin⟩ := wk5.rebase.chg (by intro s hs; cases hs) ho4 hl (by simp)
    subst ew
    have x1 : p = pa' := by rw [ho4] at ea1; simpa using ea1
    have x2 : p = pb' := by rw [ho4] at eb1; simpa using eb1
    subst x1
    subst x2
    have q1 : psa = ps := ref_inj (by rw [hp] at ea2; simpa using ea2.symm)
    have q2 : psb = ps := ref_inj (by rw [hp] at eb2; simpa using eb2.symm)
    subst q1
    subst q2
    subst ea4 eb4
    have hla : a < psb.length := (List.getElem?_eq_some_iff.mp ea3).1
    have hli : i < psb.length := (List.getElem?_eq_some_iff.mp eb3).1
    have xa : psb[a] = qa := (List.getElem?_eq_some_iff.mp ea3).2
    have xi : psb[i] = qb := (List.getElem?_eq_some_iff.mp eb3).2
    have np : p ∉ psb := (List.nodup_cons.mp nd).1
    -- the rows' cells
    obtain ⟨cs, hcs, Bc⟩ := paired_ex (T := fun q c ds => O q = some (.inl l) ∧ H4 q = some c ∧ ∃ vs, c = .lst vs ∧ DqAll G4 vs ds) (fun q ds h => let ⟨h1, vs, h2, h3⟩ := h; ⟨.lst vs, h1, h2, vs, rfl, h3⟩) B
    refine ⟨p, psb.map V.ref, (a : Int), a, rfl, rfl, hp, ixN_at' (by simpa using hla), ?_⟩
    have wk6 := fin (upd H4 p (.lst ((psb.map V.ref).set a (.ref qb)))) (.ob fun w c => w = .ref p ∧ c = (p, .lst ((psb.map V.ref).set a (.ref qb))) :: cs) (fun b hb => upd_ne fun z => hb (by rw [z]; exact op)) ⟨_, fun c hc => by
      rcases List.mem_cons.mp hc with z | z
      · subst z; exact ⟨op, upd_same⟩
      · obtain ⟨ds, h1, h2, _⟩ := paired_mem_left Bc z
        have : c.1 ≠ p := fun z' => np (by rw [← z', ← hcs]; exact List.mem_map.mpr ⟨c, z, rfl⟩)
        exact ⟨h1, (upd_ne this).trans h2⟩, rfl, rfl⟩
    refine ⟨.ref qa, [w3], rfl, (ho2 _ _).can F G4 _ _ σ _ wk6 _ fun wo G7 H7 wk7 => (h2 _ _).can F G4 G7 H7 σ _ wk7 _ fun wi G8 H8 wk8 => ?_⟩
    have hi8 := wk8.top_sh
    cases hi8
    have ho8 := wk8.drop.bo_at
    rw [ho4] at ho8
    cases ho8
    have hex := wk8.base_ex
    have hll : l < Γ.length := (List.getElem?_eq_some_iff.mp hl).1
    obtain ⟨O8, ⟨c8, hc8, ew8, ec8⟩, hown8, hgh8, fin8⟩ := wk8.drop.drop.chg (by intro s hs; cases hs) ho4 (List.getElem?_set_self hll) (by simp)
    subst ec8
    obtain ⟨op8, hp8⟩ := hc8 (p, .lst ((psb.map V.ref).set a (.ref qb))) List.mem_cons_self
    refine ⟨p, (psb.map V.ref).set a (.ref qb), (i : Int), i, rfl, rfl, hp8, ixN_at' (by simpa using hli), ?_⟩
    have eps : ((psb.map V.ref).set a (.ref qb)).set i (.ref qa) = (((psb.set a psb[i]).set i psb[a])).map V.ref := by
      rw [List.map_set, List.map_set, xa, xi]
    have perm : ((psb.set a psb[i]).set i psb[a]).Perm psb := List.set_set_perm hla hli
    let RR : Addr → List PyData → Prop := fun q ds => O8 q = some (.inl l) ∧ ∃ vs, upd H8 p (.lst (((psb.map V.ref).set a (.ref qb)).set i (.ref qa))) q = some (.lst vs) ∧ DqAll G8 vs ds
    have Bn : Paired (fun q ds => O8 q = some (.inl l) ∧ ∃ vs, upd H8 p (.lst (((psb.map V.ref).set a (.ref qb)).set i (.ref qa))) q = some (.lst vs) ∧ DqAll G8 vs ds) psb dss := by
      rw [← hcs]
      refine paired_fst (R := fun q c ds => O q = some (.inl l) ∧ H4 q = some c ∧ ∃ vs, c = .lst vs ∧ DqAll G4 vs ds) (fun c ds hc h => ?_) Bc
      obtain ⟨_, _, vs, h3, h4⟩ := h
      obtain ⟨h5, h6⟩ := hc8 c (List.mem_cons_of_mem _ hc)
      have : c.1 ≠ p := fun z' => np (by rw [← z', ← hcs]; exact List.mem_map.mpr ⟨c, hc, rfl⟩)
      exact ⟨h5, vs, (upd_ne this).trans (by rw [h6, h3]), dpa_ex hex _ _ h4⟩
    have hlen := paired_len Bn
    have row : ∀ {r : Nat} (hr : r < psb.length) (hr' : r < dss.length), (fun q ds => O8 q = some (Sum.inl l) ∧ ∃ vs, upd H8 p (.lst (((psb.map V.ref).set a (.ref qb)).set i (.ref qa))) q = some (.lst vs) ∧ DqAll G8 vs ds) psb[r] dss[r] := fun {r} hr hr' => by
      obtain ⟨q, hq, h⟩ := paired_at Bn (List.getElem?_eq_getElem hr')
      rw [List.getElem?_eq_getElem hr] at hq
      cases hq
      exact h
    have wk9 := fin8 (upd H8 p (.lst (((psb.map V.ref).set a (.ref qb)).set i (.ref qa)))) (.oll ((dss.set a dss[i]).set i dss[a])) (fun b hb => upd_ne fun z => hb (by rw [z]; exact op8))
      ⟨p, (psb.set a psb[i]).set i psb[a], rfl, op8, by rw [upd_same, eps], List.nodup_cons.mpr ⟨fun z => np (perm.mem_iff.mp z), perm.nodup_iff.mpr (List.nodup_cons.mp nd).2⟩, paired_set2 (R := RR) (row hla ha) i (paired_set2 (R := RR) (row hli hi) a Bn)⟩
    rw [List.set_set] at wk9
    have wk10 := (wk5.based wk9).sh (dp_ex hex _ _ hw3)
    exact ⟨w3, [], rfl, rfl, K.nx _ _ _ _ kk (wk10.store rfl (by simpa using hk))⟩
where
  ixN_at' {n k : Nat} (h : k < n) : ixN n (k : Int) = some k := by unfold ixN; rw [if_pos (by omega), if_pos (by omega)]; simp
end
end Lf
set_option maxHeartbeats 4000000
namespace Lf
open PySem L2 Evl
abbrev BR := V → V → List (Addr × HO) → Prop
/-! ### defs that change a thing of the caller's: the first argument, owned as a blob -/
def blobSp (R : BR) (Pre : List D → Prop) (Post : List D → D → Prop) : Sp := fun vs H Q _ => ∃ (G : Hp) (w : V) (us : List V) (ds : List D) (cs : List (Addr × HO)), vs = w :: us ∧ Ex G H ∧ DqAll G us ds ∧ Pre ds ∧ R w w cs ∧ (∀ c, c ∈ cs → H c.1 = some c.2 ∧ G c.1 = none) ∧
  ∀ r v G' H' cs', Post ds r → Ex G G' → Ex G' H' → (∀ a u, H a = some u → a ∉ cs.map (·.1) → H' a = some u) → (∀ a, G' a ≠ none → G a ≠ none ∨ H a = none ∨ a ∈ cs.map (·.1)) → Dq G' v r → R w w cs' → (∀ c, c ∈ cs' → H' c.1 = some c.2 ∧ (c.1 ∈ cs.map (·.1) ∨ H c.1 = none) ∧ G' c.1 = none) → Q v H'
def startO (N : List Str) (s : Sl) (ds : List D) : List Sl := s :: ds.map Sl.sh ++ List.replicate (N.length - (ds.length + 1)) .no
def retO (s0 : Sl) (Post : D → Prop) : Endv := ⟨fun Γ => Γ[0]? = some s0 ∧ Post .none, fun Γ s => Γ[0]? = some s0 ∧ ∃ r, RetOk Γ s r ∧ Post r, fun _ => False, fun _ => False⟩
open Classical in
noncomputable def cutH (H : Hp) (A : List Addr) : Hp := fun b => if b ∈ A then none else H b
open Classical in
theorem wk_startO {K : PySem.W.Frag} {N : List Str} {R : V → List (Addr × HO) → Prop} {G H : Hp} {w : V} {vs : List V} {ds : List D} {cs : List (Addr × HO)} (gh : Ex G H) (B : DqAll G vs ds) (hR : R w cs) (hc : ∀ c, c ∈ cs → H c.1 = some c.2 ∧ G c.1 = none) :
    Wk K (cutH H (cs.map (·.1))) G (startO N (.ob R) ds) [] G H (L2.start N (w :: vs)) [] := by
  have hl := dpa_len B
  refine ⟨fun b => if b ∈ cs.map (·.1) then some (.inl 0) else none, by simp [startO, L2.start, hl], fun i s e => ?_, trivial, fun a h => ?_, Ex.refl _, gh, fun b u hb => ?_, fun a h => .inl h⟩
  · cases i with
    | zero =>
      have : s = .ob R := by unfold startO at e; simpa using e.symm
      subst this
      exact .inr ⟨w, by unfold L2.start; rfl, cs, fun c hc' => ⟨if_pos (List.mem_map.mpr ⟨c, hc', rfl⟩), (hc c hc').1⟩, hR⟩
    | succ i =>
      unfold startO at e
      rw [List.cons_append, List.getElem?_cons_succ] at e
      by_cases hi : i < ds.length
      · rw [List.getElem?_append_left (by simpa using hi), List.getElem?_map, List.getElem?_eq_getElem hi] at e
        simp at e
        subst e
        obtain ⟨v, hv, hd⟩ := dpa_get B (List.getElem?_eq_getElem hi)
        refine .inr ⟨v, ?_, hd⟩
        unfold L2.start
        rw [List.getElem?_append_left (by simp; omega), List.getElem?_map, List.getElem?_cons_succ, hv]
        rfl
      · rw [List.getElem?_append_right (by simp; omega)] at e
        have := List.mem_of_getElem? e
        exact .inl (List.mem_replicate.mp this).2
  · by_cases hm : a ∈ cs.map (·.1)
    · obtain ⟨c, h1, h2⟩ := List.mem_map.mp hm
      refine ⟨by rw [← h2]; exact (hc c h1).2, ?_⟩
      unfold cutH
      exact if_pos hm
    · exact absurd (if_neg hm) h
  · unfold cutH at hb
    split at hb
    · cases hb
    · exact hb
theorem fn_blob {P : Program} {w : World} {K : PySem.W.Frag} {mg : Str → Option Value} {base : Heap} {x qual : Str} {st : Stmt} {f : Addr} {fd : FuncData} {N ps : List Str} {k : Nat} {R : BR} {Pre : List D → Prop} {Post : List D → D → Prop} (F : Fun K x qual st f fd) (hS : FnScope N ps (defScope st)) (hRw : ∀ w w' cs, R w w' cs → w' = w)
    (hlen : ∀ ds, Pre ds → ds.length + 1 = ps.length) (body : ∀ w0 ds, Pre ds → GSs (stOf P w K mg base N (defScope st) k) (defBody st) (startO N (.ob (R w0)) ds) (retO (.ob (R w0)) (Post ds))) : FnOk P w K mg base CX0 (k + 1) f fd ps (blobSp R Pre Post) := by
  refine F.ok hS (fun vs H Q E h => ?_) (fun cdv A outer s H vs Q E hr h => ?_)
  · obtain ⟨G, w0, us, ds, cs, rfl, _, B, hp, _⟩ := h
    rw [List.length_cons, dpa_len B]
    exact hlen ds hp
  · obtain ⟨G, w0, us, ds, cs, rfl, gh, B, hp, hR, hc, q⟩ := h
    obtain ⟨t, pt, et⟩ := body w0 ds hp
    have fin : ∀ {Γ : List Sl} {s : Sl} {v : V} {G1 H1 : Hp} {σ : L2.St} {r : D}, Γ[0]? = some (.ob (R w0)) → RetOk Γ s r → Post ds r → Wk K (cutH H (cs.map (·.1))) G Γ [s] G1 H1 σ [v] → Q v H1 := fun {Γ s v G1 H1 σ r} h0 hr hpost wk => by
      obtain ⟨O, a⟩ := wk
      have hg : ∀ b, O b ≠ none → G1 b = none := fun b hb => (a.own b hb).1
      rcases a.sl 0 _ h0 with z | ⟨w', e', cs', hcs, hR'⟩
      · cases z
      · have := hRw _ _ _ hR'
        subst this
        -- the answer's ground
        have key : ∃ G2, Ex G1 G2 ∧ Ex G2 H1 ∧ (∀ b, G2 b ≠ none → G1 b ≠ none ∨ cutH H (cs.map (·.1)) b = none) ∧ Dq G2 v r ∧ ∀ b, O b = some (.inl 0) → G2 b = none := by
          cases hr with
          | sh => exact ⟨G1, Ex.refl _, a.gh, fun b hb => .inl hb, a.ts.1, fun b hb => hg b (by rw [hb]; simp)⟩
          | own f =>
            refine ⟨_, grd_ex hg, grd_to a.gh, fun b hb => ?_, a.ts.1.frozen f hg, fun b hb => ?_⟩
            · by_cases z : O b = some (.inr ([] : List Sl).length)
              · exact .inr (a.own b (by rw [z]; simp)).2
              · unfold grd at hb; rw [if_neg z] at hb; exact .inl hb
            · unfold grd; rw [if_neg (by rw [hb]; intro z; cases z)]; exact hg b (by rw [hb]; simp)
          | @bo n s' u hi f =>
            have hw := a.ts.1.2
            rcases a.sl n _ hi with z | ⟨w', e', h'⟩
            · rw [z] at f; cases f
            · rw [hw] at e'; cases e'
              have hn0 : n ≠ 0 := by
                rintro rfl
                rw [h0] at hi; cases hi; cases f
              refine ⟨_, grd_ex hg, grd_to a.gh, fun b hb => ?_, h'.frozen f hg, fun b hb => ?_⟩
              · by_cases z : O b = some (.inl n)
                · exact .inr (a.own b (by rw [z]; simp)).2
                · unfold grd at hb; rw [if_neg z] at hb; exact .inl hb
              · unfold grd; rw [if_neg (by rw [hb]; intro z; exact hn0 (Sum.inl.inj (Option.some.inj z)).symm)]; exact hg b (by rw [hb]; simp)
        obtain ⟨G2, g1, g2, g3, hd, g4⟩ := key
        have cutn : ∀ b, cutH H (cs.map (·.1)) b = none → b ∈ cs.map (·.1) ∨ H b = none := fun b hb => by
          unfold cutH at hb
          split at hb
          · exact .inl (by assumption)
          · exact .inr hb
        refine q r v G2 H1 cs' hpost (a.g0.trans g1) g2 (fun b u hb hn => a.fh b u (by unfold cutH; rw [if_neg hn]; exact hb)) (fun b hb => ?_) hd hR' fun c hc' => ⟨(hcs c hc').2, cutn _ (a.own c.1 (by rw [(hcs c hc').1]; simp)).2, g4 _ (hcs c hc').1⟩
        have big : ∀ b, G2 b ≠ none → G b ≠ none ∨ cutH H (cs.map (·.1)) b = none := fun b hb => by
          rcases g3 b hb with z | z
          · exact a.gf b z
          · exact .inr z
        rcases big b hb with z | z
        · exact .inl z
        · rcases cutn b z with y | y
          · exact .inr (.inr y)
          · exact .inr (.inl y)
    refine ⟨t, pt _ ⟨rfl, rfl, rfl, rfl, rfl, rfl, rfl, hS.kind, rfl, rfl, hr, rfl, hS.nd⟩, et _ _ _ _ _ (wk_startO gh B hR hc) _ ⟨fun Γ G1 H1 σ hn wk => ?_, fun Γ s v G1 H1 σ hr wk => ?_, fun _ _ _ _ h => h.elim, fun _ _ _ _ h => h.elim⟩⟩
    · exact fin hn.1 .sh hn.2 (wk.sh .non)
    · obtain ⟨h0, r, hr, hpost⟩ := hr
      exact fin h0 hr hpost wk
theorem gx_callB {S : Stat} {Γ Γ1 τ : List Sl} {a : Expr} {es : List Expr} {pos p2 : Pos} {ds : List D} {x : Str} {k i : Nat} {R : BR} {Pre : List D → Prop} {Post : List D → D → Prop} {w0 : V} (Fn : FnS S.P S.w S.K S.mg S.base x k (blobSp R Pre Post)) (hRw : ∀ w w' cs, R w w' cs → w' = w) (hk : k ≤ S.k) (hg : GlB S x)
    (ho : GE S a Γ τ Γ (.bo i)) (ha : GA S es Γ (.bo i :: τ) Γ1 (ds.map Sl.sh)) (hi : Γ1[i]? = some (.ob (R w0))) (hn : NI τ) (hp : Pre ds)
    (hdb : (x == ("__debug__" : Str)) = false) (he : ∀ env, starEach (a :: es) env = (false, eval a env) :: starEach es env) (hpl : ∀ env, (backTo pos (starEach es env)).any (·.1) = false) :
    GX S (.Call (.Name x p2) (a :: es) [] pos) Γ τ Γ1 (fun s => ∃ r, s = .sh r ∧ Post ds r) := by
  obtain ⟨ta, pa, ea⟩ := ga_cons ho ha he
  obtain ⟨f, fd, ps, hm, hkp, hb, F⟩ := Fn
  refine ⟨tCall (blobSp R Pre Post) [] E0 ta, fun X I => ?_, fun F G0 G H σ ws wk Q q => ea F G0 G H σ ws wk _ fun vs G1 H1 hl wk1 => ?_⟩
  · rw [← I.prog, ← I.w, ← I.K, ← I.mg, ← I.base] at F
    exact pe_call F (I.room.mono hk) (I.gl hg) (by rw [I.mg]; exact hm) (by rw [I.K]; exact hkp) (by rw [I.K]; exact hb) .nil pass0 (pa X I) hdb (he _) (hpl _)
  · rw [List.append_nil]
    cases vs with
    | nil => simp at hl
    | cons v0 us =>
      have hl' : us.length = (ds.map Sl.sh).length := by simpa using hl
      have wk1' : Wk S.K F G0 Γ1 ((ds.map Sl.sh).reverse ++ (.bo i :: τ)) G1 H1 σ (us.reverse ++ (v0 :: ws)) := by
        simpa using wk1
      obtain ⟨B, wk2⟩ := wk1'.args_sh hl'
      obtain ⟨O, A⟩ := wk2
      have hw := A.ts.1.2
      have hi1 : i < Γ1.length := (List.getElem?_eq_some_iff.mp hi).1
      rcases A.sl i _ hi with z | ⟨w', e', cs, hcs, hR⟩
      · cases z
      · rw [hw] at e'; cases e'
        have := hRw _ _ _ hR
        subst this
        refine ⟨G1, v0, us, ds, cs, rfl, A.gh, B, hp, hR, fun c hc => ⟨(hcs c hc).2, (A.own c.1 (by rw [(hcs c hc).1]; simp)).1⟩, fun r v G' H' cs' hpost g1 g2 g3 g4 hd hR' hcs' => q (.sh r) v G' H' ⟨r, rfl, hpost⟩ ?_⟩
        -- owners behind the call
        have oldO : ∀ b, O b ≠ none → O b ≠ some (.inl i) → b ∉ cs.map (·.1) := fun b hb hbi hm => by
          obtain ⟨c, h1, h2⟩ := List.mem_map.mp hm
          rw [← h2] at hbi
          exact hbi (hcs c h1).1
        have wkO : Wk S.K F G0 Γ1 τ G' H' σ ws := by
          let O' : Own := fun b => open Classical in if b ∈ cs'.map (·.1) then some (.inl i) else if O b = some (.inl i) then none else if H1 b = none then none else O b
          have newO : ∀ c, c ∈ cs' → O' c.1 = some (.inl i) := fun c hc => if_pos (List.mem_map.mpr ⟨c, hc, rfl⟩)
          have keep : ∀ b id, O b = some id → id ≠ .inl i → H1 b ≠ none → O' b = some id ∧ H' b = H1 b := fun b id hb hid hH => by
            have hnc : b ∉ cs.map (·.1) := oldO b (by rw [hb]; simp) (by rw [hb]; intro z; exact hid (Option.some.inj z))
            have hnc' : b ∉ cs'.map (·.1) := fun hm => by
              obtain ⟨c, h1, h2⟩ := List.mem_map.mp hm
              obtain ⟨_, h4, _⟩ := hcs' c h1
              rw [h2] at h4
              rcases h4 with z | z
              · exact hnc z
              · exact hH z
            refine ⟨?_, ?_⟩
            · show (if _ then _ else if _ then _ else if _ then _ else _) = _
              rw [if_neg hnc', if_neg (by rw [hb]; intro z; exact hid (Option.some.inj z)), if_neg hH, hb]
            · cases e : H1 b with
              | none => exact absurd e hH
              | some u => exact g3 b u e hnc
          have ext : Ex G1 G' := g1
          have okts : ∀ {ws : List V} {τ : List Sl}, NI τ → OkTs S.K G1 H1 σ O ws τ → OkTs S.K G' H' σ O' ws τ := by
            intro ws τ
            induction τ generalizing ws with
            | nil => intro _ h; cases ws with
              | nil => trivial
              | cons _ _ => exact h
            | cons s τ ih => intro hn h; cases ws with
              | nil => exact h
              | cons w ws => exact ⟨h.1.tr g1 (fun b ho hb => keep b _ ho (by simp) hb) id (.inl (hn s (by simp))), ih (fun s hs => hn s (by simp [hs])) h.2⟩
          refine ⟨O', A.len, fun j s e => ?_, okts hn A.ts.2, fun b hb => ?_, A.g0.trans g1, g2, fun b u hb => ?_, fun b hb => ?_⟩
          · by_cases hj : j = i
            · subst hj
              rw [hi] at e
              cases e
              exact .inr ⟨v0, hw, cs', fun c hc => ⟨newO c hc, (hcs' c hc).1⟩, hR'⟩
            · rcases A.sl j s e with z | ⟨w', e', h'⟩
              · exact .inl z
              · exact .inr ⟨w', e', h'.tr g1 (fun b ho hb => keep b _ ho (fun z => hj (Sum.inl.inj z)) hb) id (.inl fun i k z => by have := A.sto e; rw [z] at this; cases this)⟩
          · by_cases hm : b ∈ cs'.map (·.1)
            · obtain ⟨c, h1, h2⟩ := List.mem_map.mp hm
              obtain ⟨_, h4, h5⟩ := hcs' c h1
              rw [h2] at h4 h5
              refine ⟨h5, ?_⟩
              rcases h4 with z | z
              · obtain ⟨c2, h6, h7⟩ := List.mem_map.mp z
                rw [← h7]
                exact (A.own c2.1 (by rw [(hcs c2 h6).1]; simp)).2
              · exact fresh_back A.fh z
            · have hb' : (if O b = some (.inl i) then none else if H1 b = none then none else O b) ≠ none := by
                have : O' b = if O b = some (.inl i) then none else if H1 b = none then none else O b := if_neg hm
                rw [← this]; exact hb
              by_cases h1 : O b = some (.inl i)
              · rw [if_pos h1] at hb'; exact absurd rfl hb'
              · rw [if_neg h1] at hb'
                by_cases h2 : H1 b = none
                · rw [if_pos h2] at hb'; exact absurd rfl hb'
                · rw [if_neg h2] at hb'
                  obtain ⟨o1, o2⟩ := A.own b hb'
                  refine ⟨?_, o2⟩
                  cases e : G' b with
                  | none => rfl
                  | some u =>
                    rcases g4 b (by rw [e]; simp) with z | z | z
                    · exact absurd o1 z
                    · exact absurd z h2
                    · exact absurd z (oldO b hb' h1)
          · have hnc : b ∉ cs.map (·.1) := fun hm => by
              obtain ⟨c, h1, h2⟩ := List.mem_map.mp hm
              have := (A.own c.1 (by rw [(hcs c h1).1]; simp)).2
              rw [h2] at this
              rw [this] at hb; cases hb
            exact g3 b u (A.fh b u hb) hnc
          · rcases g4 b hb with z | z | z
            · exact A.gf b z
            · exact .inr (fresh_back A.fh z)
            · obtain ⟨c, h1, h2⟩ := List.mem_map.mp z
              rw [← h2]
              exact .inr (A.own c.1 (by rw [(hcs c h1).1]; simp)).2
        exact wkO.sh hd
end Lf
set_option maxHeartbeats 4000000
namespace Lf
open PySem L2 Evl
/-! ### sum of lists, with a list to start from -/
section
variable {prog : Program} {w : World} {A : Around} {R : Result → Shared → Prop} {I : Addr} {fp wr : List Addr} {G : Array GenState → Array GenState → Prop} {n : Nat} {P : Nat → Value → Prop} {St : Nat → Shared → Prop}
theorem args_sum2 (a b : Value) : argsOk "sum" ⟨[a, b], []⟩ := by unfold argsOk; kernel_rfl
theorem sum_loopL (W : WalksS prog w A.in1 I fp wr G n P St) (hA : ∀ i s, St i s → ∀ b ∈ wr, b < s.heap.objs.size) (s0 : Shared) (hw : ∀ b ∈ wr, s0.heap.get? b = none) (S : Addr) (hSf : S ∉ fp) (hS0 : s0.heap.get? S = none) (hSz : s0.heap.objs.size ≤ S)
    (xs pre : Nat → List Value) (hP : ∀ i v, P i v → ∃ b m, v = .ref b ∧ PySem.IsL s0.heap b (xs i).toArray m) (pS : ∀ i, i < n → pre (i + 1) = pre i ++ xs i) (hz : ∀ i, i ≤ n → (pre i).length ≤ sizeLine) :
    ∀ (k i : Nat) (s : Shared) (T : Addr) (m c : Nat), n - i = k → i ≤ n → St i s → T ∉ wr → T ≠ S → Moved (S :: wr) G s0 s → s.heap.get? S = some { cls := .type "list", dict := none, data := .seq #[.ref T] c, slots := #[] } → PySem.IsL s.heap T (pre i).toArray m →
    (∀ s' T' m', Moved (S :: wr) G s0 s' → PySem.IsL s'.heap T' (pre n).toArray m' → (i = n → T' = T) → (i < n → s0.heap.objs.size ≤ T') → R (.ok (.ret (.ref T'))) s') → codeAny (model prog w) A (.builtin "sum.loop" ⟨[.ref I, .ref S, rawInt 2, rawInt 0], []⟩) R s := by
  have hSw : S ∉ wr := fun h => hSf (W.sub _ h)
  have hsub : ∀ b ∈ wr, b ∈ S :: wr := fun b hb => List.mem_cons_of_mem _ hb
  have keep : ∀ {s : Shared} {b : Addr} {o : Obj}, Moved (S :: wr) G s0 s → s0.heap.get? b = some o → s.heap.get? b = some o := fun {s b o} hm e => hm.heap b o (fun hb => by
    rcases List.mem_cons.mp hb with rfl | hb
    · rw [hS0] at e; cases e
    · rw [hw b hb] at e; cases e) e
  intro k
  induction k with
  | zero =>
    intro i s T m c hk hi hst hT hTS hm0 hS hTl hR
    have hin : i = n := by omega
    subst hin
    refine codeAny_builtin F.entry_sum_loop ?_
    rw [Around.under_plainId F.plain_sum_loop _]
    show wpAny _ A.in1 (seqItems? (.ref S) >>= _) _ _ s
    refine wpAny_bind (wpAny_seqItems hS rfl ?_)
    show wpAny _ A.in1 (tryCatch (pyNext (.ref I)) _ >>= _) _ _ s
    refine wpAny_bind (wpAny_tryCatch (W.done s _ _ hst fun s' hm => ?_))
    exact wpAny_pure (hR s' T m (Moved.trans W.gtrans hm0 (hm.mono hsub)) (hm.heap T _ hT hTl) (fun _ => rfl) fun h => absurd h (by omega))
  | succ k ih =>
    intro i s T m c hk hi hst hT hTS hm0 hS hTl hR
    have hlt : i < n := by omega
    refine codeAny_builtin F.entry_sum_loop ?_
    rw [Around.under_plainId F.plain_sum_loop _]
    show wpAny _ A.in1 (seqItems? (.ref S) >>= _) _ _ s
    refine wpAny_bind (wpAny_seqItems hS rfl ?_)
    show wpAny _ A.in1 (tryCatch (pyNext (.ref I)) _ >>= _) _ _ s
    refine wpAny_bind (wpAny_tryCatch (W.item i s _ _ hlt hst fun v s' hPv hst' hm => ?_))
    obtain ⟨b, mb, rfl, hb⟩ := hP i v hPv
    have hS' := hm.heap S _ hSw hS
    have hT' := hm.heap T _ hT hTl
    have hm1 := Moved.trans W.gtrans hm0 (hm.mono hsub)
    have hb' : PySem.IsL s'.heap b (xs i).toArray mb := keep hm1 hb
    show wpAny _ A.in1 ((holding [Value.ref b] (binaryOp .Add (.ref T) (.ref b))).attempt >>= _) _ _ _
    have hz1 := hz (i + 1) (by omega)
    rw [pS i hlt, List.length_append] at hz1
    refine wpAny_bind (wpAny_attempt (wpAny_holding (PySem.P.add_list hT' hb' ?_ (by rw [List.size_toArray, List.size_toArray]; exact hz1))))
    have ea : (pre i).toArray ++ (xs i).toArray = (pre (i + 1)).toArray := by rw [pS i hlt]; simp
    rw [ea]
    show wpAny _ A.in1 (updateSeq S (fun _ => #[.ref s'.heap.objs.size]) >>= _) _ _ _
    have hSp := Heap.get?_push_of_some { cls := .type "list", data := .seq (pre (i + 1)).toArray } hS'
    have hTp : (s'.heap.push { cls := .type "list", data := .seq (pre (i + 1)).toArray }).get? s'.heap.objs.size = some { cls := .type "list", data := .seq (pre (i + 1)).toArray } := Heap.get?_push_size _ rfl
    have hTne : S ≠ s'.heap.objs.size := Nat.ne_of_lt (Heap.lt_size hS')
    refine wpAny_bind (wpAny_updateSeq hSp rfl ?_)
    have hS₂ := Heap.get?_update_self (Obj.mapSeq fun _ => #[Value.ref s'.heap.objs.size]) hSp rfl
    have hT₂ := (Heap.get?_update_other _ (Obj.mapSeq fun _ => #[Value.ref s'.heap.objs.size]) hTne).trans hTp
    refine wpAny_bind (wpAny_letGo ?_)
    refine wpAny_bind (wpAny_updateSeq hS₂ rfl ?_)
    have hS₃ := Heap.get?_update_self (Obj.mapSeq fun _ => #[Value.ref s'.heap.objs.size]) hS₂ rfl
    have old : ∀ b o, b ≠ S → s'.heap.get? b = some o → (((s'.heap.push { cls := .type "list", data := .seq (pre (i + 1)).toArray }).update S (Obj.mapSeq fun _ => #[Value.ref s'.heap.objs.size])).update S (Obj.mapSeq fun _ => #[Value.ref s'.heap.objs.size])).get? b = some o := fun b o hb e =>
      (Heap.get?_update_other _ _ (Ne.symm hb)).trans ((Heap.get?_update_other _ _ (Ne.symm hb)).trans (Heap.get?_push_of_some _ e))
    have hm2 : Moved (S :: wr) G s0 { s' with heap := ((s'.heap.push { cls := .type "list", data := .seq (pre (i + 1)).toArray }).update S (Obj.mapSeq fun _ => #[Value.ref s'.heap.objs.size])).update S (Obj.mapSeq fun _ => #[Value.ref s'.heap.objs.size]) } :=
      hm1.then_heap (Nat.le_refl _) fun b o hb e => old b o (fun z => hb (by rw [z]; exact List.mem_cons_self)) e
    refine wpAny_pure ⟨plainId_quiet F.plain_sum_loop _, ih (i + 1) _ s'.heap.objs.size 0 _ (by omega) hlt (W.frame _ s' _ _ hst' (Nat.le_refl _) fun b hb o e => old b o (fun z => hSf (z ▸ hb)) e) (fun z => Nat.lt_irrefl _ (hA _ _ hst' _ z)) (Ne.symm hTne) hm2 hS₃ ?_ fun s'' T'' m'' hm'' hl'' e1 e2 => ?_⟩
    · exact (Heap.get?_update_other _ _ hTne).trans hT₂
    · refine hR s'' T'' m'' hm'' hl'' (fun z => absurd z (by omega)) fun _ => ?_
      by_cases h : i + 1 = n
      · rw [e1 h]
        exact Nat.le_of_lt (Nat.lt_of_le_of_lt hSz (Heap.lt_size hS'))
      · exact e2 (by omega)

theorem call_sumL {E : Value → Shared → Prop} {s : Shared} {l q : Addr} {its : List Value} {m0 : Nat} {Q : Value → Shared → Prop} (hh : A.handled = none) (hl : s.heap.IsList l its.toArray) (hq : IsL s.heap q #[] m0) (iss : List (List Value)) (hne : its ≠ []) (hn : its.length = iss.length)
    (hi : ∀ (i : Nat) (v : Value), its[i]? = some v → ∃ b m, v = .ref b ∧ ∃ xs, iss[i]? = some xs ∧ IsL s.heap b xs.toArray m) (hz : iss.flatten.length ≤ sizeLine)
    (h : ∀ h' tk T m, (∀ b o, s.heap.get? b = some o → h'.get? b = some o) → s.heap.objs.size ≤ T → IsL h' T iss.flatten.toArray m → Q (.ref T) { s with heap := h', toks := tk }) :
    wpAny (model prog w) A (call (.builtin "sum") [.ref l, .ref q]) Q E s := by
  obtain ⟨o, ho, hc, no, hd⟩ := id hl
  refine call_function_tree F.kind_sum F.plain_sum F.entry_sum (args_sum2 _ _) ?_
  unfold Builtin.«sum»
  simp only [List.length_cons, List.length_nil]
  rw [if_neg (by decide)]
  refine wpAny_bind (wpAny_of_eq (show Builtin.Builtins.bindParams "sum" ["start"] 0 ⟨[.ref q], []⟩ = pure [some (.ref q)] from rfl) ?_)
  have hne2 : l ≠ s.heap.objs.size := Nat.ne_of_lt (Heap.lt_size ho)
  have W := (Walks.list (prog := prog) (w := w) (A := A.in1) hh s.heap.objs.size l hne2 its.toArray).toS
  refine wpAny_bind (wpAny_pyIter_list hl ?_)
  refine wpAny_bind (wpAny_pure ?_)
  simp only [List.forIn_cons, List.forIn_nil]
  have hq1 : IsL (s.heap.push { cls := .type "list_iterator", data := .fields #[.ref l, .int 0 0] }) q #[] m0 := Heap.get?_push_of_some _ hq
  have ty : ∀ s' : Shared, IsL s'.heap q #[] m0 → s'.TypeIs (.ref q) "list" := fun s' e => ⟨_, e, rfl⟩
  refine wpAny_bind (wpAny_bind (wpAny_bind (wpAny_isInstance (T := "list") (b := false) (ty _ hq1) F.sub_list_str ?_)))
  simp only [Bool.false_eq_true, if_false]
  refine wpAny_pure (wpAny_bind (wpAny_bind (wpAny_isInstance (T := "list") (b := false) (ty _ hq1) F.sub_list_bytes ?_)))
  simp only [Bool.false_eq_true, if_false]
  refine wpAny_pure (wpAny_bind (wpAny_bind (wpAny_isInstance (T := "list") (b := false) (ty _ hq1) F.sub_list_bytearray ?_)))
  simp only [Bool.false_eq_true, if_false]
  refine wpAny_pure (wpAny_pure ?_)
  refine wpAny_bind (wpAny_newObj_type ?_)
  have sz1 : (s.heap.push { cls := .type "list_iterator", data := .fields #[.ref l, .int 0 0] }).objs.size = s.heap.objs.size + 1 := Heap.size_push ..
  have k1 : ∀ b o, s.heap.get? b = some o → (s.heap.push { cls := .type "list_iterator", data := .fields #[.ref l, .int 0 0] }).get? b = some o := fun b o e => Heap.get?_push_of_some _ e
  have k2 : ∀ b o, s.heap.get? b = some o → ((s.heap.push { cls := .type "list_iterator", data := .fields #[.ref l, .int 0 0] }).push { cls := .type "list", data := .seq #[.ref q] }).get? b = some o := fun b o e => Heap.get?_push_of_some _ (k1 b o e)
  have qlt : q < s.heap.objs.size := Heap.lt_size hq
  have llt : l < s.heap.objs.size := Heap.lt_size ho
  have hlen : its.toArray.size = iss.length := by rw [List.size_toArray]; exact hn
  have pz : ∀ i, ((iss.take i).flatten).length ≤ iss.flatten.length := fun i => by
    rw [← List.take_append_drop i iss, List.flatten_append, List.length_append]
    simp
  refine wpAny_pure ⟨plainId_quiet F.plain_sum_loop _, sum_loopL W (fun i s' st b hb => ?_) s (fun b hb => ?_) (s.heap.push { cls := .type "list_iterator", data := .fields #[.ref l, .int 0 0] }).objs.size ?_ ?_ ?_ (fun i => (iss[i]?).getD []) (fun i => (iss.take i).flatten) (fun i v hv => ?_) (fun i hi' => ?_) (fun i _ => Nat.le_trans (pz i) hz)
    its.toArray.size 0 _ q m0 0 rfl (Nat.zero_le _) ⟨⟨_, Heap.get?_push_of_some _ (Heap.get?_push_size _ rfl), rfl, rfl⟩, hl.at fun o e => k2 _ o e⟩ ?_ ?_ ⟨fun b o _ e => k2 b o e, rfl, rfl, rfl, Nat.le_refl _⟩ (Heap.get?_push_size _ rfl) (k2 _ _ hq) fun s' T' m' hm hT _ hge => ?_⟩
  · obtain rfl := List.mem_singleton.mp hb
    obtain ⟨o, ho, _⟩ := st.1
    exact Heap.lt_size ho
  · obtain rfl := List.mem_singleton.mp hb
    exact Heap.get?_none_of_le (Nat.le_refl _)
  · intro hb
    rcases List.mem_cons.mp hb with e | hb
    · rw [sz1] at e; exact Nat.succ_ne_self _ e
    · have e := List.mem_singleton.mp hb
      rw [sz1] at e; exact Nat.lt_irrefl _ (Nat.lt_of_lt_of_le (e ▸ llt) (Nat.le_succ _) |> fun h => Nat.lt_of_le_of_lt (Nat.le_succ _) (e ▸ llt))
  · exact Heap.get?_none_of_le (by rw [sz1]; exact Nat.le_succ _)
  · rw [sz1]; exact Nat.le_succ _
  · obtain ⟨b, m, e, xs, h1, h2⟩ := hi i v (by simpa using hv)
    exact ⟨b, m, e, by rw [h1]; exact h2⟩
  · have : i < iss.length := by omega
    rw [List.take_succ, List.flatten_append, List.getElem?_eq_getElem this]
    simp
  · intro hb
    have e := List.mem_singleton.mp hb
    exact Nat.lt_irrefl _ (e ▸ qlt)
  · rw [sz1]; intro e; exact Nat.lt_irrefl _ (Nat.lt_of_le_of_lt (Nat.le_succ _) (e ▸ qlt))
  · have e1 : s'.gens = s.gens := hm.gens
    have e2 : s'.drawn = s.drawn := hm.drawn
    have e3 : s'.os = s.os := hm.os
    obtain ⟨h', g', d', tk', os'⟩ := s'
    subst e1 e2 e3
    refine h h' tk' T' m' (fun b o e => hm.heap b o (fun hb => ?_) e) (hge (by rw [List.size_toArray]; cases its with | nil => exact absurd rfl hne | cons _ _ => simp)) ?_
    · rcases List.mem_cons.mp hb with z | hb
      · have := Heap.lt_size e
        rw [z, sz1] at this
        exact Nat.lt_irrefl _ (Nat.lt_of_le_of_lt (Nat.le_succ _) this)
      · have z := List.mem_singleton.mp hb
        have := Heap.lt_size e
        rw [z] at this
        exact Nat.lt_irrefl _ this
    · have : (iss.take its.toArray.size).flatten = iss.flatten := by rw [List.take_of_length_le (by omega)]
      rw [← this]
      exact hT
end
section
variable {X : Cx}
def rSumL : List V → Hp → VK → Prop := fun xs H Q => ∃ (p q : Addr) (vs : List V) (dss : List (List D)) (G : Hp), Ex G H ∧ xs = [.ref p, .ref q] ∧ H p = some (.lst vs) ∧ DqAll G vs (dss.map .list) ∧ dss ≠ [] ∧ H q = some (.lst []) ∧ dss.flatten.length ≤ sizeLine ∧
  ∀ l ys, H l = none → DqAll G ys dss.flatten → Q (.ref l) (upd H l (.lst ys))
theorem lists_of {pins : List (Addr × Obj)} {σ : L2.St} {G H : Hp} {s : Shared} (I : Inv X pins σ H s) (gh : Ex G H) : ∀ {dss : List (List D)} {vs : List V} {its : List Value}, Vals vs its → DqAll G vs (dss.map PyData.list) →
    ∃ (iss : List (List Value)) (vss : List V), its.length = iss.length ∧ (∀ (i : Nat) (v : Value), its[i]? = some v → ∃ b m, v = .ref b ∧ ∃ xs, iss[i]? = some xs ∧ IsL s.heap b xs.toArray m) ∧ Vals vss iss.flatten ∧ DqAll G vss dss.flatten
  | [], _, _, .nil, _ => ⟨[], [], rfl, fun i v h => by simp at h, .nil, .nil⟩
  | ds :: dss, _, _, .cons r t, .cons a b => by
    obtain ⟨iss, vss, e1, e2, e3, e4⟩ := lists_of I gh t b
    cases a with
    | @lst _ xs _ hp hd =>
      obtain ⟨z, its, n, rv, hl, e⟩ := I.lstM (gh _ _ hp)
      cases r
      refine ⟨its :: iss, xs ++ vss, by simp [e1], fun i v h => ?_, ?_, ?_⟩
      · cases i with
        | zero => simp at h; subst h; exact ⟨_, _, rfl, _, rfl, e⟩
        | succ i => simpa using e2 i v (by simpa using h)
      · exact rv.append e3
      · exact dpa_app hd e4
theorem cr_sumL (hc : X.calm = true) : CallR X (.builtin "sum") rSumL := by
  intro pins s σ H xs us Q I r h
  obtain ⟨p, q, vs, dss, G, gh, rfl, hp, hd, hne, hq, hz, k⟩ := h
  obtain ⟨u, u2, rfl, ru, ru2⟩ := vals2 r
  cases ru
  cases ru2
  obtain ⟨z, its, n, rv, hl, e⟩ := I.lstM hp
  obtain ⟨_, its2, n2, rv2, hl2, e2⟩ := I.lstM hq
  cases rv2
  obtain ⟨iss, vss, i1, i2, i3, i4⟩ := lists_of I gh rv hd
  have hlen : iss.flatten.length = dss.flatten.length := by rw [← i3.length, dpa_len i4]
  refine call_sumL (I.ok.hd hc) (IsL.isList e) e2 iss (fun z => ?_) i1 i2 (by rw [hlen]; exact hz) fun h' tk T m hk hT hl' => ?_
  · rw [z] at hl
    have := dpa_len hd
    rw [hl] at this
    simp at this
    exact hne (List.eq_nil_of_length_eq_zero this.symm)
  · exact ⟨.ref T, _, I.laid (o := .lst vss) (t' := tk) hk hT ⟨by rw [dpa_len i4]; exact hz, _, m, i3, hl'⟩, rfl, k _ _ (I.hok.fresh hT) i4⟩
end
section
variable {S : Stat} {Γ Γ1 Γ2 τ : List Sl} {a b : Expr} {pos p : Pos} {dss : List (List D)}
theorem ge_sumL (hg : GlB S "sum") (hm : S.mg "sum" = none) (ha : GE S a Γ τ Γ1 (.sh (.list (dss.map .list)))) (hb : GE S b Γ1 (.sh (.list (dss.map .list)) :: τ) Γ2 (.ol [])) (hne : dss ≠ []) (hz : dss.flatten.length ≤ 100000)
    (he : ∀ env, starEach [a, b] env = (false, eval a env) :: starEach [b] env) (he2 : ∀ env, starEach [b] env = (false, eval b env) :: starEach [] env) (hpl : ∀ env, (backTo pos (starEach [b] env)).any (·.1) = false) :
    GE S (.Call (.Name "sum" p) [a, b] [] pos) Γ τ Γ2 (.ol dss.flatten) := by
  refine ge_callB (fun X I => cr_sumL I.calm) hg hm (by decide +kernel) (ga_cons ha (ga_cons hb ga_nil he2) he) (ra2 fun F G0 G H σ ws w1 w2 wk Q q => ?_) (by decide) (by decide) he hpl
  have h1 := wk.drop.top_sh
  obtain ⟨O, A⟩ := id wk
  obtain ⟨p2, vs2, e2, hp2, B2⟩ := A.rdl A.ts.1 .ol
  cases B2
  subst e2
  cases h1 with
  | lst hp hd => exact ⟨_, p2, _, dss, G, A.gh, rfl, A.gh _ _ hp, hd, hne, hp2, sz_of' hz, fun l ys hl hy => q _ _ _ (wk.drop.drop.newL hl hy)⟩
end
end Lf
set_option maxHeartbeats 4000000
namespace Lf
open PySem L2 Evl
/-! ### defs told by hand, and the state of a law's draws -/
theorem fn_raw {P : Program} {w : World} {K : PySem.W.Frag} {mg : Str → Option Value} {base : Heap} {x qual : Str} {st : Stmt} {f : Addr} {fd : FuncData} {N ps : List Str} {k : Nat} {sp : Sp} (F : Fun K x qual st f fd) (hS : FnScope N ps (defScope st)) (hlen : ∀ vs H Q E, sp vs H Q E → vs.length = ps.length)
    {t : TS} (pt : ∀ X, (stOf P w K mg base N (defScope st) k).Is X → PSs X (defBody st) t) (et : ∀ H vs Q E, sp vs H Q E → t { nx := fun _ H' => Q .non H', rt := Q } (L2.start N vs) H) : FnOk P w K mg base CX0 (k + 1) f fd ps sp :=
  F.ok hS hlen fun cdv A outer s H vs Q E hr h => ⟨t, pt _ ⟨rfl, rfl, rfl, rfl, rfl, rfl, rfl, hS.kind, rfl, rfl, hr, rfl, hS.nd⟩, et H vs Q E h⟩
def kvD (l c : Addr) (r t : Int) : List (Key × V) := [(.inr "large", .ref l), (.inr "rest", .int r), (.inr "cells", .ref c), (.inr "turn", .int t)]
theorem kvD_large {l c : Addr} {r t : Int} : valV (kvD l c r t) (.inr "large") = some (.ref l) := rfl
theorem kvD_rest {l c : Addr} {r t : Int} : valV (kvD l c r t) (.inr "rest") = some (.int r) := rfl
theorem kvD_cells {l c : Addr} {r t : Int} : valV (kvD l c r t) (.inr "cells") = some (.ref c) := rfl
theorem kvD_turn {l c : Addr} {r t : Int} : valV (kvD l c r t) (.inr "turn") = some (.int t) := rfl
theorem kvD_rest' {l c : Addr} {r t r' : Int} : putK (kvD l c r t) (.inr "rest") (.int r') = kvD l c r' t := rfl
theorem kvD_turn' {l c : Addr} {r t t' : Int} : putK (kvD l c r t) (.inr "turn") (.int t') = kvD l c r t' := rfl
/-- all stands but what is at p -/
def But (p : Addr) (H H' : Hp) : Prop := ∀ a u, a ≠ p → H a = some u → H' a = some u
theorem But.refl {p : Addr} {H : Hp} : But p H H := fun _ _ _ h => h
theorem But.put {p : Addr} {H H' : Hp} {o : HO} (h : But p H H') : But p H (upd H' p o) := fun a u ha e => by rw [upd_ne ha]; exact h a u ha e
theorem But.new {p q : Addr} {H H' : Hp} {o : HO} (h : But p H H') (hq : H' q = none) : But p H (upd H' q o) := fun a u ha e => by
  have := h a u ha e
  rw [upd_ne (ne_of_none this hq)]
  exact this
def spMixed : Sp := fun vs H Q _ => ∃ (p l c : Addr) (r t : Int) (cs : List Int), vs = [.ref p] ∧ p ≠ c ∧ H p = some (.dK (kvD l c r t)) ∧ H c = some (.lst (cs.map V.int)) ∧
  ∀ n H', H' p = some (.dK (kvD l c r (t + 1))) → But p H H' → Q (.int n) H'
def spTake : Sp := fun vs H Q _ => ∃ (p l c : Addr) (r t m : Int) (lg cs : List Int), vs = [.ref p, .int m] ∧ 0 < m ∧ m < 1000000 ∧ p ≠ l ∧ p ≠ c ∧ l ≠ c ∧ H p = some (.dK (kvD l c r t)) ∧ H l = some (.lst (lg.map V.int)) ∧ H c = some (.lst (cs.map V.int)) ∧
  ∀ (n : Nat) (r' t' : Int) (lg' : List Int) H', (n : Int) < m → H' p = some (.dK (kvD l c r' t')) → H' l = some (.lst (lg'.map V.int)) → (∀ a u, a ≠ p → a ≠ l → H a = some u → H' a = some u) → Q (.int n) H'
/-- the state of the draws as a thing of its own -/
def RD : BR := fun w w' os => w' = w ∧ ∃ (p l c : Addr) (r t : Int) (lg cs : List Int), w' = .ref p ∧ p ≠ l ∧ p ≠ c ∧ l ≠ c ∧ os = [(p, .dK (kvD l c r t)), (l, .lst (lg.map V.int)), (c, .lst (cs.map V.int))]
theorem RD_w : ∀ w w' cs, RD w w' cs → w' = w := fun _ _ _ h => h.1
abbrev preTake (ds : List D) : Prop := ∃ m : Int, 0 < m ∧ m < 1000000 ∧ ds = [.int m]
abbrev postTake (ds : List D) (r : D) : Prop := ∃ (m : Int) (n : Nat), ds = [.int m] ∧ (n : Int) < m ∧ r = .int n
theorem take_blob {P : Program} {w : World} {K : PySem.W.Frag} {mg : Str → Option Value} {base : Heap} {f : Addr} {fd : FuncData} {ps : List Str} {k : Nat} (F : FnOk P w K mg base CX0 k f fd ps spTake) : FnOk P w K mg base CX0 k f fd ps (blobSp RD preTake postTake) := by
  refine F.imp fun vs H Q E ⟨G, w, us, ds, cs, e1, gh, B, ⟨m, h0, h1, e2⟩, ⟨_, p, l, c, r, t, lg, cl, ew, n1, n2, n3, ec⟩, hc, q⟩ => ?_
  subst e1 e2 ew ec
  cases B with
  | cons b1 b2 =>
    cases b1
    cases b2
    have hp := hc (p, .dK (kvD l c r t)) (by simp)
    have hl := hc (l, .lst (lg.map V.int)) (by simp)
    have hcc := hc (c, .lst (cl.map V.int)) (by simp)
    refine ⟨p, l, c, r, t, m, lg, cl, rfl, h0, h1, n1, n2, n3, hp.1, hl.1, hcc.1, fun n r' t' lg' H' hn hp' hl' hk => ?_⟩
    refine q (.int n) _ G H' [(p, .dK (kvD l c r' t')), (l, .lst (lg'.map V.int)), (c, .lst (cl.map V.int))] ⟨m, n, rfl, hn, rfl⟩ (Ex.refl _) (fun a u e => ?_) (fun a u e hn => ?_) (fun a h => .inl h) (.int _) ⟨rfl, p, l, c, r', t', lg', cl, rfl, n1, n2, n3, rfl⟩ (fun x hx => ?_)
    · have e' := gh a u e
      refine hk a u (fun z => ?_) (fun z => ?_) e'
      · rw [z, hp.2] at e; cases e
      · rw [z, hl.2] at e; cases e
    · exact hk a u (fun z => hn (by rw [z]; simp)) (fun z => hn (by rw [z]; simp)) e
    · simp only [List.mem_cons, List.not_mem_nil, or_false] at hx
      rcases hx with rfl | rfl | rfl
      · exact ⟨hp', .inl (by simp), hp.2⟩
      · exact ⟨hl', .inl (by simp), hl.2⟩
      · exact ⟨hk c _ (Ne.symm n2) (Ne.symm n3) hcc.1, .inl (by simp), hcc.2⟩
/-- a walk over ints that are read -/
theorem lc_raw {K : PySem.W.Frag} {te : TE} {tt : TT} {i j : Nat} {σ : L2.St} {H : Hp} {Q : VK} {a : Addr} {ns : List Int} {k : Int → Bool} {g : Int → Int} (hi : σ[i]? = some (some (.ref a))) (hs : SqL K H a (ns.map V.int)) (hl : ns.length < 100000)
    (hw : ∀ n : Int, wipe ((wipe σ [j]).set j (some (.int n))) [j] = wipe σ [j]) (ht : ∀ (n : Int) H' (R : Bool → Hp → Prop), R (k n) H' → tt ((wipe σ [j]).set j (some (.int n))) H' R) (he : ∀ (n : Int) H' (R : VK), R (.int (g n)) H' → te ((wipe σ [j]).set j (some (.int n))) H' R)
    (q : ∀ D, H D = none → Q (.ref D) (upd H D (.lst (((ns.filter k).map g).map V.int)))) : tLc (iList K (tVar i)) (gName j) tt te [j] σ H Q := by
  refine ⟨.ref a, hi, a, rfl, ⟨_, hs⟩, fun D hD => ?_⟩
  have keep : ∀ o, SqL K (upd H D o) a (ns.map V.int) := fun o => by
    rcases hs with h | h
    · refine .inl ?_
      rcases h with h | ⟨ob, h⟩
      · exact .inl (by rw [upd_ne (ne_of_none h hD)]; exact h)
      · exact .inr ⟨ob, by rw [upd_ne (ne_of_none h hD)]; exact h⟩
    · exact .inr h
  refine ⟨fun n m H' => m = ns.length - n ∧ n ≤ ns.length ∧ H' = upd H D (.lst ((((ns.take n).filter k).map g).map V.int)), ⟨ns.length, by simp, Nat.zero_le _, rfl⟩, ?_⟩
  rintro n m H' ⟨rfl, hn, rfl⟩
  by_cases hlt : n < ns.length
  · have hx : (ns.map V.int)[n]? = some (.int ns[n]) := by rw [List.getElem?_map, List.getElem?_eq_getElem hlt]; rfl
    refine .inr ⟨⟨_, _, keep _, hx⟩, fun H' => H' = upd H D (.lst ((((ns.take (n + 1)).filter k).map g).map V.int)), fun H' e => ⟨_, by omega, rfl, hlt, e⟩, fun x H' y => ?_⟩
    obtain ⟨e, y⟩ := y
    subst e
    obtain rfl : x = .int ns[n] := by
      have := y _ (keep _)
      rw [hx] at this
      exact (Option.some.inj this).symm
    have tk : ns.take (n + 1) = ns.take n ++ [ns[n]] := by rw [List.take_succ, List.getElem?_eq_getElem hlt]; rfl
    refine ⟨hw _, ht _ _ _ ?_⟩
    cases hk : k ns[n] with
    | true =>
      rw [if_pos rfl]
      refine he _ _ _ ⟨_, upd_same, ?_, ?_⟩
      · rw [List.length_map, List.length_map]
        exact Nat.lt_of_le_of_lt (List.length_filter_le _ _) (Nat.lt_of_le_of_lt (by rw [List.length_take]; exact Nat.min_le_right _ _) (Nat.lt_of_lt_of_le hl (by decide)))
      · rw [tk, List.filter_append, List.filter_cons, hk, List.map_append, List.map_append]
        funext b
        by_cases e : b = D
        · subst e; rw [upd_same, upd_same]; rfl
        · rw [upd_ne e, upd_ne e, upd_ne e]
    | false =>
      rw [if_neg (by simp)]
      rw [tk, List.filter_append, List.filter_cons, hk]
      simp
  · refine .inl ⟨⟨_, keep _, by simp; omega⟩, ?_⟩
    rw [List.take_of_length_le (by omega)]
    exact q D hD
def spBegun (K : PySem.W.Frag) : Sp := fun vs H Q _ => ∃ (a : Addr) (ns : List Int), vs = [.ref a] ∧ SqL K H a (ns.map V.int) ∧ ns.length ≤ 63 ∧
  ∀ (p l c : Addr) (lg cs : List Int) H', Ex H H' → H p = none → H l = none → H c = none → p ≠ l → p ≠ c → l ≠ c → H' p = some (.dK (kvD l c 0 0)) → H' l = some (.lst (lg.map V.int)) → H' c = some (.lst (cs.map V.int)) → Q (.ref p) H'
end Lf
set_option maxHeartbeats 4000000
namespace Lf
open PySem L2 Evl
/-! ### what is told by a word, inside of other things -/
section
variable {S : Stat} {Γ Γ1 Γ2 τ : List Sl} {s s1 s2 : Sl} {a b e : Expr} {es : List Expr} {pos p p2 px py : Pos} {d : D} {ds : List D} {i j k : Nat} {x y : Str} {E : Endv} {P : Sl → Prop}
def XA (K : PySem.W.Frag) (ta : TA) (Γ τ Γ' : List Sl) (P : List Sl → Prop) : Prop :=
  ∀ F G0 G H σ ws, Wk K F G0 Γ τ G H σ ws → ∀ Q : List V → Hp → Prop, (∀ ss vs G' H', P ss → vs.length = ss.length → Wk K F G0 Γ' (ss.reverse ++ τ) G' H' σ (vs.reverse ++ ws) → Q vs H') → ta σ H Q
def GAX (S : Stat) (es : List Expr) (Γ τ Γ' : List Sl) (P : List Sl → Prop) : Prop := ∃ ta, (∀ X, S.Is X → PA X es ta) ∧ XA S.K ta Γ τ Γ' P
def wpA (S : Stat) (es : List Expr) : TA := fun σ H Q => ∀ X, S.Is X → ∀ pos pins s, Inv X pins σ H s → wpAny (model X.prog X.w) X.A (spliced (backTo pos (starEach es X.env))) (fun us s' => ∃ vs H', Inv X pins σ H' s' ∧ Vals vs us ∧ Q vs H') X.xe s
theorem pa_can {X : Cx} (I : S.Is X) : PA X es (wpA S es) := ⟨fun pos pins s _ _ _ J h => h X I pos pins s J⟩
theorem GAX.can {P : List Sl → Prop} (h : GAX S es Γ τ Γ1 P) : XA S.K (wpA S es) Γ τ Γ1 P := by
  obtain ⟨ta, pa, ea⟩ := h
  exact fun F G0 G H σ ws wk Q q X I pos pins s J => (pa X I).run pos pins s σ H Q J (ea F G0 G H σ ws wk Q q)
theorem GAX.imp {P P' : List Sl → Prop} (h : GAX S es Γ τ Γ1 P) (hi : ∀ ss, P ss → P' ss) : GAX S es Γ τ Γ1 P' := by
  obtain ⟨ta, pa, ea⟩ := h
  exact ⟨ta, pa, fun F G0 G H σ ws wk Q q => ea F G0 G H σ ws wk Q fun ss vs G' H' hp => q ss vs G' H' (hi ss hp)⟩
theorem GA.toX {ss : List Sl} (h : GA S es Γ τ Γ1 ss) : GAX S es Γ τ Γ1 (fun ss' => ss' = ss) := by
  obtain ⟨ta, pa, ea⟩ := h
  exact ⟨ta, pa, fun F G0 G H σ ws wk Q q => ea F G0 G H σ ws wk Q fun vs G' H' hl wk' => q ss vs G' H' rfl hl wk'⟩
theorem gax_nil : GAX S [] Γ τ Γ (fun ss => ss = []) := GA.toX ga_nil
theorem gax_cons {P2 : Sl → List Sl → Prop} (he : GX S e Γ τ Γ1 P) (hr : ∀ s, P s → GAX S es Γ1 (s :: τ) Γ2 (P2 s)) (hs : ∀ env, starEach (e :: es) env = (false, eval e env) :: starEach es env) : GAX S (e :: es) Γ τ Γ2 (fun ss => ∃ s ss', ss = s :: ss' ∧ P s ∧ P2 s ss') := by
  obtain ⟨te, pe, ee⟩ := he
  refine ⟨tCons te (wpA S es), fun X I => pa_cons (pe X I) (pa_can I) (hs _), fun F G0 G H σ ws wk Q q => ee F G0 G H σ ws wk _ fun s w1 G1 H1 hp wk1 => (hr s hp).can F G0 G1 H1 σ _ wk1 _ fun ss vs G2 H2 hp2 hl wk2 => q (s :: ss) _ G2 H2 ⟨s, ss, rfl, hp, hp2⟩ (by simp [hl]) ?_⟩
  simpa [List.reverse_cons, List.append_assoc] using wk2
theorem gx_lst {Pa : List Sl → Prop} (h : GAX S es Γ τ Γ1 Pa) (hd : ∀ ss, Pa ss → ∃ ds : List D, ss = ds.map Sl.sh ∧ ds.length ≤ 100000) : GX S (.List es pos) Γ τ Γ1 (fun s => ∃ ds : List D, s = .ol ds ∧ Pa (ds.map Sl.sh)) := by
  obtain ⟨ta, pa, ea⟩ := h
  refine ⟨tLst ta, fun X I => pe_lst (pa X I), fun F G0 G H σ ws wk Q q => ea F G0 G H σ ws wk _ fun ss vs G1 H1 hp hl' wk1 => ?_⟩
  obtain ⟨ds, rfl, hl⟩ := hd ss hp
  obtain ⟨B, wk2⟩ := wk1.args_sh hl'
  exact ⟨sz_of' (by rw [dpa_len B]; exact hl), fun p hpn => q _ _ _ _ ⟨ds, rfl, hp⟩ (wk2.newL hpn B)⟩
theorem gx_bin {op : Operator} {P2 : Sl → Sl → Prop} {P' : Sl → Prop} {r : R2} (ho : ∀ X, S.Is X → OpR X (binaryOp op) r) (ha : GX S a Γ τ Γ1 P) (hb : ∀ s, P s → GX S b Γ1 (s :: τ) Γ2 (P2 s)) (hr : ∀ s1 s2, P s1 → P2 s1 s2 → ∃ s, P' s ∧ RR S.K r Γ2 τ s1 s2 Γ2 s) : GX S (.BinOp a op b pos) Γ τ Γ2 P' := by
  obtain ⟨ta, pa, ea⟩ := ha
  refine ⟨tOp r ta (wpE S b), fun X I => pe_op (ho X I) (pa X I) (pe_can I), fun F G0 G H σ ws wk Q q => ea F G0 G H σ ws wk _ fun s1 w1 G1 H1 h1 wk1 => (hb s1 h1).can F G0 G1 H1 σ _ wk1 _ fun s2 w2 G2 H2 h2 wk2 => ?_⟩
  obtain ⟨s, hs, rr⟩ := hr s1 s2 h1 h2
  exact rr F G0 G2 H2 σ ws w1 w2 wk2 Q fun w G' H' wk' => q s w G' H' hs wk'
theorem gx_ixL {P' : Sl → Prop} (ha : GE S a Γ τ Γ1 s1) (hb : GX S b Γ1 (s1 :: τ) Γ2 P) (hr : RdL Γ2 s1 ds) (hd : ∀ s, P s → ∃ i d, s = .sh (.int i) ∧ atI ds i = some d ∧ P' (.sh d)) (hp : PlainIx b) : GX S (.Subscript a b pos) Γ τ Γ2 P' := by
  obtain ⟨ta, pa, ea⟩ := ha
  obtain ⟨tb, pb, eb⟩ := hb
  refine ⟨tOp (rIxL S.K) ta tb, fun X I => by rw [← I.K]; exact pe_ix ix_list (pa X I) (pb X I) hp, fun F G0 G H σ ws wk Q q => ea F G0 G H σ ws wk _ fun w1 G1 H1 wk1 => eb F G0 G1 H1 σ _ wk1 _ fun s w2 G2 H2 hs wk2 => ?_⟩
  obtain ⟨i, d, rfl, hd, hp'⟩ := hd s hs
  obtain ⟨O, A⟩ := id wk2
  obtain ⟨p, vs, e, hq, B⟩ := A.rdl A.ts.2.1 hr
  obtain ⟨v, hv, hvd⟩ := atI_dp B hd
  have hi := wk2.top_sh
  cases hi
  exact ⟨p, vs, i, v, e, rfl, sq_of hq, hv, q _ v G2 H2 hp' (wk2.drop.drop.sh hvd)⟩
theorem gx_callBI {id : String} {r : List V → Hp → VK → Prop} {Pa : List Sl → Prop} {P' : Sl → Prop} (hc : ∀ X, S.Is X → CallR X (.builtin id) r) (hg : GlB S x) (hm : S.mg x = none) (hv : bootBuiltins x = some (.builtin id)) (ha : GAX S (e :: es) Γ τ Γ1 Pa) (hr : ∀ ss, Pa ss → ∃ s, P' s ∧ RA S.K r Γ1 τ ss Γ1 s)
    (hn : x ≠ "__name__") (hdb : (x == ("__debug__" : Str)) = false) (he : ∀ env, starEach (e :: es) env = (false, eval e env) :: starEach es env) (hpl : ∀ env, (backTo pos (starEach es env)).any (·.1) = false) : GX S (.Call (.Name x p) (e :: es) [] pos) Γ τ Γ1 P' := by
  obtain ⟨ta, pa, ea⟩ := ha
  refine ⟨tCB r ta, fun X I => pe_callB (hc X I) (I.gl hg) (by rw [I.mg]; exact hm) hv (pa X I) hn hdb (he _) (hpl _), fun F G0 G H σ ws wk Q q => ea F G0 G H σ ws wk _ fun ss vs G1 H1 hp hl wk1 => ?_⟩
  obtain ⟨s, hs, ra⟩ := hr ss hp
  exact ra F G0 G1 H1 σ ws vs hl wk1 Q fun w G' H' wk' => q s w G' H' hs wk'
theorem gx_callTI {T : String} {r : List V → Hp → VK → Prop} {Pa : List Sl → Prop} {P' : Sl → Prop} (hc : ∀ X, S.Is X → CallR X (.type T) r) (hg : GlB S x) (hm : S.mg x = none) (hv : bootBuiltins x = some (.type T)) (ha : GAX S (e :: es) Γ τ Γ1 Pa) (hr : ∀ ss, Pa ss → ∃ s, P' s ∧ RA S.K r Γ1 τ ss Γ1 s)
    (hn : x ≠ "__name__") (hdb : (x == ("__debug__" : Str)) = false) (he : ∀ env, starEach (e :: es) env = (false, eval e env) :: starEach es env) (hpl : ∀ env, (backTo pos (starEach es env)).any (·.1) = false) : GX S (.Call (.Name x p) (e :: es) [] pos) Γ τ Γ1 P' := by
  obtain ⟨ta, pa, ea⟩ := ha
  refine ⟨tCB r ta, fun X I => pe_callTy (hc X I) (I.gl hg) (by rw [I.mg]; exact hm) hv (pa X I) hn hdb (he _) (hpl _), fun F G0 G H σ ws wk Q q => ea F G0 G H σ ws wk _ fun ss vs G1 H1 hp hl wk1 => ?_⟩
  obtain ⟨s, hs, ra⟩ := hr ss hp
  exact ra F G0 G1 H1 σ ws vs hl wk1 Q fun w G' H' wk' => q s w G' H' hs wk'
theorem gs_appX {apos : Pos} {ds0 : List D} (ho : GE S a Γ [] Γ (.bo i)) (hi0 : Γ[i]? = some (.ol ds0)) (he : GY S e Γ [.bo i] P2) (hi : ∀ Γ1 s, P2 Γ1 s → ∃ ds d, s = .sh d ∧ Γ1[i]? = some (.ol ds) ∧ ds.length < 100000 ∧ E.nx (Γ1.set i (.ol (ds ++ [d]))))
    (hb : ∀ X, S.Is X → attributeBase a "append" X.env (eval a X.env) = eval a X.env) (hline : (apos.endLine == p.line) = true) (hs : ∀ env, starEach (e :: []) env = (false, eval e env) :: starEach [] env) :
    GS S (.Expr (.Call (.Attribute a "append" apos) [e] [] p) pos) Γ E := by
  obtain ⟨ta, pa, ea⟩ := ho
  obtain ⟨te, pe, ee⟩ := he
  refine ⟨tDrop (tBM S.K "list" rAppend ta (tCons te tNil)), fun X I => ?_, fun F G0 G H σ wk D K => ea F G0 G H σ [] wk _ fun w G1 H1 wk1 => ?_⟩
  · rw [← I.K]
    refine ps_expr (pe_bm PySem.F.plainAttrs_list PySem.F.slot_list_append PySem.F.type_list_append mt_append (pa X I) (pa_cons (pe X I) pa_nil (hs _)) (hb X I) ?_ hline (hs _) rfl) rfl
    rw [hs]
    rfl
  · obtain ⟨O, A⟩ := id wk1
    have hw := A.ts.1.2
    refine ⟨?_, ee F G0 G1 H1 σ _ wk1 _ fun Γ1 s w2 G2 H2 hp2 wk2 => ?_⟩
    · obtain ⟨p, vs, e, _, hp, B⟩ := A.own_ol A.ts.1 hi0
      subst e
      exact .inl ⟨rfl, vs, sq_of hp⟩
    · obtain ⟨ds, d, rfl, hi, hl, k⟩ := hi Γ1 s hp2
      obtain ⟨p, vs, e, hp, B, kk⟩ := wk2.drop.drop.chg_ol (ds' := ds ++ [d]) (fun _ h => nomatch h) hw hi
      exact ⟨p, vs, w2, e, rfl, hp, sz_lt (by rw [dpa_len B]; exact hl), K.nx _ _ _ _ k (kk _ (dpa_app B (.cons wk2.top_sh .nil)))⟩
theorem GX.toY (h : GX S e Γ τ Γ1 P) : GY S e Γ τ (fun Γ' s => Γ' = Γ1 ∧ P s) := by
  obtain ⟨te, pe, ee⟩ := h
  exact ⟨te, pe, fun F G0 G H σ ws wk Q q => ee F G0 G H σ ws wk Q fun s w G' H' hs wk' => q Γ1 s w G' H' ⟨rfl, hs⟩ wk'⟩
theorem gs_par2X {Pa : List Sl → Prop} {kt k2 : Nat} {pt pt2 : Pos} (hNi : S.N[i]? = some x) (hNj : S.N[j]? = some y) (hij : i ≠ j) (hx : LocS S x) (hy : LocS S y) (ha : GAX S [a, b] Γ [] Γ1 Pa) (hi : i < Γ1.length) (hj : j < Γ1.length)
    (k : ∀ ss, Pa ss → ∃ s1 s2, ss = [s1, s2] ∧ sto s1 = true ∧ sto s2 = true ∧ E.nx ((Γ1.set i s1).set j s2))
    (hsw : (S.names.lookup x = some .local ∧ S.names.lookup y = some .local ∧ ∀ X, S.Is X → swappedStores [.Tuple [.Name x px, .Name y py] kt pt] (.Tuple [a, b] k2 pt2) X.env = pure (some [x, y])) ∨ ∀ X, S.Is X → swappedStores [.Tuple [.Name x px, .Name y py] kt pt] (.Tuple [a, b] k2 pt2) X.env = pure none) :
    GS S (.Assign [.Tuple [.Name x px, .Name y py] kt pt] (.Tuple [a, b] k2 pt2) pos) Γ E := by
  obtain ⟨ta, pa, ea⟩ := ha
  have fin : ∀ {s1 s2 : Sl}, sto s1 = true → sto s2 = true → ∀ {F G0 G H : Hp} {σ : L2.St} {w1 w2 : V}, Wk S.K F G0 Γ1 [s2, s1] G H σ [w2, w1] → Wk S.K F G0 ((Γ1.set i s1).set j s2) [] G H ((σ.set i (some w1)).set j (some w2)) [] := fun {s1 s2} hs1 hs2 {F G0 G H σ w1 w2} wk => by
    rw [List.set_comm _ _ hij, List.set_comm (some w1) (some w2) hij]
    exact (wk.storeT hs2 (nb1 hs1) hj).storeT hs1 (fun _ h => nomatch h) (by simpa using hi)
  have two : ∀ {F G0 G H : Hp} {σ : L2.St}, Wk S.K F G0 Γ [] G H σ [] → ∀ {Q : List V → Hp → Prop}, (∀ s1 s2 w1 w2 G' H', sto s1 = true → sto s2 = true → E.nx ((Γ1.set i s1).set j s2) → Wk S.K F G0 Γ1 [s2, s1] G' H' σ [w2, w1] → Q [w1, w2] H') → ta σ H Q := fun {F G0 G H σ} wk {Q} q =>
    ea F G0 G H σ [] wk Q fun ss vs G' H' hp hl wk' => by
      obtain ⟨s1, s2, rfl, h1, h2, hk⟩ := k ss hp
      match vs, hl with
      | [w1, w2], _ => exact q s1 s2 w1 w2 G' H' h1 h2 hk wk'
  rcases hsw with ⟨lx, ly, hsw⟩ | hsw
  · refine ⟨tPar i j ta, fun X I => ps_par I.calm I.nd' (by rw [I.N]; exact hNi) (by rw [I.N]; exact hNj) hij (by rw [I.names]; exact lx) (by rw [I.names]; exact ly) (pa X I) (hsw X I), fun F G0 G H σ wk D K => two wk fun s1 s2 w1 w2 G1 H1 h1 h2 hk wk1 => ⟨w1, w2, rfl, K.nx _ G1 H1 _ hk (fin h1 h2 wk1)⟩⟩
  · refine ⟨tAsg (tTup ta) (gTup S.K 2 (gCons (gName i) (gCons (gName j) gNil))), fun X I => ?_, fun F G0 G H σ wk D K => two wk fun s1 s2 w1 w2 G1 H1 h1 h2 hk wk1 => ⟨by show 2 ≤ sizeLine; decide, fun pn hpn => ?_⟩⟩
    · rw [← I.K]
      exact ps_asg (pe_tup (pa X I)) (pg_tup I.calm (pgs_cons (pg_name I.nd' (by rw [I.N]; exact hNi) (hx.loc I) (hx.fn I)) (pgs_cons (pg_name I.nd' (by rw [I.N]; exact hNj) (hy.loc I) (hy.fn I)) pgs_nil))) rfl (hsw X I)
    · exact ⟨pn, [w1, w2], rfl, st_of upd_same, rfl, w1, [w2], rfl, w2, [], rfl, rfl, K.nx _ _ _ _ hk (fin h1 h2 (wk1.ground hpn _))⟩
end
section
variable {S : Stat} {Γ Γ1 Γ2 Γ3 τ : List Sl} {a b c e : Expr} {pos p : Pos} {P P' : Sl → Prop}
theorem gax_one (he : GX S e Γ τ Γ1 P) (hs : ∀ env, starEach [e] env = (false, eval e env) :: starEach [] env) : GAX S [e] Γ τ Γ1 (fun ss => ∃ s, ss = [s] ∧ P s) :=
  (gax_cons (P2 := fun _ ss => ss = []) he (fun _ _ => gax_nil) hs).imp fun ss ⟨s, ss', e1, hs, e2⟩ => ⟨s, by rw [e1, e2], hs⟩
theorem gax_two {P2 : Sl → Sl → Prop} (ha : GX S a Γ τ Γ1 P) (hb : ∀ s, P s → GX S b Γ1 (s :: τ) Γ2 (P2 s)) (hs : ∀ env, starEach [a, b] env = (false, eval a env) :: starEach [b] env) (hs2 : ∀ env, starEach [b] env = (false, eval b env) :: starEach [] env) : GAX S [a, b] Γ τ Γ2 (fun ss => ∃ s1 s2, ss = [s1, s2] ∧ P s1 ∧ P2 s1 s2) :=
  (gax_cons (P2 := fun s ss => ∃ s2, ss = [s2] ∧ P2 s s2) ha (fun s h => gax_one (hb s h) hs2) hs).imp fun ss ⟨s, ss', e1, hs, s2, e2, h2⟩ => ⟨s, s2, by rw [e1, e2], hs, h2⟩
theorem gx_sorted (hg : GlB S "sorted") (hm : S.mg "sorted" = none) (ha : GX S e Γ τ Γ1 P) (hP : ∀ s, P s → ∃ ds, RdS Γ1 s ds ∧ PySem.W.AllAlike ds ∧ PySem.W.Sortable ds ∧ (∀ d, d ∈ ds → d.depth ≤ 40) ∧ P' (.ol (ds.mergeSort (PySem.W.dataLe false id)))) (he : ∀ env, starEach [e] env = (false, eval e env) :: starEach [] env) :
    GX S (.Call (.Name "sorted" p) [e] [] pos) Γ τ Γ1 P' :=
  gx_callBI (r := rSortD) (fun X I => cr_sortD I.hu) hg hm (by decide +kernel) (gax_one ha he) (fun ss ⟨s, e1, hs⟩ => by
    subst e1
    obtain ⟨ds, r, h1, h2, h3, h4⟩ := hP s hs
    refine ⟨_, h4, ra1 fun F G0 G H σ ws w wk Q q => ?_⟩
    obtain ⟨O, A⟩ := id wk
    obtain ⟨p, vs, e, hp, B⟩ := A.rdh A.ts.1 r
    subst e
    exact ⟨p, vs, ds, G, wk.gh, rfl, hp, B, h1, h2, h3, fun l ys hl hys => q _ _ _ (wk.drop.newL hl hys)⟩) (by decide) (by decide) he (fun _ => rfl)
theorem gx_tupleL (hg : GlB S "tuple") (hm : S.mg "tuple" = none) (ha : GX S e Γ τ Γ1 P) (hP : ∀ s, P s → ∃ ds, RdL Γ1 s ds ∧ P' (.sh (.tuple ds))) (he : ∀ env, starEach [e] env = (false, eval e env) :: starEach [] env) : GX S (.Call (.Name "tuple" p) [e] [] pos) Γ τ Γ1 P' :=
  gx_callTI (r := fun xs H Q => ∃ p ys, xs = [.ref p] ∧ ((SqL S.K H p ys ∧ ∀ l, H l = none → Q (.ref l) (upd H l (.tup ys))) ∨ (SqT S.K H p ys ∧ Q (.ref p) H))) (fun X I => by rw [← I.K]; exact call_tuple_of) hg hm (by decide +kernel) (gax_one ha he) (fun ss ⟨s, e1, hs⟩ => by
    subst e1
    obtain ⟨ds, r, h4⟩ := hP s hs
    refine ⟨_, h4, ra1 fun F G0 G H σ ws w wk Q q => ?_⟩
    obtain ⟨O, A⟩ := id wk
    obtain ⟨p, vs, e, hp, B⟩ := A.rdl A.ts.1 r
    subst e
    exact ⟨p, vs, rfl, .inl ⟨sq_of hp, fun l hl => q _ _ _ (wk.drop.newT hl B)⟩⟩) (by decide) (by decide) he (fun _ => rfl)
theorem gx_listL (hg : GlB S "list") (hm : S.mg "list" = none) (ha : GX S e Γ τ Γ1 P) (hP : ∀ s, P s → ∃ ds, RdS Γ1 s ds ∧ P' (.ol ds)) (he : ∀ env, starEach [e] env = (false, eval e env) :: starEach [] env) : GX S (.Call (.Name "list" p) [e] [] pos) Γ τ Γ1 P' :=
  gx_callTI (r := fun xs H Q => ∃ p ys, xs = [.ref p] ∧ (SqL S.K H p ys ∨ SqT S.K H p ys) ∧ ∀ l, H l = none → Q (.ref l) (upd H l (.lst ys))) (fun X I => by rw [← I.K]; exact call_list_of) hg hm (by decide +kernel) (gax_one ha he) (fun ss ⟨s, e1, hs⟩ => by
    subst e1
    obtain ⟨ds, r, h4⟩ := hP s hs
    refine ⟨_, h4, ra1 fun F G0 G H σ ws w wk Q q => ?_⟩
    obtain ⟨O, A⟩ := id wk
    obtain ⟨p, vs, e, hp, B⟩ := A.rdh A.ts.1 r
    subst e
    exact ⟨p, vs, rfl, hp.imp sq_of st_of, fun l hl => q _ _ _ (wk.drop.newL hl B)⟩) (by decide) (by decide) he (fun _ => rfl)
/-- a test told by a word -/
theorem gx_addI {P2 : Sl → Prop} {Q2 : Sl → Prop} (ha : GX S a Γ τ Γ1 P) (hb : ∀ s, P s → GX S b Γ1 (s :: τ) Γ2 P2) (h : ∀ s1 s2, P s1 → P2 s2 → ∃ i j : Int, s1 = .sh (.int i) ∧ s2 = .sh (.int j) ∧ Q2 (.sh (.int (i + j)))) : GX S (.BinOp a .Add b pos) Γ τ Γ2 Q2 :=
  gx_bin (P2 := fun _ => P2) (r := rI0 fun i j => .int (i + j)) (fun X I => op_add) ha hb fun s1 s2 h1 h2 => by
    obtain ⟨i, j, rfl, rfl, k⟩ := h s1 s2 h1 h2
    exact ⟨_, k, rr_int0 fun _ => .int _⟩
theorem gx_subI {P2 : Sl → Prop} {Q2 : Sl → Prop} (ha : GX S a Γ τ Γ1 P) (hb : ∀ s, P s → GX S b Γ1 (s :: τ) Γ2 P2) (h : ∀ s1 s2, P s1 → P2 s2 → ∃ i j : Int, s1 = .sh (.int i) ∧ s2 = .sh (.int j) ∧ Q2 (.sh (.int (i - j)))) : GX S (.BinOp a .Sub b pos) Γ τ Γ2 Q2 :=
  gx_bin (P2 := fun _ => P2) (r := rI0 fun i j => .int (i - j)) (fun X I => op_sub) ha hb fun s1 s2 h1 h2 => by
    obtain ⟨i, j, rfl, rfl, k⟩ := h s1 s2 h1 h2
    exact ⟨_, k, rr_int0 fun _ => .int _⟩
theorem gx_modI {P2 : Sl → Prop} {Q2 : Sl → Prop} (ha : GX S a Γ τ Γ1 P) (hb : ∀ s, P s → GX S b Γ1 (s :: τ) Γ2 P2) (h : ∀ s1 s2, P s1 → P2 s2 → ∃ i j : Int, s1 = .sh (.int i) ∧ s2 = .sh (.int j) ∧ j ≠ 0 ∧ Q2 (.sh (.int (i.fmod j)))) : GX S (.BinOp a .Mod b pos) Γ τ Γ2 Q2 :=
  gx_bin (P2 := fun _ => P2) (r := rI (fun _ j => j ≠ 0) fun i j => .int (i.fmod j)) (fun X I => op_modN) ha hb fun s1 s2 h1 h2 => by
    obtain ⟨i, j, rfl, rfl, hj, k⟩ := h s1 s2 h1 h2
    exact ⟨_, k, rr_int hj fun _ => .int _⟩
theorem gx_if {k : Bool} (hc : GT S c Γ τ Γ1 k) (ha : k = true → GX S a Γ1 τ Γ2 P) (hb : k = false → GX S b Γ1 τ Γ2 P) : GX S (.IfExp c a b pos) Γ τ Γ2 P := by
  obtain ⟨tc, pc, ec⟩ := hc
  refine ⟨tIf tc (wpE S a) (wpE S b), fun X I => pe_ifExp (pc X I) (pe_can I) (pe_can I), fun F G0 G H σ ws wk Q q => ec F G0 G H σ ws wk _ fun G1 H1 wk1 => ?_⟩
  cases k with
  | true => rw [if_pos rfl]; exact (ha rfl).can F G0 G1 H1 σ ws wk1 Q q
  | false => rw [if_neg (by simp)]; exact (hb rfl).can F G0 G1 H1 σ ws wk1 Q q
end
/-- targets of any form, what is told by a word -/
def wpG (S : Stat) (tg : Expr) : TG := fun v σ H Q => ∀ X, S.Is X → ∀ pins s u, Inv X pins σ H s → RelV v u → wpAny (model X.prog X.w) X.A (assign tg X.env u) (fun _ s' => ∃ σ' H', Inv X pins σ' H' s' ∧ Q σ' H') X.xe s
theorem pg_can {S : Stat} {tg : Expr} {X : Cx} (I : S.Is X) : PG X tg (wpG S tg) := ⟨fun pins s _ _ _ u _ J r h => h X I pins s u J r⟩
theorem gs_asgTXg {S : Stat} {Γ Γ1 : List Sl} {e tg : Expr} {pos : Pos} {P : Sl → Prop} {E : Endv} (he : GX S e Γ [] Γ1 P) (ht : ∀ s, P s → ∃ d Γ2, s = .sh d ∧ TgG S tg Γ1 d Γ2 ∧ E.nx Γ2)
    (hs : ∀ X, S.Is X → swapsWithSole [tg] e pos.line X.env = pure false) (hw : ∀ X, S.Is X → swappedStores [tg] e X.env = pure none) (h1 : ∀ env, (assignEach [tg] env).map (·.2) = [assign tg env]) : GS S (.Assign [tg] e pos) Γ E := by
  obtain ⟨te, pe, ee⟩ := he
  refine ⟨tAsg te (wpG S tg), fun X I => ps_asg (pe X I) (pg_can I) (hs X I) (hw X I) (h1 _), fun F G0 G H σ wk D K => ee F G0 G H σ [] wk _ fun s w G1 H1 hs wk1 => ?_⟩
  obtain ⟨d, Γ2, rfl, ⟨g, pg, eg⟩, k⟩ := ht s hs
  exact fun X I pins st u J r => (pg X I).run pins st σ H1 w u _ J r (eg F G0 G1 H1 σ w [] [] (fun _ h => nomatch h) wk1 _ fun σ' G' H' wk' => K.nx _ G' H' _ k wk')
theorem gx_callBX {S : Stat} {Γ Γ1 τ : List Sl} {a : Expr} {es : List Expr} {pos p2 : Pos} {x : Str} {k i : Nat} {R : BR} {Pa : List Sl → Prop} {Pre : List D → Prop} {Post : List D → D → Prop} {w0 : V} (Fn : FnS S.P S.w S.K S.mg S.base x k (blobSp R Pre Post)) (hRw : ∀ w w' cs, R w w' cs → w' = w) (hk : k ≤ S.k) (hg : GlB S x)
    (ho : GE S a Γ τ Γ (.bo i)) (ha : GAX S es Γ (.bo i :: τ) Γ1 Pa) (hi : Γ1[i]? = some (.ob (R w0))) (hn : NI τ) (hp : ∀ ss, Pa ss → ∃ ds : List D, ss = ds.map Sl.sh ∧ Pre ds)
    (hdb : (x == ("__debug__" : Str)) = false) (he : ∀ env, starEach (a :: es) env = (false, eval a env) :: starEach es env) (hpl : ∀ env, (backTo pos (starEach es env)).any (·.1) = false) :
    GX S (.Call (.Name x p2) (a :: es) [] pos) Γ τ Γ1 (fun s => ∃ ds r, s = .sh r ∧ Pa (ds.map Sl.sh) ∧ Post ds r) := by
  obtain ⟨ta, pa, ea⟩ := gax_cons (P2 := fun _ => Pa) ho.toX (fun s hs => by subst hs; exact ha) he
  obtain ⟨f, fd, ps, hm, hkp, hb, F⟩ := Fn
  refine ⟨tCall (blobSp R Pre Post) [] E0 ta, fun X I => ?_, fun F G0 G H σ ws wk Q q => ea F G0 G H σ ws wk _ fun ss vs G1 H1 hpa hl wk1 => ?_⟩
  · rw [← I.prog, ← I.w, ← I.K, ← I.mg, ← I.base] at F
    exact pe_call F (I.room.mono hk) (I.gl hg) (by rw [I.mg]; exact hm) (by rw [I.K]; exact hkp) (by rw [I.K]; exact hb) .nil pass0 (pa X I) hdb (he _) (hpl _)
  · rw [List.append_nil]
    obtain ⟨_, ss', rfl, rfl, hpa⟩ := hpa
    obtain ⟨ds, rfl, hp⟩ := hp ss' hpa
    cases vs with
    | nil => simp at hl
    | cons v0 us =>
      have hl' : us.length = (ds.map Sl.sh).length := by simpa using hl
      have wk1' : Wk S.K F G0 Γ1 ((ds.map Sl.sh).reverse ++ (.bo i :: τ)) G1 H1 σ (us.reverse ++ (v0 :: ws)) := by
        simpa using wk1
      obtain ⟨B, wk2⟩ := wk1'.args_sh hl'
      obtain ⟨O, A⟩ := wk2
      have hw := A.ts.1.2
      have hi1 : i < Γ1.length := (List.getElem?_eq_some_iff.mp hi).1
      rcases A.sl i _ hi with z | ⟨w', e', cs, hcs, hR⟩
      · cases z
      · rw [hw] at e'; cases e'
        have := hRw _ _ _ hR
        subst this
        refine ⟨G1, v0, us, ds, cs, rfl, A.gh, B, hp, hR, fun c hc => ⟨(hcs c hc).2, (A.own c.1 (by rw [(hcs c hc).1]; simp)).1⟩, fun r v G' H' cs' hpost g1 g2 g3 g4 hd hR' hcs' => q (.sh r) v G' H' ⟨ds, r, rfl, hpa, hpost⟩ ?_⟩
        -- owners behind the call
        have oldO : ∀ b, O b ≠ none → O b ≠ some (.inl i) → b ∉ cs.map (·.1) := fun b hb hbi hm => by
          obtain ⟨c, h1, h2⟩ := List.mem_map.mp hm
          rw [← h2] at hbi
          exact hbi (hcs c h1).1
        have wkO : Wk S.K F G0 Γ1 τ G' H' σ ws := by
          let O' : Own := fun b => open Classical in if b ∈ cs'.map (·.1) then some (.inl i) else if O b = some (.inl i) then none else if H1 b = none then none else O b
          have newO : ∀ c, c ∈ cs' → O' c.1 = some (.inl i) := fun c hc => if_pos (List.mem_map.mpr ⟨c, hc, rfl⟩)
          have keep : ∀ b id, O b = some id → id ≠ .inl i → H1 b ≠ none → O' b = some id ∧ H' b = H1 b := fun b id hb hid hH => by
            have hnc : b ∉ cs.map (·.1) := oldO b (by rw [hb]; simp) (by rw [hb]; intro z; exact hid (Option.some.inj z))
            have hnc' : b ∉ cs'.map (·.1) := fun hm => by
              obtain ⟨c, h1, h2⟩ := List.mem_map.mp hm
              obtain ⟨_, h4, _⟩ := hcs' c h1
              rw [h2] at h4
              rcases h4 with z | z
              · exact hnc z
              · exact hH z
            refine ⟨?_, ?_⟩
            · show (if _ then _ else if _ then _ else if _ then _ else _) = _
              rw [if_neg hnc', if_neg (by rw [hb]; intro z; exact hid (Option.some.inj z)), if_neg hH, hb]
            · cases e : H1 b with
              | none => exact absurd e hH
              | some u => exact g3 b u e hnc
          have ext : Ex G1 G' := g1
          have okts : ∀ {ws : List V} {τ : List Sl}, NI τ → OkTs S.K G1 H1 σ O ws τ → OkTs S.K G' H' σ O' ws τ := by
            intro ws τ
            induction τ generalizing ws with
            | nil => intro _ h; cases ws with
              | nil => trivial
              | cons _ _ => exact h
            | cons s τ ih => intro hn h; cases ws with
              | nil => exact h
              | cons w ws => exact ⟨h.1.tr g1 (fun b ho hb => keep b _ ho (by simp) hb) id (.inl (hn s (by simp))), ih (fun s hs => hn s (by simp [hs])) h.2⟩
          refine ⟨O', A.len, fun j s e => ?_, okts hn A.ts.2, fun b hb => ?_, A.g0.trans g1, g2, fun b u hb => ?_, fun b hb => ?_⟩
          · by_cases hj : j = i
            · subst hj
              rw [hi] at e
              cases e
              exact .inr ⟨v0, hw, cs', fun c hc => ⟨newO c hc, (hcs' c hc).1⟩, hR'⟩
            · rcases A.sl j s e with z | ⟨w', e', h'⟩
              · exact .inl z
              · exact .inr ⟨w', e', h'.tr g1 (fun b ho hb => keep b _ ho (fun z => hj (Sum.inl.inj z)) hb) id (.inl fun i k z => by have := A.sto e; rw [z] at this; cases this)⟩
          · by_cases hm : b ∈ cs'.map (·.1)
            · obtain ⟨c, h1, h2⟩ := List.mem_map.mp hm
              obtain ⟨_, h4, h5⟩ := hcs' c h1
              rw [h2] at h4 h5
              refine ⟨h5, ?_⟩
              rcases h4 with z | z
              · obtain ⟨c2, h6, h7⟩ := List.mem_map.mp z
                rw [← h7]
                exact (A.own c2.1 (by rw [(hcs c2 h6).1]; simp)).2
              · exact fresh_back A.fh z
            · have hb' : (if O b = some (.inl i) then none else if H1 b = none then none else O b) ≠ none := by
                have : O' b = if O b = some (.inl i) then none else if H1 b = none then none else O b := if_neg hm
                rw [← this]; exact hb
              by_cases h1 : O b = some (.inl i)
              · rw [if_pos h1] at hb'; exact absurd rfl hb'
              · rw [if_neg h1] at hb'
                by_cases h2 : H1 b = none
                · rw [if_pos h2] at hb'; exact absurd rfl hb'
                · rw [if_neg h2] at hb'
                  obtain ⟨o1, o2⟩ := A.own b hb'
                  refine ⟨?_, o2⟩
                  cases e : G' b with
                  | none => rfl
                  | some u =>
                    rcases g4 b (by rw [e]; simp) with z | z | z
                    · exact absurd o1 z
                    · exact absurd z h2
                    · exact absurd z (oldO b hb' h1)
          · have hnc : b ∉ cs.map (·.1) := fun hm => by
              obtain ⟨c, h1, h2⟩ := List.mem_map.mp hm
              have := (A.own c.1 (by rw [(hcs c h1).1]; simp)).2
              rw [h2] at this
              rw [this] at hb; cases hb
            exact g3 b u (A.fh b u hb) hnc
          · rcases g4 b hb with z | z | z
            · exact A.gf b z
            · exact .inr (fresh_back A.fh z)
            · obtain ⟨c, h1, h2⟩ := List.mem_map.mp z
              rw [← h2]
              exact .inr (A.own c.1 (by rw [(hcs c h1).1]; simp)).2
        exact wkO.sh hd
end Lf
set_option maxHeartbeats 4000000
namespace Lf
open PySem L2 Evl
/-! ### the script of a law -/
def RS (K : PySem.W.Frag) (ns : List Int) : BR := fun w w' os => w' = w ∧ ∃ a, w' = .ref a ∧ ((∃ o, os = [(a, .frz o (.lst (ns.map V.int)))]) ∨ (os = [] ∧ SqL K (fun _ => none) a (ns.map V.int)))
theorem RS_w {K : PySem.W.Frag} {ns : List Int} : ∀ w w' cs, RS K ns w w' cs → w' = w := fun _ _ _ h => h.1
theorem RS.seq {K : PySem.W.Frag} {ns : List Int} {w w' : V} {os : List (Addr × HO)} {H : Hp} (h : RS K ns w w' os) (hc : ∀ c, c ∈ os → H c.1 = some c.2) : ∃ a, w' = .ref a ∧ SqL K H a (ns.map V.int) := by
  obtain ⟨_, a, e, h⟩ := h
  refine ⟨a, e, ?_⟩
  rcases h with ⟨o, rfl⟩ | ⟨_, h⟩
  · exact .inl (.inr ⟨o, hc _ List.mem_cons_self⟩)
  · rcases h with h | h
    · rcases h with h | ⟨_, h⟩ <;> cases h
    · exact .inr h
theorem RS.of {K : PySem.W.Frag} {ns : List Int} {H : Hp} {a : Addr} (ho : ∀ b, H b = none ∨ ∃ o xs, H b = some (.frz o (.lst xs))) (h : SqL K H a (ns.map V.int)) : ∃ os, RS K ns (.ref a) (.ref a) os ∧ ∀ c, c ∈ os → H c.1 = some c.2 := by
  rcases h with h | h
  · rcases h with h | ⟨o, h⟩
    · rcases ho a with z | ⟨o, xs, z⟩ <;> rw [z] at h <;> cases h
    · exact ⟨[(a, _)], ⟨rfl, a, rfl, .inl ⟨o, rfl⟩⟩, fun c hc => by rw [List.mem_singleton.mp hc]; exact h⟩
  · exact ⟨[], ⟨rfl, a, rfl, .inr ⟨rfl, .inr h⟩⟩, fun c hc => by cases hc⟩
section
variable {S : Stat} {Γ τ : List Sl} {e : Expr} {pos p p2 : Pos} {i : Nat} {x : Str} {ns : List Int} {w0 : V}
theorem ge_lenS (hg : GlB S "len") (hm : S.mg "len" = none) (ha : GE S e Γ τ Γ (.bo i)) (hi : Γ[i]? = some (.ob (RS S.K ns w0))) (he : ∀ env, starEach [e] env = (false, eval e env) :: starEach [] env) : GE S (.Call (.Name "len" p) [e] [] pos) Γ τ Γ (.sh (.int ns.length)) :=
  ge_callB (r := fun xs H Q => ∃ p ys, xs = [.ref p] ∧ (SqL S.K H p ys ∨ SqT S.K H p ys) ∧ Q (.int ys.length) H) (fun X I => by rw [← I.K]; exact call_len_seq) hg hm PySem.boot_len (ga_cons ha ga_nil he) (ra1 fun F G0 G H σ ws w wk Q q => by
    obtain ⟨O, A⟩ := id wk
    rcases A.sl i _ hi with z | ⟨w', e, os, hos, hR⟩
    · cases z
    · rw [A.ts.1.2] at e; cases e
      obtain ⟨a, rfl, hs⟩ := hR.seq (H := H) fun c hc => (hos c hc).2
      exact ⟨a, _, rfl, .inl hs, q _ G H (wk.drop.sh (by rw [List.length_map]; exact .int _))⟩) (by decide) (by decide) he (fun _ => rfl)
theorem gx_begun {k : Nat} (Fn : FnS S.P S.w S.K S.mg S.base x k (spBegun S.K)) (hk : k ≤ S.k) (hg : GlB S x) (ha : GE S e Γ [] Γ (.bo i)) (hi : Γ[i]? = some (.ob (RS S.K ns w0))) (hl : ns.length ≤ 63)
    (hdb : (x == ("__debug__" : Str)) = false) (he : ∀ env, starEach [e] env = (false, eval e env) :: starEach [] env) : GX S (.Call (.Name x p2) [e] [] pos) Γ [] Γ (fun s => ∃ wd, s = .ob (RD wd)) := by
  obtain ⟨ta, pa, ea⟩ := ga_cons ha ga_nil he
  obtain ⟨f, fd, ps, hm, hkp, hb, F⟩ := Fn
  refine ⟨tCall (spBegun S.K) [] E0 ta, fun X I => ?_, fun F G0 G H σ ws wk Q q => ea F G0 G H σ ws wk _ fun vs G1 H1 hl1 wk1 => ?_⟩
  · rw [← I.prog, ← I.w, ← I.K, ← I.mg, ← I.base] at F
    rw [← I.K]
    exact pe_call F (I.room.mono hk) (I.gl hg) (by rw [I.mg]; exact hm) (by rw [I.K]; exact hkp) (by rw [I.K]; exact hb) .nil pass0 (pa X I) hdb (he _) rfl
  · rw [List.append_nil]
    match vs, hl1 with
    | [v], _ =>
      have wk1 : Wk S.K F G0 Γ [.bo i] G1 H1 σ (v :: ws) := wk1
      obtain ⟨O, A⟩ := id wk1
      rcases A.sl i _ hi with z | ⟨w', e, os, hos, hR⟩
      · cases z
      · rw [A.ts.1.2] at e; cases e
        obtain ⟨a, rfl, hs⟩ := hR.seq (H := H1) fun c hc => (hos c hc).2
        refine ⟨a, ns, rfl, hs, hl, fun p l c lg cs H' ex hp hl' hc npl npc nlc ep el ec => q _ (.ref p) G1 H' ⟨.ref p, rfl⟩ ?_⟩
        have wk2 := wk1.drop
        obtain ⟨O, A⟩ := wk2
        let cells : List (Addr × HO) := [(p, .dK (kvD l c 0 0)), (l, .lst (lg.map V.int)), (c, .lst (cs.map V.int))]
        have new : ∀ b, b ∈ cells.map (·.1) → H1 b = none := fun b hb => by
          simp only [cells, List.map_cons, List.map_nil, List.mem_cons, List.not_mem_nil, or_false] at hb
          rcases hb with rfl | rfl | rfl
          · exact hp
          · exact hl'
          · exact hc
        have kk : ∀ b, O b ≠ none → H1 b ≠ none → (open Classical in if b ∈ cells.map (·.1) then some (Sum.inr 0) else O b) = O b ∧ H' b = H1 b := fun b _ hb => by
          refine ⟨if_neg fun hm => hb (new b hm), ?_⟩
          cases e : H1 b with
          | none => exact absurd e hb
          | some u => exact ex b u e
        have ews : ws = [] := List.eq_nil_of_length_eq_zero A.ts.len
        subst ews
        refine ⟨fun b => open Classical in if b ∈ cells.map (·.1) then some (.inr 0) else O b, A.len, fun j s e => (A.sl j s e).mono (Ex.refl _) kk, ⟨⟨cells, fun cc hcc => ⟨if_pos (List.mem_map.mpr ⟨cc, hcc, rfl⟩), ?_⟩, rfl, p, l, c, 0, 0, lg, cs, rfl, npl, npc, nlc, rfl⟩, trivial⟩, fun b hb => ?_, A.g0, A.gh.trans ex, A.fh.trans ex, A.gf⟩
        · simp only [cells, List.mem_cons, List.not_mem_nil, or_false] at hcc
          rcases hcc with rfl | rfl | rfl
          · exact ep
          · exact el
          · exact ec
        · by_cases e : b ∈ cells.map (·.1)
          · exact ⟨fresh_back A.gh (new b e), fresh_back A.fh (new b e)⟩
          · exact A.own b (by simpa [e] using hb)
end
end Lf
set_option maxHeartbeats 4000000
namespace Lf
open PySem L2 Evl StX
section
variable {S : Stat} {Γ Γ1 Γ2 τ : List Sl} {s s1 s2 : Sl} {a b e o ix : Expr} {es : List Expr} {pos p p2 px py tpos : Pos} {d : D} {ds : List D} {i j k : Nat} {x y : Str} {E : Endv} {P : Sl → Prop}
/-- (*t, e) -/
theorem ge_tupStar {x1} {L : List D} (ha : GE S a Γ τ Γ1 (.sh (.tuple L))) (hb : GE S b Γ1 (.sh (.tuple L) :: τ) Γ2 (.sh d)) (hl : L.length + 1 ≤ 100000) (hs : ∀ env, starEach [.Starred a p, b] env = (true, eval a env) :: starEach [b] env) (hs2 : ∀ env, starEach [b] env = (false, eval b env) :: starEach [] env) :
    GE S (.Tuple [.Starred a p, b] x1 pos) Γ τ Γ2 (.sh (.tuple (L ++ [d]))) := by
  obtain ⟨ta, pa, ea⟩ := ha
  obtain ⟨tb, pb, eb⟩ := hb
  refine ⟨tTup (tStar S.K ta (tCons tb tNil)), fun X I => by rw [← I.K]; exact pe_tup (pa_star (pa X I) (pa_cons (pb X I) pa_nil (hs2 _)) (hs _)), fun F G0 G H σ ws wk Q q => ea F G0 G H σ ws wk _ fun w1 G1 H1 wk1 => ?_⟩
  obtain ⟨O, A⟩ := id wk1
  obtain ⟨p, vs, e, hp, B⟩ := A.rdt A.ts.1 .sh
  refine ⟨p, vs, e, .inl (st_of hp), eb F G1 G1 H1 σ _ wk1.rebase _ fun w2 G2 H2 wk2 => ?_⟩
  have h2 := wk2.top_sh
  have B2 := dpa_ex wk2.base_ex _ _ B
  have hlen := dpa_len B
  exact ⟨sz_of' (by rw [List.length_append, hlen]; exact hl), fun pn hpn => q _ _ _ ((wk1.based wk2).drop.drop.newT hpn (dpa_app B2 (.cons h2 .nil)))⟩
/-- a store of a list's item, added to, at a place told by a word -/
def rGetL (K : PySem.W.Frag) : V → V → Hp → VK → Prop := fun x y H Q => ∃ p xs n v, x = .ref p ∧ y = .int (n : Nat) ∧ SqL K H p xs ∧ xs[n]? = some v ∧ Q v H
theorem get_list {X : Cx} : PGet X (rGetL X.K) := by
  intro pins s σ H x y v u Q I rx ry h
  obtain ⟨p, xs, n, z, rfl, rfl, hq, he, q⟩ := h
  cases rx
  obtain ⟨t, rfl⟩ := ry
  obtain ⟨its, r, pl, hz⟩ := I.list hq
  obtain ⟨w, ew, rw'⟩ := r.get he
  have hl := r.length
  have hn := line63
  have hlt := (List.getElem?_eq_some_iff.mp he).1
  exact wpAny_getItem_list pl.isList (by omega) (by omega) (x := w) (by simpa using ew) ⟨z, H, I, rw', q⟩
theorem gs_augX {y' : Int} (ho : GE S o Γ [] Γ (.bo i)) (hi : GX S ix Γ [.bo i] Γ P) (hs : Γ[i]? = some (.ol ds)) (he : ∀ τ, NI τ → GE S e Γ τ Γ (.sh (.int y'))) (hP : ∀ s, P s → ∃ (n : Nat) (x : Int), s = .sh (.int n) ∧ ds[n]? = some (.int x) ∧ E.nx (Γ.set i (.ol (ds.set n (.int (x + y')))))) 
    (ha : ∀ ov iv new, augStore ix ov iv new = (do holding [new, ov, iv] (setItem ov iv new); release [new, ov, iv] []; pure .next)) : GS S (.AugAssign (.Subscript o ix tpos) .Add e pos) Γ E := by
  obtain ⟨to, po, eo⟩ := ho
  obtain ⟨ti, pi, ei⟩ := hi
  refine ⟨tAugS to ti (wpE S e) (rGetL S.K) (ipI fun i j => i + j) rSetL, fun X I => by rw [← I.K]; exact ps_augS (po X I) (pi X I) get_list (pe_can I) ip_add set_list ha, fun F G0 G H σ wk D K => eo F G0 G H σ [] wk _ fun w1 G1 H1 wk1 => ei F G0 G1 H1 σ _ wk1 _ fun s w2 G2 H2 hs2 wk2 => ?_⟩
  obtain ⟨n, x, rfl, hx, k⟩ := hP s hs2
  have h2 := wk2.top_sh
  cases h2
  obtain ⟨O, A⟩ := id wk2
  obtain ⟨p, vs, e1, op, hp, B⟩ := A.own_ol A.ts.2.1 hs
  obtain ⟨v, hv, hvd⟩ := dpa_get B hx
  cases hvd
  refine ⟨p, vs, n, _, e1, rfl, sq_of hp, hv, (he _ (ni_cons (by intro i k z; cases z) (ni_cons (by intro i k z; cases z) ni_nil))).can F G0 G2 H2 σ _ wk2 _ fun w3 G3 H3 wk3 => ?_⟩
  have h3 := wk3.top_sh
  cases h3
  refine ⟨x, y', rfl, rfl, ?_⟩
  have hw := wk3.drop.drop.bo_at
  obtain ⟨O2, ⟨p2, vs2, ew, op2, hp2, B2⟩, hown, _, fin⟩ := wk3.drop.drop.drop.chg ni_nil hw hs (by simp)
  have e2 := ew
  rw [e1] at e2
  cases e2
  have hlt := (List.getElem?_eq_some_iff.mp hx).1
  refine ⟨p, vs2, n, n, e1, rfl, hp2, by unfold ixN; rw [dpa_len B2, if_pos (by omega), if_pos (by omega)]; simp, K.nx _ _ _ _ k (fin _ (.ol (ds.set n (.int (x + y')))) (fun b hb => upd_ne fun z => hb (by rw [z]; exact op2)) ⟨p, _, e1, op2, upd_same, dpa_set (.int (x + y')) n B2⟩)⟩
end
end Lf
set_option maxHeartbeats 4000000
namespace Lf
open PySem L2 Evl
section
variable {S : Stat} {Γ Γ1 Γ2 τ : List Sl} {s s1 s2 : Sl} {a b c e : Expr} {es : List Expr} {pos p p2 px py pz : Pos} {i j : Nat} {x y z : Str} {E : Endv} {P P2 P3 : Sl → Prop}
theorem gax_three {P2 P3 : Sl → Prop} (ha : GX S a Γ τ Γ1 P) (hb : ∀ s, P s → GX S b Γ1 (s :: τ) Γ1 P2) (hc : ∀ s1 s2, P s1 → P2 s2 → GX S c Γ1 (s2 :: s1 :: τ) Γ1 P3) (hs : ∀ env, starEach [a, b, c] env = (false, eval a env) :: starEach [b, c] env) (hs2 : ∀ env, starEach [b, c] env = (false, eval b env) :: starEach [c] env) (hs3 : ∀ env, starEach [c] env = (false, eval c env) :: starEach [] env) :
    GAX S [a, b, c] Γ τ Γ1 (fun ss => ∃ s1 s2 s3, ss = [s1, s2, s3] ∧ P s1 ∧ P2 s2 ∧ P3 s3) :=
  (gax_cons (P2 := fun _ ss => ∃ s2 s3, ss = [s2, s3] ∧ P2 s2 ∧ P3 s3) ha (fun s h => gax_two (P2 := fun _ => P3) (hb s h) (fun s2 h2 => hc s s2 h h2) hs2 hs3) hs).imp fun ss ⟨s, ss', e1, hs, s2, s3, e2, h2, h3⟩ => ⟨s, s2, s3, by rw [e1, e2], hs, h2, h3⟩
theorem gs_par3X {Pa : List Sl → Prop} {kt k2 l : Nat} {pt pt2 : Pos} (hNi : S.N[i]? = some x) (hNj : S.N[j]? = some y) (hNl : S.N[l]? = some z) (hij : i ≠ j) (hil : i ≠ l) (hjl : j ≠ l) (hx : LocS S x) (hy : LocS S y) (hz : LocS S z) (ha : GAX S [a, b, c] Γ [] Γ1 Pa) (hi : i < Γ1.length) (hj : j < Γ1.length) (hl : l < Γ1.length)
    (k : ∀ ss, Pa ss → ∃ s1 s2 s3, ss = [s1, s2, s3] ∧ sto s1 = true ∧ sto s2 = true ∧ sto s3 = true ∧ E.nx (((Γ1.set i s1).set j s2).set l s3))
    (hsw : (S.names.lookup x = some .local ∧ S.names.lookup y = some .local ∧ S.names.lookup z = some .local ∧ ∀ X, S.Is X → swappedStores [.Tuple [.Name x px, .Name y py, .Name z pz] kt pt] (.Tuple [a, b, c] k2 pt2) X.env = pure (some [x, y, z])) ∨ ∀ X, S.Is X → swappedStores [.Tuple [.Name x px, .Name y py, .Name z pz] kt pt] (.Tuple [a, b, c] k2 pt2) X.env = pure none) :
    GS S (.Assign [.Tuple [.Name x px, .Name y py, .Name z pz] kt pt] (.Tuple [a, b, c] k2 pt2) pos) Γ E := by
  obtain ⟨ta, pa, ea⟩ := ha
  have fin : ∀ {s1 s2 s3 : Sl}, sto s1 = true → sto s2 = true → sto s3 = true → ∀ {F G0 G H : Hp} {σ : L2.St} {w1 w2 w3 : V}, Wk S.K F G0 Γ1 [s3, s2, s1] G H σ [w3, w2, w1] → Wk S.K F G0 (((Γ1.set i s1).set j s2).set l s3) [] G H (((σ.set i (some w1)).set j (some w2)).set l (some w3)) [] := fun {s1 s2 s3} hs1 hs2 hs3 {F G0 G H σ w1 w2 w3} wk => by
    have h := ((wk.storeT hs3 (nb2 hs2 hs1) hl).storeT hs2 (nb1 hs1) (by simpa using hj)).storeT hs1 (fun _ h => nomatch h) (by simpa using hi)
    have e1 : ((Γ1.set l s3).set j s2).set i s1 = ((Γ1.set i s1).set j s2).set l s3 := by
      rw [List.set_comm s3 s2 (Ne.symm hjl), List.set_comm s3 s1 (Ne.symm hil), List.set_comm s2 s1 (Ne.symm hij)]
    have e2 : ((σ.set l (some w3)).set j (some w2)).set i (some w1) = ((σ.set i (some w1)).set j (some w2)).set l (some w3) := by
      rw [List.set_comm (some w3) (some w2) (Ne.symm hjl), List.set_comm (some w3) (some w1) (Ne.symm hil), List.set_comm (some w2) (some w1) (Ne.symm hij)]
    rw [e1, e2] at h
    exact h
  have two : ∀ {F G0 G H : Hp} {σ : L2.St}, Wk S.K F G0 Γ [] G H σ [] → ∀ {Q : List V → Hp → Prop}, (∀ s1 s2 s3 w1 w2 w3 G' H', sto s1 = true → sto s2 = true → sto s3 = true → E.nx (((Γ1.set i s1).set j s2).set l s3) → Wk S.K F G0 Γ1 [s3, s2, s1] G' H' σ [w3, w2, w1] → Q [w1, w2, w3] H') → ta σ H Q := fun {F G0 G H σ} wk {Q} q =>
    ea F G0 G H σ [] wk Q fun ss vs G' H' hp hl wk' => by
      obtain ⟨s1, s2, s3, rfl, h1, h2, h3, hk⟩ := k ss hp
      match vs, hl with
      | [w1, w2, w3], _ => exact q s1 s2 s3 w1 w2 w3 G' H' h1 h2 h3 hk wk'
  rcases hsw with ⟨lx, ly, lz, hsw⟩ | hsw
  · refine ⟨tPar3 i j l ta, fun X I => ps_par3 I.calm I.nd' (by rw [I.N]; exact hNi) (by rw [I.N]; exact hNj) (by rw [I.N]; exact hNl) hij hil hjl (by rw [I.names]; exact lx) (by rw [I.names]; exact ly) (by rw [I.names]; exact lz) (pa X I) (hsw X I), fun F G0 G H σ wk D K => two wk fun s1 s2 s3 w1 w2 w3 G1 H1 h1 h2 h3 hk wk1 => ⟨w1, w2, w3, rfl, K.nx _ G1 H1 _ hk (fin h1 h2 h3 wk1)⟩⟩
  · refine ⟨tAsg (tTup ta) (gTup S.K 3 (gCons (gName i) (gCons (gName j) (gCons (gName l) gNil)))), fun X I => ?_, fun F G0 G H σ wk D K => two wk fun s1 s2 s3 w1 w2 w3 G1 H1 h1 h2 h3 hk wk1 => ⟨by show 3 ≤ sizeLine; decide, fun pn hpn => ?_⟩⟩
    · rw [← I.K]
      exact ps_asg (pe_tup (pa X I)) (pg_tup I.calm (pgs_cons (pg_name I.nd' (by rw [I.N]; exact hNi) (hx.loc I) (hx.fn I)) (pgs_cons (pg_name I.nd' (by rw [I.N]; exact hNj) (hy.loc I) (hy.fn I)) (pgs_cons (pg_name I.nd' (by rw [I.N]; exact hNl) (hz.loc I) (hz.fn I)) pgs_nil)))) rfl (hsw X I)
    · exact ⟨pn, [w1, w2, w3], rfl, st_of upd_same, rfl, w1, [w2, w3], rfl, w2, [w3], rfl, w3, [], rfl, rfl, K.nx _ _ _ _ hk (fin h1 h2 h3 (wk1.ground hpn _))⟩
end
end Lf
set_option maxHeartbeats 4000000
namespace Lf
open PySem L2 Evl StX
section
variable {S : Stat} {Γ Γ1 Γ2 τ : List Sl} {a b : Expr} {pos p : Pos} {d : D}
/-- (e, *t), t a list -/
theorem ge_tupStarL {x1} {L : List D} (hb : GE S b Γ τ Γ1 (.sh d)) (ha : GE S a Γ1 (.sh d :: τ) Γ2 (.sh (.list L))) (hl : L.length + 1 ≤ 100000) (hs : ∀ env, starEach [b, .Starred a p] env = (false, eval b env) :: starEach [.Starred a p] env) (hs2 : ∀ env, starEach [.Starred a p] env = (true, eval a env) :: starEach [] env) :
    GE S (.Tuple [b, .Starred a p] x1 pos) Γ τ Γ2 (.sh (.tuple (d :: L))) := by
  obtain ⟨ta, pa, ea⟩ := ha
  obtain ⟨tb, pb, eb⟩ := hb
  refine ⟨tTup (tCons tb (tStar S.K ta tNil)), fun X I => by rw [← I.K]; exact pe_tup (pa_cons (pb X I) (pa_star (pa X I) pa_nil (hs2 _)) (hs _)), fun F G0 G H σ ws wk Q q => eb F G0 G H σ ws wk _ fun w1 G1 H1 wk1 => ea F G0 G1 H1 σ _ wk1 _ fun w2 G2 H2 wk2 => ?_⟩
  have h1 := wk2.drop.top_sh
  have h2 := wk2.top_sh
  obtain ⟨O, A⟩ := id wk2
  obtain ⟨p, vs, e, hp, B⟩ := A.rdl A.ts.1 .sh
  subst e
  have hlen := dpa_len B
  refine ⟨p, vs, rfl, .inr (sq_of hp), ?_⟩
  show (w1 :: (vs ++ [])).length ≤ sizeLine ∧ ∀ p : Addr, H2 p = none → Q (V.ref p) (upd H2 p (HO.tup (w1 :: (vs ++ []))))
  rw [List.append_nil]
  exact ⟨sz_of' (by rw [List.length_cons, hlen]; exact hl), fun pn hpn => q _ _ _ (wk2.drop.drop.newT hpn (.cons h1 B))⟩
end
end Lf
set_option maxHeartbeats 4000000
namespace K79
open PySem L2 Evl Lf
section
variable {S : Stat} {Γ Γ0 Γ1 Γ2 Γ3 τ : List Sl} {s s1 s2 s3 : Sl} {a b c e tg iter elt : Expr} {es ifs elts : List Expr} {pos p p2 px apos tpos : Pos} {d d1 d2 : D} {ds L : List D} {k kk : Nat} {x y : Str} {E : Endv}
/-! ### names -/
theorem v (i : Nat) (h : Γ[i]? = some (.sh d)) (hN : S.N[i]? = some x := by rfl) (hv : S.names.lookup x = some .local := by rfl) (hd : (x == ("__debug__" : Str)) = false := by rfl) (hcd : (x == ("__classdict__" : Str)) = false := by rfl) : GE S (.Name x pos) Γ τ Γ (.sh d) :=
  ge_sh i hN (.inl hv) hd hcd h
theorem vc (i : Nat) (h : Γ[i]? = some (.sh d)) (hN : S.N[i]? = some x := by rfl) (hv : S.names.lookup x = some .cell := by rfl) (hd : (x == ("__debug__" : Str)) = false := by rfl) (hcd : (x == ("__classdict__" : Str)) = false := by rfl) : GE S (.Name x pos) Γ τ Γ (.sh d) :=
  ge_sh i hN (.inr (.inl hv)) hd hcd h
theorem bo (i : Nat) (h : Γ[i]? = some s) (hn : s ≠ .no := by simp) (hN : S.N[i]? = some x := by rfl) (hv : S.names.lookup x = some .local := by rfl) (hd : (x == ("__debug__" : Str)) = false := by rfl) (hcd : (x == ("__classdict__" : Str)) = false := by rfl) : GE S (.Name x pos) Γ τ Γ (.bo i) :=
  ge_bo i hN (.inl hv) hd hcd h hn
theorem boc (i : Nat) (h : Γ[i]? = some s) (hn : s ≠ .no := by simp) (hN : S.N[i]? = some x := by rfl) (hv : S.names.lookup x = some .cell := by rfl) (hd : (x == ("__debug__" : Str)) = false := by rfl) (hcd : (x == ("__classdict__" : Str)) = false := by rfl) : GE S (.Name x pos) Γ τ Γ (.bo i) :=
  ge_bo i hN (.inr (.inl hv)) hd hcd h hn
theorem geq {d' : D} (h : GE S e Γ τ Γ1 (.sh d)) (q : d = d') : GE S e Γ τ Γ1 (.sh d') := by subst q; exact h
/-! ### calls of defs -/
theorem c1 {k : Nat} {pre : List D → D → Prop} {r : D} (Fn : FnG S.P S.w S.K S.mg S.base x k pre) (h1 : GE S a Γ τ Γ1 (.sh d)) (hp : pre [d] r) (hk : k ≤ S.k) (hg : GlB S x) (hdb : (x == ("__debug__" : Str)) = false)
    (he : ∀ env, starEach [a] env = (false, eval a env) :: starEach [] env) : GE S (.Call (.Name x p) [a] [] pos) Γ τ Γ1 (.sh r) :=
  ge_call Fn hk hg (ds := [d]) (ga_cons h1 ga_nil he) hp hdb he (fun _ => rfl)
theorem c2 {k : Nat} {pre : List D → D → Prop} {r : D} (Fn : FnG S.P S.w S.K S.mg S.base x k pre) (h1 : GE S a Γ τ Γ1 (.sh d1)) (h2 : GE S b Γ1 (.sh d1 :: τ) Γ2 (.sh d2)) (hp : pre [d1, d2] r) (hk : k ≤ S.k) (hg : GlB S x) (hdb : (x == ("__debug__" : Str)) = false)
    (he : ∀ env, starEach [a, b] env = (false, eval a env) :: starEach [b] env) (he2 : ∀ env, starEach [b] env = (false, eval b env) :: starEach [] env) (hpl : ∀ env, (backTo pos (starEach [b] env)).any (·.1) = false) : GE S (.Call (.Name x p) [a, b] [] pos) Γ τ Γ2 (.sh r) :=
  ge_call Fn hk hg (ds := [d1, d2]) (ga_cons h1 (ga_cons h2 ga_nil he2) he) hp hdb he hpl
theorem c3 {d3 : D} {k : Nat} {pre : List D → D → Prop} {r : D} (Fn : FnG S.P S.w S.K S.mg S.base x k pre) (h1 : GE S a Γ τ Γ1 (.sh d1)) (h2 : GE S b Γ1 (.sh d1 :: τ) Γ2 (.sh d2)) (h3 : GE S c Γ2 (.sh d2 :: .sh d1 :: τ) Γ3 (.sh d3)) (hp : pre [d1, d2, d3] r) (hk : k ≤ S.k) (hg : GlB S x) (hdb : (x == ("__debug__" : Str)) = false)
    (he : ∀ env, starEach [a, b, c] env = (false, eval a env) :: starEach [b, c] env) (he2 : ∀ env, starEach [b, c] env = (false, eval b env) :: starEach [c] env) (he3 : ∀ env, starEach [c] env = (false, eval c env) :: starEach [] env) (hpl : ∀ env, (backTo pos (starEach [b, c] env)).any (·.1) = false) : GE S (.Call (.Name x p) [a, b, c] [] pos) Γ τ Γ3 (.sh r) :=
  ge_call Fn hk hg (ds := [d1, d2, d3]) (ga_cons h1 (ga_cons h2 (ga_cons h3 ga_nil he3) he2) he) hp hdb he hpl
theorem c4 {d3 d4 : D} {f : Expr} {Γ4 : List Sl} {k : Nat} {pre : List D → D → Prop} {r : D} (Fn : FnG S.P S.w S.K S.mg S.base x k pre) (h1 : GE S a Γ τ Γ1 (.sh d1)) (h2 : GE S b Γ1 (.sh d1 :: τ) Γ2 (.sh d2)) (h3 : GE S c Γ2 (.sh d2 :: .sh d1 :: τ) Γ3 (.sh d3)) (h4 : GE S f Γ3 (.sh d3 :: .sh d2 :: .sh d1 :: τ) Γ4 (.sh d4)) (hp : pre [d1, d2, d3, d4] r) (hk : k ≤ S.k) (hg : GlB S x) (hdb : (x == ("__debug__" : Str)) = false)
    (he : ∀ env, starEach [a, b, c, f] env = (false, eval a env) :: starEach [b, c, f] env) (he2 : ∀ env, starEach [b, c, f] env = (false, eval b env) :: starEach [c, f] env) (he3 : ∀ env, starEach [c, f] env = (false, eval c env) :: starEach [f] env) (he4 : ∀ env, starEach [f] env = (false, eval f env) :: starEach [] env) (hpl : ∀ env, (backTo pos (starEach [b, c, f] env)).any (·.1) = false) : GE S (.Call (.Name x p) [a, b, c, f] [] pos) Γ τ Γ4 (.sh r) :=
  ge_call Fn hk hg (ds := [d1, d2, d3, d4]) (ga_cons h1 (ga_cons h2 (ga_cons h3 (ga_cons h4 ga_nil he4) he3) he2) he) hp hdb he hpl
/-! ### displays -/
theorem t1 {x1} (h1 : GE S a Γ τ Γ1 (.sh d)) (he : ∀ env, starEach [a] env = (false, eval a env) :: starEach [] env) : GE S (.Tuple [a] x1 pos) Γ τ Γ1 (.sh (.tuple [d])) := ge_tup (ds := [d]) (ga_cons h1 ga_nil he) (by simp)
theorem t2 {x1} (h1 : GE S a Γ τ Γ1 (.sh d1)) (h2 : GE S b Γ1 (.sh d1 :: τ) Γ2 (.sh d2)) (he : ∀ env, starEach [a, b] env = (false, eval a env) :: starEach [b] env) (he2 : ∀ env, starEach [b] env = (false, eval b env) :: starEach [] env) : GE S (.Tuple [a, b] x1 pos) Γ τ Γ2 (.sh (.tuple [d1, d2])) :=
  ge_tup (ds := [d1, d2]) (ga_cons h1 (ga_cons h2 ga_nil he2) he) (by simp)
theorem l0 : GE S (.List [] pos) Γ τ Γ (.ol []) := ge_lst (ds := []) ga_nil (by simp)
theorem l1 (h1 : GE S a Γ τ Γ1 (.sh d)) (he : ∀ env, starEach [a] env = (false, eval a env) :: starEach [] env) : GE S (.List [a] pos) Γ τ Γ1 (.ol [d]) := ge_lst (ds := [d]) (ga_cons h1 ga_nil he) (by simp)
/-! ### comprehensions at any place -/
def niB : List Sl → Bool
  | [] => true
  | .boi _ _ :: _ => false
  | _ :: t => niB t
theorem ni_of : ∀ {τ : List Sl}, niB τ = true → NI τ
  | [], _ => ni_nil
  | s :: t, h => ni_cons (fun i k z => by subst z; cases h) (ni_of (by cases s <;> first | exact h | cases h))
section
variable {α β : Type} {xs : List α} {rep : α → D} {kf : α → Bool} {g : α → D} {g2 : α → List D} {scope : Scope} {own : List (Str × Nat)} {p : Pt} {tg1 iter1 : Expr} {q : Pt} {vs1 : List Nat} {ys : α → List β} {rep1 : β → D} {gg : α → β → D}
theorem lc (O : LcOk S tg iter scope own p Γ Γ0 (xs.map rep)) (item : ∀ x, x ∈ xs → LcItem S scope ifs p own Γ0 (rep x) (kf x) fun Γ' => GE (S.blk scope) elt Γ' [] Γ' (.sh (g x))) (hl : xs.length < 100000) (hn : NI τ) :
    GE S (.ListComp elt [⟨tg, iter, ifs, 0⟩] scope pos) Γ τ Γ0 (.ol ((xs.filter kf).map g)) := GE.frame (ge_lc O hl item) hn
/-- without tests -/
theorem lcA (O : LcOk S tg iter scope own p Γ Γ0 (xs.map rep)) (item : ∀ x, x ∈ xs → ∃ Γ', bindP p (rep x) (wipeG Γ0 (own.map (·.2))) = some Γ' ∧ GE (S.blk scope) elt Γ' [] Γ' (.sh (g x))) (hl : xs.length < 100000) (hn : NI τ) :
    GE S (.ListComp elt [⟨tg, iter, [], 0⟩] scope pos) Γ τ Γ0 (.ol (xs.map g)) := by
  have h := lc (τ := τ) (pos := pos) (ifs := []) (kf := fun _ => true) O (fun x hx => let ⟨Γ', h1, h2⟩ := item x hx; ⟨Γ', h1, gts_nil, fun _ => h2⟩) hl hn
  rwa [show xs.filter (fun _ => true) = xs by simp] at h
theorem lcO (O : LcOk S tg iter scope own p Γ Γ0 (xs.map rep)) (item : ∀ x, x ∈ xs → ∃ Γ', bindP p (rep x) (wipeG Γ0 (own.map (·.2))) = some Γ' ∧ GE (S.blk scope) elt Γ' [] Γ' (.ol (g2 x))) (hl : xs.length < 100000) (hn : NI τ) :
    GE S (.ListComp elt [⟨tg, iter, [], 0⟩] scope pos) Γ τ Γ0 (.oll (xs.map g2)) := GE.frame (ge_lcO O hl fun x hx => let ⟨Γ', h1, h2⟩ := item x hx; ⟨Γ', h1, gts_nil, fun _ => h2⟩) hn
theorem lc2 (O : LcOk S tg iter scope own p Γ Γ0 (xs.map rep)) (O2 : Lc2Ok S tg1 iter1 scope own q vs1) (item : ∀ x, x ∈ xs → Lc2Item S scope tg1 iter1 elt p q own vs1 Γ0 (rep x) (ys x) rep1 (gg x)) (hl : (acc2 xs ys gg).length < 100000) (hn : NI τ) :
    GE S (.ListComp elt [⟨tg, iter, [], 0⟩, ⟨tg1, iter1, [], 0⟩] scope pos) Γ τ Γ0 (.ol (acc2 xs ys gg)) := GE.frame (ge_lc2 O O2 hl item) hn
theorem asgA {x : Str} (i : Nat) (O : LcOk S tg iter scope own p Γ Γ0 (xs.map rep)) (item : ∀ x, x ∈ xs → ∃ Γ', bindP p (rep x) (wipeG Γ0 (own.map (·.2))) = some Γ' ∧ GE (S.blk scope) elt Γ' [] Γ' (.sh (g x))) (hl : xs.length < 100000) (k : E.nx (Γ0.set i (.ol (xs.map g))))
    (hN : S.N[i]? = some x) (hx : S.names.lookup x = some .local) (hi : i < Γ0.length) (hline : (px.line == pos.line) = true) (hown : (scope.names.any fun (n, k) => n == x && (k == .local || k == .cell)) = false) :
    GS S (.Assign [.Name x px] (.ListComp elt [⟨tg, iter, [], 0⟩] scope pos) p2) Γ E :=
  gs_lc (kf := fun _ => true) hN hx hi O hl (fun x hx => let ⟨Γ', h1, h2⟩ := item x hx; ⟨Γ', h1, gts_nil, fun _ => h2⟩) (by rwa [show xs.filter (fun _ => true) = xs by simp]) hline hown
theorem asgL {x : Str} (i : Nat) (O : LcOk S tg iter scope own p Γ Γ0 (xs.map rep)) (item : ∀ x, x ∈ xs → LcItem S scope ifs p own Γ0 (rep x) (kf x) fun Γ' => GE (S.blk scope) elt Γ' [] Γ' (.sh (g x))) (hl : xs.length < 100000) (k : E.nx (Γ0.set i (.ol ((xs.filter kf).map g))))
    (hN : S.N[i]? = some x) (hx : S.names.lookup x = some .local) (hi : i < Γ0.length) (hline : (px.line == pos.line) = true) (hown : (scope.names.any fun (n, k) => n == x && (k == .local || k == .cell)) = false) :
    GS S (.Assign [.Name x px] (.ListComp elt [⟨tg, iter, ifs, 0⟩] scope pos) p2) Γ E := gs_lc hN hx hi O hl item k hline hown
theorem asgO {x : Str} (i : Nat) (O : LcOk S tg iter scope own p Γ Γ0 (xs.map rep)) (item : ∀ x, x ∈ xs → ∃ Γ', bindP p (rep x) (wipeG Γ0 (own.map (·.2))) = some Γ' ∧ GE (S.blk scope) elt Γ' [] Γ' (.ol (g2 x))) (hl : xs.length < 100000) (k : E.nx (Γ0.set i (.oll (xs.map g2))))
    (hN : S.N[i]? = some x) (hx : S.names.lookup x = some .local) (hi : i < Γ0.length) (hline : (px.line == pos.line) = true) (hown : (scope.names.any fun (n, k) => n == x && (k == .local || k == .cell)) = false) :
    GS S (.Assign [.Name x px] (.ListComp elt [⟨tg, iter, [], 0⟩] scope pos) p2) Γ E := gs_lcO hN hx hi O hl (fun x hx => let ⟨Γ', h1, h2⟩ := item x hx; ⟨Γ', h1, gts_nil, fun _ => h2⟩) k hline hown
end
/-! ### statements -/
theorem asg {x : Str} (i : Nat) (he : GE S e Γ [] Γ1 s) (k : E.nx (Γ1.set i s)) (hs : sto s = true) (hN : S.N[i]? = some x) (hx : LocS S x) (hi : i < Γ1.length) (hsw : ∀ env, swapsWith e (some (.Name x px)) pos.line env = pure false) :
    GS S (.Assign [.Name x px] e pos) Γ E := gs_set hN hx he hs hi k hsw
theorem asgC {x : Str} (i : Nat) (he : GE S e Γ [] Γ1 s) (k : E.nx (Γ1.set i s)) (hs : sto s = true) (hN : S.N[i]? = some x) (hx : S.names.lookup x = some .cell) (hf : S.fn x = true) (hi : i < Γ1.length) :
    GS S (.Assign [.Name x px] e pos) Γ E := gs_setX hN (.inr ⟨hx, hf⟩) he.toX hi (fun s' e => by subst e; exact ⟨hs, k⟩) (sw_cell hx)
theorem ret {rest : List Stmt} (h : GE S e Γ [] Γ1 s) (k : E.rt Γ1 s) : GSs S (.Return (some e) pos :: rest) Γ E := gss_last (gs_ret h k)
theorem retS {r : D} (e : d = r) : RetOk Γ (.sh d) r := by subst e; exact .sh
theorem seq {st : Stmt} {sts : List Stmt} {Γ1 : List Sl} (h1 : GS S st Γ { E with nx := fun Γ' => Γ' = Γ1 }) (h2 : GSs S sts Γ1 E) : GSs S (st :: sts) Γ E := gss_one h1 h2
end
end K79
set_option maxHeartbeats 4000000
namespace K79
open PySem L2 Evl Lf
/-- ints, and lists and tuples of such, to a depth -/
def Pl : Nat → D → Prop
  | _, .int _ => True
  | k + 1, .list ds => ∀ d, d ∈ ds → Pl k d
  | k + 1, .tuple ds => ∀ d, d ∈ ds → Pl k d
  | _, _ => False
theorem pl_int {k : Nat} {i : Int} : Pl k (.int i) := by cases k <;> trivial
theorem lay_all : ∀ {ds : List D}, (∀ d, d ∈ ds → d.canLay0 = true) → PyData.canLayAll0 ds = true
  | [], _ => by simp [PyData.canLayAll0]
  | d :: ds, h => by
    simp only [PyData.canLayAll0, Bool.and_eq_true]
    exact ⟨h d (by simp), lay_all fun e he => h e (by simp [he])⟩
theorem depth_all {k : Nat} : ∀ {ds : List D}, (∀ d, d ∈ ds → d.depth ≤ k) → PyData.depthAll ds ≤ k
  | [], _ => by simp [PyData.depthAll]
  | d :: ds, h => by
    simp only [PyData.depthAll]
    exact Nat.max_le.mpr ⟨h d (by simp), depth_all fun e he => h e (by simp [he])⟩
theorem pl_lay : ∀ {k : Nat} {d : D}, Pl k d → d.canLay0 = true ∧ d.depth ≤ k
  | k, .int _, _ => by simp [PyData.canLay0, PyData.depth]
  | k + 1, .list ds, h => by
    have h1 := lay_all fun d hd => (pl_lay (h d hd)).1
    have h2 := depth_all fun d hd => (pl_lay (h d hd)).2
    simp only [PyData.canLay0, PyData.depth]
    exact ⟨h1, by omega⟩
  | k + 1, .tuple ds, h => by
    have h1 := lay_all fun d hd => (pl_lay (h d hd)).1
    have h2 := depth_all fun d hd => (pl_lay (h d hd)).2
    simp only [PyData.canLay0, PyData.depth]
    exact ⟨h1, by omega⟩
  | 0, .list _, h => h.elim
  | 0, .tuple _, h => h.elim
  | k, .none, h => by cases k <;> exact h.elim
  | k, .bool _, h => by cases k <;> exact h.elim
  | k, .str _, h => by cases k <;> exact h.elim
  | k, .dict _, h => by cases k <;> exact h.elim
theorem pl_all {k : Nat} {ds : List D} (h : ∀ d, d ∈ ds → Pl k d) : PyData.canLayAll0 ds = true := lay_all fun d hd => (pl_lay (h d hd)).1
theorem pl_shaped {k : Nat} {d : D} (h : Pl k d) (hk : k ≤ 64) : SeqAt.shaped d = true := by
  obtain ⟨h1, h2⟩ := pl_lay h
  unfold SeqAt.shaped
  rw [h1, Bool.true_and, decide_eq_true_eq]
  omega
theorem eqv_all {k : Nat} (ih : ∀ {d e : D}, Pl k d → Pl k e → (PyData.eqv d e = true ↔ d = e)) : ∀ {ds es : List D}, (∀ d, d ∈ ds → Pl k d) → (∀ d, d ∈ es → Pl k d) → (PyData.eqvAll ds es = true ↔ ds = es)
  | [], [], _, _ => by simp [PyData.eqvAll]
  | [], _ :: _, _, _ => by simp [PyData.eqvAll]
  | _ :: _, [], _, _ => by simp [PyData.eqvAll]
  | d :: ds, e :: es, h1, h2 => by
    simp only [PyData.eqvAll, Bool.and_eq_true, List.cons.injEq]
    rw [ih (h1 d (by simp)) (h2 e (by simp)), eqv_all ih (fun d hd => h1 d (by simp [hd])) (fun d hd => h2 d (by simp [hd]))]
theorem pl_eqv : ∀ {k : Nat} {d e : D}, Pl k d → Pl k e → (PyData.eqv d e = true ↔ d = e)
  | k, .int i, .int j, _, _ => by simp [PyData.eqv]
  | k + 1, .int i, .list _, _, _ => by simp [PyData.eqv]
  | k + 1, .int i, .tuple _, _, _ => by simp [PyData.eqv]
  | k + 1, .list _, .int _, _, _ => by simp [PyData.eqv]
  | k + 1, .tuple _, .int _, _, _ => by simp [PyData.eqv]
  | k + 1, .list ds, .list es, h1, h2 => by
    simp only [PyData.eqv, PyData.list.injEq]
    exact eqv_all (fun a b => pl_eqv a b) h1 h2
  | k + 1, .tuple ds, .tuple es, h1, h2 => by
    simp only [PyData.eqv, PyData.tuple.injEq]
    exact eqv_all (fun a b => pl_eqv a b) h1 h2
  | k + 1, .list ds, .tuple es, h1, h2 => by simp [PyData.eqv]
  | k + 1, .tuple ds, .list es, h1, h2 => by simp [PyData.eqv]
  | 0, .list _, _, h, _ => h.elim
  | 0, .tuple _, _, h, _ => h.elim
  | 0, .int _, .list _, _, h => h.elim
  | 0, .int _, .tuple _, _, h => h.elim
  | k, .none, _, h, _ => by cases k <;> exact h.elim
  | k, .bool _, _, h, _ => by cases k <;> exact h.elim
  | k, .str _, _, h, _ => by cases k <;> exact h.elim
  | k, .dict _, _, h, _ => by cases k <;> exact h.elim
  | k, .int _, .none, _, h => by cases k <;> exact h.elim
  | k, .int _, .bool _, _, h => by cases k <;> exact h.elim
  | k, .int _, .str _, _, h => by cases k <;> exact h.elim
  | k, .int _, .dict _, _, h => by cases k <;> exact h.elim
  | k + 1, .list _, .none, _, h => h.elim
  | k + 1, .list _, .bool _, _, h => h.elim
  | k + 1, .list _, .str _, _, h => h.elim
  | k + 1, .list _, .dict _, _, h => h.elim
  | k + 1, .tuple _, .none, _, h => h.elim
  | k + 1, .tuple _, .bool _, _, h => h.elim
  | k + 1, .tuple _, .str _, _, h => h.elim
  | k + 1, .tuple _, .dict _, _, h => h.elim
/-! ### heaps, ties, nats -/
def hpD (h : List Int) : D := .tuple (h.map .int)
def tieD (t : Nat × Nat) : D := .tuple [.int t.1, .int t.2]
def natsD (A : List Nat) : List D := A.map fun i => .int (i : Nat)
structure Wb where
  n : Nat
  ts : List (Nat × Nat)
def Wb.D (W : Wb) : D := .tuple [.int W.n, .tuple (W.ts.map tieD)]
theorem pl_hp {h : List Int} : Pl 1 (hpD h) := fun d hd => by
  obtain ⟨i, _, rfl⟩ := List.mem_map.mp hd
  exact pl_int
theorem pl_ints {h : List Int} {k : Nat} : ∀ d, d ∈ h.map PyData.int → Pl k d := fun d hd => by
  obtain ⟨i, _, rfl⟩ := List.mem_map.mp hd
  exact pl_int
theorem pl_nats {A : List Nat} {k : Nat} : ∀ d, d ∈ natsD A → Pl k d := fun d hd => by
  obtain ⟨i, _, rfl⟩ := List.mem_map.mp hd
  exact pl_int
theorem pl_tie {t : Nat × Nat} {k : Nat} : Pl (k + 1) (tieD t) := fun d hd => by
  simp at hd
  rcases hd with rfl | rfl <;> exact pl_int
theorem map_int_inj : ∀ {a b : List Int}, a.map PyData.int = b.map PyData.int → a = b
  | [], [], _ => rfl
  | x :: a, y :: b, h => by
    simp only [List.map_cons, List.cons.injEq, PyData.int.injEq] at h
    rw [h.1, map_int_inj h.2]
  | [], _ :: _, h => by cases h
  | _ :: _, [], h => by cases h
theorem hp_inj {a b : List Int} (h : hpD a = hpD b) : a = b := map_int_inj (PyData.tuple.inj h)
theorem eqv_hp (a b : List Int) : PyData.eqv (hpD a) (hpD b) = decide (a = b) := by
  rw [Bool.eq_iff_iff, pl_eqv pl_hp pl_hp, decide_eq_true_eq]
  exact ⟨hp_inj, fun h => by rw [h]⟩
theorem any_nat (A : List Nat) (i : Nat) : ((natsD A).any fun z => PyData.eqv z (.int (i : Nat))) = A.contains i := by
  induction A with
  | nil => rfl
  | cons a A ih =>
    show (PyData.eqv (.int (a : Nat)) (.int (i : Nat)) || (natsD A).any _) = _
    rw [ih, List.contains_cons]
    congr 1
    simp only [PyData.eqv]
    rw [Bool.eq_iff_iff]
    simp
    omega
theorem cut_pre {α : Type} (l : List α) (p : Nat) : cut l none (some (p : Int)) = l.take p := by
  unfold cut
  rw [HT.sIx_nat, HT.sIx_none, List.drop_zero, Nat.sub_zero, List.take_eq_take_iff]
  omega
theorem cut_suf {α : Type} (l : List α) (p : Nat) : cut l (some (p : Int)) none = l.drop p := by
  unfold cut
  rw [HT.sIx_nat, HT.sIx_none]
  by_cases h : p ≤ l.length
  · rw [Nat.min_eq_left h, List.take_of_length_le (by simp)]
  · rw [Nat.min_eq_right (by omega)]
    simp
    omega
theorem rg1_eq (n : Nat) : rgD 0 1 (Int.toNat (n : Int)) = (List.range n).map fun i => .int (i : Nat) := by
  unfold rgD
  rw [Int.toNat_natCast]
  exact List.map_congr_left fun i _ => by simp
theorem zp_ints (a b : List Int) : zpD (a.map .int) (b.map .int) = (a.zip b).map fun p => .tuple [.int p.1, .int p.2] := by
  unfold zpD
  rw [List.zip_map, List.map_map]
  rfl
theorem IG.of {S : Stat} {tg iter : Expr} {Γ τ Γ' : List Sl} {L L' : List D} (e : L = L') (h : IG S tg iter Γ τ Γ' L) : IG S tg iter Γ τ Γ' L' := by subst e; exact h
theorem lok {S : Stat} {tg iter : Expr} {scope : Scope} {own : List (Str × Nat)} {p : Pt} {Γ Γ0 : List Sl} {L : List D} (it : IG S tg iter Γ [] Γ0 L) (pg : PgG (S.blk scope) tg p) (blk : blkN S.N S.names scope own = true) (sub : (p.slots.all fun i => (own.map (·.2)).contains i) = true)
    (h : ((own.map (·.2)).all fun i => hid Γ0[i]?) = true) (plain : ∀ env x, foldedSetIterable iter env x = pure x) : LcOk S tg iter scope own p Γ Γ0 L :=
  ⟨it, pg, blk, fun i hi => by have := List.all_eq_true.mp sub i hi; simpa using this, fun i hi => List.all_eq_true.mp h i hi, plain⟩
theorem sw_sub2 {o i t2 v1 v2 : Expr} {q1 q2 q3 : Pos} {k1 k2 : Nat} (env : Env) : swappedStores [.Tuple [.Subscript o i q1, t2] k1 q2] (.Tuple [v1, v2] k2 q3) env = pure none := by
  unfold swappedStores
  dsimp only
  by_cases h1 : (env.blockKind != ScopeKind.function) = true
  · simp [h1]
  · simp [h1]
    intro _ _ hl
    exfalso
    have := Nat.le_trans (Nat.le_of_eq hl.symm) (List.length_filterMap_le _ [t2])
    simp at this
def env0 (names : List (Str × NameKind)) : Env := { scope := { kind := .function, names := names, isGenerator := false, isCoroutine := false, more := [] }, locals := 0, globals := 0, cells := [], qual := "", func := none, code := .none, frame := none, builtins := 0 }
theorem sw_at {S : Stat} {ts : List Expr} {e : Expr} {r : Sem (Option (List Str))} (h : swappedStores ts e (env0 S.names) = r) : ∀ X, S.Is X → swappedStores ts e X.env = r := fun X I => by
  rw [← h]
  unfold swappedStores Env.kindOf Env.blockKind
  rw [I.names, I.kind]
  rfl
theorem og_eqN {S : Stat} {Γ τ : List Sl} {a b : Nat} : OpG S (compareOp .Eq) Γ τ (.sh (.int a)) (.sh (.int b)) Γ (.sh (.bool (decide (a = b)))) := by
  have h : decide ((a : Int) = b) = decide (a = b) := by rw [Bool.eq_iff_iff, decide_eq_true_eq, decide_eq_true_eq]; omega
  rw [← h]; exact og_eqI
theorem og_neN {S : Stat} {Γ τ : List Sl} {a b : Nat} : OpG S (compareOp .NotEq) Γ τ (.sh (.int a)) (.sh (.int b)) Γ (.sh (.bool (!decide (a = b)))) := by
  have h : decide ((a : Int) = b) = decide (a = b) := by rw [Bool.eq_iff_iff, decide_eq_true_eq, decide_eq_true_eq]; omega
  rw [← h]; exact og_neI
theorem pix {b : Expr} (h : ∀ o i, subscripted b false o i = operate [o, i] (getItem o i)) : PlainIx b := h
theorem ixN_at {n k : Nat} (h : k < n) : ixN n (k : Int) = some k := by unfold ixN; rw [if_pos (by omega), if_pos (by omega)]; simp
theorem atI_at {α : Type} {xs : List α} {k : Nat} {x : α} (h : xs[k]? = some x) : atI xs (k : Int) = some x := by
  unfold atI
  rw [ixN_at (List.getElem?_eq_some_iff.mp h).1]
  exact h
theorem at_range {n i : Nat} {g : Nat → D} (h : i < n) : atI ((List.range n).map g) (i : Int) = some (g i) := atI_at (by rw [List.getElem?_map, List.getElem?_range h]; rfl)
end K79
set_option maxHeartbeats 4000000
namespace K79
open PySem L2 Evl Lf
/-- the names of the built-in world are not overlaid -/
structure Txt (mg : Str → Option Value) : Prop where
  isi : mg "isinstance" = none
  int : mg "int" = none
  bool : mg "bool" = none
  tuple : mg "tuple" = none
  list : mg "list" = none
  len : mg "len" = none
  all : mg "all" = none
  any : mg "any" = none
  sum : mg "sum" = none
  range : mg "range" = none
  zip : mg "zip" = none
  enumerate : mg "enumerate" = none
  sorted : mg "sorted" = none
  min : mg "min" = none
  max : mg "max" = none
  abs : mg "abs" = none
variable {P : Program} {w : World} {K : PySem.W.Frag} {mg : Str → Option Value} {base : Heap} {f : Addr} {fd : FuncData}
def isNum : D → Bool
  | .int _ => true
  | _ => false
theorem kit_int (d : D) : kitB (tyD d) "int" = some (match d with | .int _ => true | .bool _ => true | _ => false) := by cases d <;> rfl
theorem kit_bool (d : D) : kitB (tyD d) "bool" = some (match d with | .bool _ => true | _ => false) := by cases d <;> rfl
theorem kit_tup (ds : List D) : kitB (tyD (.tuple ds)) "tuple" = some true := rfl
/-! ### is_number -/
def pIsNumber (ds : List D) (r : D) : Prop := ∃ d, ds = [d] ∧ r = .bool (isNum d)
theorem sc_is_number : FnScope ["thing"] ["thing"] (defScope (top 6)) := ⟨rfl, rfl, rfl, by decide +kernel, rfl, by decide +kernel, by decide +kernel⟩
theorem ok_is_number (T : Txt mg) (F : Fun K "is_number" "is_number" (top 6) f fd) : FnOk P w K mg base CX0 1 f fd ["thing"] (pureSp pIsNumber) := by
  refine fn_pure F sc_is_number (fun ds r h => by obtain ⟨d, rfl, _⟩ := h; rfl) fun ds r h => ?_
  obtain ⟨d, rfl, rfl⟩ := h
  refine ret (ge_and (ge_isi rfl T.isi rfl T.int (by decide +kernel) (v 0 rfl) (kit_int d) (fun _ => rfl) (by decide) (by decide)) fun _ => ge_one (ge_notV (ge_isi rfl T.isi rfl T.bool (by decide +kernel) (v 0 rfl) (kit_bool d) (fun _ => rfl) (by decide) (by decide)))) ?_
  have e : isNum d = ((match d with | .int _ => true | .bool _ => true | _ => false) && !(match d with | .bool _ => true | _ => false)) := by cases d <;> rfl
  rw [e]
  exact .sh
/-! ### are_numbers -/
def pAreNumbers (ds : List D) (r : D) : Prop := ∃ h : List Int, h.length ≤ 50000 ∧ ds = [.int h.length, hpD h] ∧ r = .bool true
theorem sc_are_numbers : FnScope ["many", "thing", "number"] ["many", "thing"] (defScope (top 7)) := ⟨rfl, rfl, rfl, by decide +kernel, rfl, by decide +kernel, by decide +kernel⟩
theorem ok_are_numbers (T : Txt mg) (F : Fun K "are_numbers" "are_numbers" (top 7) f fd) (F1 : FnG P w K mg base "is_number" 1 pIsNumber) : FnOk P w K mg base CX0 2 f fd ["many", "thing"] (pureSp pAreNumbers) := by
  refine fn_pure F sc_are_numbers (fun ds r h => by obtain ⟨h, _, rfl, _⟩ := h; rfl) fun ds r h => ?_
  obtain ⟨h, hl, rfl, rfl⟩ := h
  refine ret (ge_and (ge_isi rfl T.isi rfl T.tuple (by decide +kernel) (v 1 rfl) (kit_tup _) (fun _ => rfl) (by decide) (by decide)) fun _ =>
    ge_and (ge_cmp (ge_len rfl T.len (v 1 rfl) (.t .sh) (fun _ => rfl)) (v 0 rfl) og_eqI rfl) fun _ => ge_one (ge_all (L := h) (g := fun _ => .bool true) (k := fun _ => true) rfl T.all
      (lcA (xs := h) (rep := .int) (g := fun _ => .bool true) (own := [("number", 2)]) (p := .nm 2) ⟨ig_tup (v 1 rfl), pg_nm rfl (.inl rfl), rfl, by decide, by simp [hid, startG], (fun _ _ => rfl)⟩ (fun x hx => ⟨_, rfl, c1 F1 (v 2 rfl) ⟨_, rfl, rfl⟩ (Nat.le_of_ble_eq_true rfl) rfl rfl (fun _ => rfl)⟩) (by omega) (ni_of rfl)) .ol (fun _ => rfl) (fun _ => rfl))) ?_
  exact retS (by simp)
end K79
set_option maxHeartbeats 4000000
namespace K79
open PySem L2 Evl Lf
variable {P : Program} {w : World} {K : PySem.W.Frag} {mg : Str → Option Value} {base : Heap} {f : Addr} {fd : FuncData}
/-! ### is_heap_of -/
def pIsHeapOf (ds : List D) (r : D) : Prop := ∃ (W : Wb) (h : List Int), h.length ≤ 50000 ∧ h.length = W.n ∧ ds = [W.D, hpD h] ∧ r = .bool true
theorem sc_is_heap_of : FnScope ["web", "thing"] ["web", "thing"] (defScope (top 21)) := ⟨rfl, rfl, rfl, by decide +kernel, rfl, by decide +kernel, by decide +kernel⟩
theorem ok_is_heap_of (F : Fun K "is_heap_of" "is_heap_of" (top 21) f fd) (F1 : FnG P w K mg base "are_numbers" 2 pAreNumbers) : FnOk P w K mg base CX0 3 f fd ["web", "thing"] (pureSp pIsHeapOf) := by
  refine fn_pure F sc_is_heap_of (fun ds r h => by obtain ⟨W, h, _, _, rfl, _⟩ := h; rfl) fun ds r h => ?_
  obtain ⟨W, h, hl, hn, rfl, rfl⟩ := h
  exact ret (c2 F1 (ge_ixT (v 0 rfl) ge_int .sh (d := .int h.length) (by rw [hn]; rfl) (pix fun _ _ => rfl)) (v 1 rfl) ⟨h, hl, rfl, rfl⟩ (Nat.le_of_ble_eq_true rfl) rfl rfl (fun _ => rfl) (fun _ => rfl) (fun _ => rfl)) .sh
/-! ### plus_by -/
def zipP (a b : List Int) (m : Int) : List Int := List.zipWith (fun x y => x + m * y) a b
def pPlusBy (ds : List D) (r : D) : Prop := ∃ (a b : List Int) (m : Int), a.length ≤ 50000 ∧ (-(2 ^ 64) < m ∧ m < 2 ^ 64) ∧ ds = [hpD a, hpD b, .int m] ∧ r = hpD (zipP a b m)
theorem sc_plus_by : FnScope ["one", "other", "many", "first", "second"] ["one", "other", "many"] (defScope (top 23)) := ⟨rfl, rfl, rfl, by decide +kernel, rfl, by decide +kernel, by decide +kernel⟩
theorem ok_plus_by (T : Txt mg) (F : Fun K "plus_by" "plus_by" (top 23) f fd) : FnOk P w K mg base CX0 1 f fd ["one", "other", "many"] (pureSp pPlusBy) := by
  refine fn_pure F sc_plus_by (fun ds r h => by obtain ⟨a, b, m, _, _, rfl, _⟩ := h; rfl) fun ds r h => ?_
  obtain ⟨a, b, m, hl, hm, rfl, rfl⟩ := h
  refine ret (ge_tuple rfl T.tuple (lcA (xs := a.zip b) (rep := fun p => .tuple [.int p.1, .int p.2]) (g := fun p => .int (p.1 + m * p.2)) (own := [("first", 3), ("second", 4)]) (p := .tp (.cons (.nm 3) (.cons (.nm 4) .nil)))
    ⟨IG.of (zp_ints a b) (ig_zpT rfl T.zip (v 0 rfl) (v 1 rfl) (fun _ => rfl) (fun _ => rfl)), pg_tp (pgs_cn (pg_nm rfl (.inl rfl)) (pgs_cn (pg_nm rfl (.inl rfl)) pgs_nl (fun _ => rfl)) (fun _ => rfl)) (fun _ => rfl) (fun _ => rfl), rfl, by decide, by simp [hid, startG], (fun _ _ => rfl)⟩
    (fun x hx => ⟨_, rfl, ge_bin (v 3 rfl) (ge_bin (vc 2 rfl) (v 4 rfl) (og_mul (.inl hm))) og_add⟩) (by simp; omega) (ni_of rfl)) .ol (fun _ => rfl)) ?_
  refine retS ?_
  unfold hpD zipP
  rw [← List.map_uncurry_zip_eq_zipWith, List.map_map]
  rfl
/-! ### without -/
def pWithout (ds : List D) (r : D) : Prop := ∃ (l : List D) (p : Nat), l.length ≤ 50000 ∧ p < l.length ∧ ds = [.tuple l, .int p] ∧ r = .tuple (l.eraseIdx p)
theorem sc_without : FnScope ["line", "place"] ["line", "place"] (defScope (top 31)) := ⟨rfl, rfl, rfl, by decide +kernel, rfl, by decide +kernel, by decide +kernel⟩
theorem ok_without (F : Fun K "without" "without" (top 31) f fd) : FnOk P w K mg base CX0 1 f fd ["line", "place"] (pureSp pWithout) := by
  refine fn_pure F sc_without (fun ds r h => by obtain ⟨a, p, _, _, rfl, _⟩ := h; rfl) fun ds r h => ?_
  obtain ⟨l, p, hl, hp, rfl, rfl⟩ := h
  refine ret (ge_bin (ge_slT (v 0 rfl) go_none (go_some (v 1 rfl)) .sh) (ge_slT (v 0 rfl) (go_some (ge_bin (v 1 rfl) ge_int og_add)) go_none .sh) (og_catT .sh .sh ?_)) ?_
  · rw [cut_pre, show ((p : Nat) : Int) + 1 = ((p + 1 : Nat) : Int) by omega, cut_suf]
    simp
    omega
  · refine retS ?_
    rw [cut_pre, show ((p : Nat) : Int) + 1 = ((p + 1 : Nat) : Int) by omega, cut_suf, List.eraseIdx_eq_take_drop_succ]
/-! ### row_of_places -/
def rowOf (n : Nat) (A : List Nat) : List Int := (List.range n).map fun i => if A.contains i then 1 else 0
def pRowOf (ds : List D) (r : D) : Prop := ∃ (W : Wb) (A : List Nat), W.n ≤ 50 ∧ A.length ≤ 5000 ∧ ds = [W.D, .list (natsD A)] ∧ r = hpD (rowOf W.n A)
theorem sc_row_of : FnScope ["web", "places", "place"] ["web", "places"] (defScope (top 29)) := ⟨rfl, rfl, rfl, by decide +kernel, rfl, by decide +kernel, by decide +kernel⟩
theorem ok_row_of (T : Txt mg) (F : Fun K "row_of_places" "row_of_places" (top 29) f fd) : FnOk P w K mg base CX0 1 f fd ["web", "places"] (pureSp pRowOf) := by
  refine fn_pure F sc_row_of (fun ds r h => by obtain ⟨a, p, _, _, rfl, _⟩ := h; rfl) fun ds r h => ?_
  obtain ⟨W, A, hn, hA, rfl, rfl⟩ := h
  refine ret (ge_tuple rfl T.tuple (lcA (xs := List.range W.n) (rep := fun i => .int (i : Nat)) (g := fun i => .int (if A.contains i then 1 else 0)) (own := [("place", 2)]) (p := .nm 2)
    ⟨IG.of (rg1_eq W.n) (ig_rg1 rfl T.range (ge_ixT (v 0 rfl) ge_int .sh (d := .int W.n) rfl (pix (fun _ _ => rfl))) (by omega) (fun _ => rfl)), pg_nm rfl (.inl rfl), rfl, by decide, by simp [hid, startG], (fun _ _ => rfl)⟩
    (fun x hx => ⟨_, rfl, ?_⟩) (by simp; omega) (ni_of rfl)) .ol (fun _ => rfl)) ?_
  · have h := any_nat A x
    rw [← h]
    exact ge_intB rfl T.int (ge_cmp (v 2 rfl) (vc 1 rfl) (og_in (.l .sh) (pl_all (k := 0) pl_nats) rfl (by simp [PyData.depth])) rfl) (fun _ => rfl)
  · refine retS ?_
    unfold hpD rowOf
    rw [List.map_map]
    rfl
end K79
set_option maxHeartbeats 4000000
namespace K79
open PySem L2 Evl Lf
variable {P : Program} {w : World} {K : PySem.W.Frag} {mg : Str → Option Value} {base : Heap} {f : Addr} {fd : FuncData}
/-! ### ties_by -/
def onT (p : Nat) (t : Nat × Nat) : Bool := decide (t.1 = p) || decide (t.2 = p)
theorem onT_any (p : Nat) (t : Nat × Nat) : [t.1, t.2].contains p = onT p t := by
  unfold onT
  rw [Bool.eq_iff_iff]
  simp
  omega
theorem rl {n : Nat} (h : n ≤ 6) : (List.range n).length < 100000 := by rw [List.length_range]; omega
def tiesIx (W : Wb) (p : Nat) : List Nat := (W.ts.zipIdx.filter fun x => onT p x.1).map (·.2)
def pTiesBy (ds : List D) (r : D) : Prop := ∃ (W : Wb) (p : Nat), W.ts.length ≤ 5000 ∧ ds = [W.D, .int p] ∧ r = .list (natsD (tiesIx W p))
theorem sc_ties_by : FnScope ["web", "place", "at", "tie"] ["web", "place"] (defScope (top 17)) := ⟨rfl, rfl, rfl, by decide +kernel, rfl, by decide +kernel, by decide +kernel⟩
theorem en_ties (L : List (Nat × Nat)) : ∀ n : Nat, enD n (L.map tieD) = (L.zipIdx n).map fun x => .tuple [.int (x.2 : Nat), tieD x.1] := by
  induction L with
  | nil => intro n; rfl
  | cons t L ih =>
    intro n
    show _ :: enD (n + 1) (L.map tieD) = _
    rw [ih, List.zipIdx_cons]
    rfl
theorem ok_ties_by (T : Txt mg) (F : Fun K "ties_by" "ties_by" (top 17) f fd) : FnOk P w K mg base CX0 1 f fd ["web", "place"] (pureSp pTiesBy) := by
  refine fn_pure F sc_ties_by (fun ds r h => by obtain ⟨a, p, _, rfl, _⟩ := h; rfl) fun ds r h => ?_
  obtain ⟨W, p, hl, rfl, rfl⟩ := h
  refine ret (lc (xs := W.ts.zipIdx) (rep := fun x => .tuple [.int (x.2 : Nat), tieD x.1]) (kf := fun x => onT p x.1) (g := fun x => .int (x.2 : Nat)) (own := [("at", 2), ("tie", 3)]) (p := .tp (.cons (.nm 2) (.cons (.nm 3) .nil)))
    (lok (IG.of (en_ties W.ts 0) (ig_enT rfl T.enumerate (ge_ixT (v 0 rfl) ge_int .sh (d := .tuple (W.ts.map tieD)) rfl (pix (fun _ _ => rfl))) (fun _ => rfl))) (pg_tp (pgs_cn (pg_nm rfl (.inl rfl)) (pgs_cn (pg_nm rfl (.inl rfl)) pgs_nl (fun _ => rfl)) (fun _ => rfl)) (fun _ => rfl) (fun _ => rfl)) rfl rfl rfl (fun _ _ => rfl))
    (fun x hx => ⟨_, rfl, gts_one ?_, fun _ => v 2 rfl⟩) (by simp; omega) (ni_of rfl)) (.own ?_)
  · have h := any_nat [x.1.1, x.1.2] p
    rw [onT_any] at h
    rw [← h]
    exact gt_cmp (vc 1 rfl) (v 3 rfl) (og_in (dss := natsD [x.1.1, x.1.2]) (.t .sh) (pl_all (k := 0) pl_nats) rfl (by simp [PyData.depth])) rfl
  · have : ((W.ts.zipIdx.filter fun x => onT p x.1).map fun x => PyData.int (x.2 : Nat)) = natsD (tiesIx W p) := by
      unfold tiesIx natsD
      rw [List.map_map]
      rfl
    rw [this]
    exact .ol
theorem tiesIx_len (W : Wb) (p : Nat) : (tiesIx W p).length = W.ts.countP (onT p) := by
  unfold tiesIx
  rw [List.length_map, List.countP_eq_length_filter]
  have : ∀ (L : List (Nat × Nat)) (n : Nat), ((L.zipIdx n).filter fun x => onT p x.1).length = (L.filter (onT p)).length := by
    intro L
    induction L with
    | nil => intro n; rfl
    | cons t L ih =>
      intro n
      rw [List.zipIdx_cons, List.filter_cons, List.filter_cons]
      cases onT p t <;> simp [ih]
  exact this W.ts 0
/-! ### table_by -/
def deg (ts : List (Nat × Nat)) (i : Nat) : Nat := ts.countP (onT i)
def adj (ts : List (Nat × Nat)) (i j : Nat) : Nat := ts.countP fun t => decide (t = (i, j)) || decide (t = (j, i))
def tab (ts : List (Nat × Nat)) (i j : Nat) : Int := if i = j then (deg ts i : Int) else -(adj ts i j : Int)
def rowT (W : Wb) (i : Nat) : List Int := (List.range W.n).map (tab W.ts i)
def tableD (W : Wb) : D := .tuple ((List.range W.n).map fun i => hpD (rowT W i))
structure Wb.Ok (W : Wb) : Prop where
  n1 : 1 ≤ W.n
  n6 : W.n ≤ 6
  m : W.ts.length ≤ 12
  lt : ∀ t, t ∈ W.ts → t.1 < t.2 ∧ t.2 < W.n
/-- a square table -/
def sq (n : Nat) (e : Nat → Nat → Int) : List (List D) := (List.range n).map fun i => (List.range n).map fun j => .int (e i j)
def up2 (e : Nat → Nat → Int) (a b : Nat) (x : Int) : Nat → Nat → Int := fun i j => if a = i ∧ b = j then x else e i j
theorem sq_at {n : Nat} {e : Nat → Nat → Int} {i : Nat} (h : i < n) : (sq n e)[i]? = some ((List.range n).map fun j => .int (e i j)) := by
  unfold sq
  rw [List.getElem?_map, List.getElem?_range h]
  rfl
theorem row_at {n : Nat} {e : Nat → Int} {j : Nat} (h : j < n) : atI ((List.range n).map fun j => PyData.int (e j)) (j : Int) = some (.int (e j)) := atI_at (by rw [List.getElem?_map, List.getElem?_range h]; rfl)
theorem sq_set {n : Nat} {e : Nat → Nat → Int} {a b : Nat} {x : Int} (ha : a < n) (hb : b < n) : (sq n e).set a (((List.range n).map fun j => PyData.int (e a j)).set b (.int x)) = sq n (up2 e a b x) := by
  refine List.ext_getElem? fun i => ?_
  by_cases hi : a = i
  · subst hi
    rw [List.getElem?_set_self (by simpa [sq] using ha), sq_at ha]
    congr 1
    refine List.ext_getElem? fun j => ?_
    by_cases hj : b = j
    · subst hj
      rw [List.getElem?_set_self (by simpa using hb), List.getElem?_map, List.getElem?_range hb]
      simp [up2]
    · rw [List.getElem?_set_ne hj, List.getElem?_map, List.getElem?_map]
      unfold up2
      cases h : (List.range n)[j]? with
      | none => rfl
      | some k =>
        have := List.getElem?_eq_some_iff.mp h
        obtain ⟨h1, h2⟩ := this
        simp at h2
        subst h2
        simp [hj]
  · rw [List.getElem?_set_ne hi]
    unfold sq
    rw [List.getElem?_map, List.getElem?_map]
    cases h : (List.range n)[i]? with
    | none => rfl
    | some k =>
      obtain ⟨h1, h2⟩ := List.getElem?_eq_some_iff.mp h
      simp at h2
      subst h2
      simp [up2, hi]
section
variable {S : Stat} {Γ τ : List Sl} {o ea eb : Expr} {q1 q2 : Pos} {i n a b : Nat} {e : Nat → Nat → Int} {x : Int}
theorem ge_sq (ho : GE S o Γ τ Γ (.bo i)) (h1 : GE S ea Γ (.bo i :: τ) Γ (.sh (.int a))) (h2 : GE S eb Γ (.boi i a :: τ) Γ (.sh (.int b))) (hs : Γ[i]? = some (.oll (sq n e))) (ha : a < n) (hb : b < n) (p1 : ∀ o i, subscripted ea false o i = operate [o, i] (getItem o i)) (p2 : ∀ o i, subscripted eb false o i = operate [o, i] (getItem o i)) :
    GE S (.Subscript (.Subscript o ea q1) eb q2) Γ τ Γ (.sh (.int (e a b))) :=
  ge_ixL (ge_ixO ho h1 hs rfl (by simp [sq]; exact ha) p1) h2 (.boi hs (sq_at ha)) (row_at hb) p2
theorem tg_sq (ho : ∀ τ, GE S o Γ τ Γ (.bo i)) (h1 : ∀ τ, GE S ea Γ τ Γ (.sh (.int a))) (h2 : ∀ τ, GE S eb Γ τ Γ (.sh (.int b))) (hs : Γ[i]? = some (.oll (sq n e))) (ha : a < n) (hb : b < n) (p1 : ∀ o i, subscripted ea false o i = operate [o, i] (getItem o i))
    (hx : ∀ env v, assign (.Subscript (.Subscript o ea q1) eb q2) env v = (do
      let ov ← holding [v] (eval (.Subscript o ea q1) env)
      let iv ← holding [v, ov] (eval eb env)
      standAt q2
      holding [v, ov, iv] (setItem ov iv v)
      release [v, ov, iv] [])) : TgG S (.Subscript (.Subscript o ea q1) eb q2) Γ (.int x) (Γ.set i (.oll (sq n (up2 e a b x)))) := by
  have := tg_sub2 (pos := q2) (d := .int x) (fun τ => ge_ixO (pos := q1) (ho τ) (h1 _) hs rfl (by simp [sq]; exact ha) p1) h2 hs (sq_at ha) (kn := b) (ixN_at (by simp; exact hb)) hx
  rwa [sq_set ha hb] at this
end
theorem tab_nil (i j : Nat) : tab [] i j = 0 := by unfold tab deg adj; split <;> rfl
theorem tab_snoc (ts : List (Nat × Nat)) (a b : Nat) (hab : a ≠ b) : up2 (up2 (up2 (up2 (tab ts) a a (tab ts a a + 1)) b b (tab ts b b + 1)) a b (tab ts a b - 1)) b a (tab ts b a - 1) = tab (ts ++ [(a, b)]) := by
  funext i j
  unfold up2 tab deg adj onT
  simp only [List.countP_append, List.countP_cons, List.countP_nil]
  by_cases h1 : a = i <;> by_cases h2 : b = i <;> by_cases h3 : a = j <;> by_cases h4 : b = j <;> simp_all <;> omega
theorem sc_table_by : FnScope ["web", "rows", "a", "b", "place", "late", "row"] ["web"] (defScope (top 19)) := ⟨rfl, rfl, rfl, by decide +kernel, rfl, by decide +kernel, by decide +kernel⟩
def pTableBy (ds : List D) (r : D) : Prop := ∃ W : Wb, W.Ok ∧ ds = [W.D] ∧ r = tableD W
theorem ok_table_by (T : Txt mg) (F : Fun K "table_by" "table_by" (top 19) f fd) : FnOk P w K mg base CX0 1 f fd ["web"] (pureSp pTableBy) := by
  refine fn_pure F sc_table_by (fun ds r h => by obtain ⟨a, _, rfl, _⟩ := h; rfl) fun ds r h => ?_
  obtain ⟨W, ok, rfl, rfl⟩ := h
  have n6 := ok.n6
  refine seq (asgO (xs := List.range W.n) (rep := fun i => .int (i : Nat)) (g2 := fun _ => (List.range W.n).map fun _ => .int 0) (own := [("place", 4)]) (p := .nm 4) 1
    (lok (IG.of (rg1_eq W.n) (ig_rg1 rfl T.range (ge_ixT (vc 0 rfl) ge_int .sh (d := .int W.n) rfl (pix (fun _ _ => rfl))) (by omega) (fun _ => rfl))) (pg_nm rfl (.inl rfl)) rfl rfl rfl (fun _ _ => rfl))
    (fun x hx => ⟨_, rfl, lcA (xs := List.range W.n) (rep := fun i => .int (i : Nat)) (g := fun _ => .int 0) (own := [("late", 5)]) (p := .nm 5) (lok (IG.of (rg1_eq W.n) (ig_rg1 rfl T.range (ge_ixT (vc 0 rfl) ge_int .sh (d := .int W.n) rfl (pix (fun _ _ => rfl))) (by omega) (fun _ => rfl))) (pg_nm rfl (.inl rfl)) rfl rfl rfl (fun _ _ => rfl)) (fun y hy => ⟨_, rfl, ge_int⟩) (rl n6) (ni_of rfl)⟩) (rl n6) rfl rfl rfl (Nat.le_of_ble_eq_true rfl) rfl rfl) ?_
  refine gss_cons (Mid := fun Γ => ∃ sa sb, Γ = [.sh W.D, .oll (sq W.n (tab W.ts)), sa, sb, .no, .no, .no]) (gs_for (L := W.ts.map tieD) (p := .tp (.cons (.nm 2) (.cons (.nm 3) .nil))) (I := fun k Γ => ∃ sa sb, Γ = [.sh W.D, .oll (sq W.n (tab (W.ts.take k))), sa, sb, .no, .no, .no])
    (ig_tup (ge_ixT (vc 0 rfl) ge_int .sh (d := .tuple (W.ts.map tieD)) rfl (pix (fun _ _ => rfl)))) (pg_tp (pgs_cn (pg_nm rfl (.inl rfl)) (pgs_cn (pg_nm rfl (.inl rfl)) pgs_nl (fun _ => rfl)) (fun _ => rfl)) (fun _ => rfl) (fun _ => rfl)) ⟨.no, .no, ?_⟩ ?_ ?_ (fun _ _ => rfl)) ?_
  · have : (List.range W.n).map (fun _ => (List.range W.n).map fun _ => PyData.int 0) = sq W.n (tab []) := by
      unfold sq
      simp [tab_nil]
    rw [this]
    rfl
  · rintro k Γ d ⟨sa, sb, rfl⟩ hd
    rw [List.getElem?_map] at hd
    cases ht : W.ts[k]? with
    | none => rw [ht] at hd; cases hd
    | some t =>
      rw [ht] at hd
      cases hd
      obtain ⟨a, b⟩ := t
      obtain ⟨hab, hbn⟩ := ok.lt _ (List.mem_of_getElem? ht)
      have hab : a < b := hab
      have hbn : b < W.n := hbn
      have han : a < W.n := by omega
      refine ⟨_, rfl, ?_⟩
      refine seq (gs_asgT (t2 (ge_bin (ge_sq (bo 1 rfl) (v 2 rfl) (v 2 rfl) rfl han han (fun _ _ => rfl) (fun _ _ => rfl)) ge_int og_add) (ge_bin (ge_sq (bo 1 rfl) (v 3 rfl) (v 3 rfl) rfl hbn hbn (fun _ _ => rfl) (fun _ _ => rfl)) ge_int og_add) (fun _ => rfl) (fun _ => rfl))
        (tg_tup (tz_cons (tg_sq (fun τ => bo 1 rfl) (fun τ => v 2 rfl) (fun τ => v 2 rfl) rfl han han (fun _ _ => rfl) (fun _ _ => rfl)) (tz_cons (tg_sq (fun τ => bo 1 rfl) (fun τ => v 3 rfl) (fun τ => v 3 rfl) rfl hbn hbn (fun _ _ => rfl) (fun _ _ => rfl)) tz_nil (fun _ => rfl)) (fun _ => rfl)) rfl (fun _ => rfl) (fun _ => rfl)) rfl (fun _ _ => rfl) (fun X _ => sw_sub2 X.env) (fun _ => rfl)) ?_
      refine seq (gs_asgT (t2 (ge_bin (ge_sq (bo 1 rfl) (v 2 rfl) (v 3 rfl) rfl han hbn (fun _ _ => rfl) (fun _ _ => rfl)) ge_int og_sub) (ge_bin (ge_sq (bo 1 rfl) (v 3 rfl) (v 2 rfl) rfl hbn han (fun _ _ => rfl) (fun _ _ => rfl)) ge_int og_sub) (fun _ => rfl) (fun _ => rfl))
        (tg_tup (tz_cons (tg_sq (fun τ => bo 1 rfl) (fun τ => v 2 rfl) (fun τ => v 3 rfl) rfl han hbn (fun _ _ => rfl) (fun _ _ => rfl)) (tz_cons (tg_sq (fun τ => bo 1 rfl) (fun τ => v 3 rfl) (fun τ => v 2 rfl) rfl hbn han (fun _ _ => rfl) (fun _ _ => rfl)) tz_nil (fun _ => rfl)) (fun _ => rfl)) rfl (fun _ => rfl) (fun _ => rfl)) rfl (fun _ _ => rfl) (fun X _ => sw_sub2 X.env) (fun _ => rfl)) ?_
      refine gss_nil ⟨.sh (.int a), .sh (.int b), ?_⟩
      have e1 : W.ts.take (k + 1) = W.ts.take k ++ [(a, b)] := by rw [List.take_succ, ht]; rfl
      rw [e1, ← tab_snoc _ a b (by omega)]
      have e2 : ∀ x y, up2 (up2 (tab (W.ts.take k)) a a x) b b y a b = tab (W.ts.take k) a b := fun x y => by unfold up2; rw [if_neg (by omega), if_neg (by omega)]
      have e3 : ∀ x y, up2 (up2 (tab (W.ts.take k)) a a x) b b y b a = tab (W.ts.take k) b a := fun x y => by unfold up2; rw [if_neg (by omega), if_neg (by omega)]
      have e4 : ∀ z, up2 z a b (tab (W.ts.take k) a b - 1) b a = z b a := fun z => by unfold up2; rw [if_neg (by omega)]
      simp only [List.set_cons_succ, List.set_cons_zero, e2, e3]
  · rintro Γ ⟨sa, sb, rfl⟩
    refine ⟨sa, sb, ?_⟩
    rw [List.length_map, List.take_length]
  · rintro Γ ⟨sa, sb, rfl⟩
    refine ret (ge_tuple rfl T.tuple (lcA (xs := List.range W.n) (rep := fun i => .list ((List.range W.n).map fun j => .int (tab W.ts i j))) (g := fun i => hpD (rowT W i)) (own := [("row", 6)]) (p := .nm 6)
      (lok (IG.of ?_ (ig_list (ge_frzB (bo 1 rfl) rfl .oll (by simp)))) (pg_nm rfl (.inl rfl)) rfl rfl rfl (fun _ _ => rfl)) (fun x hx => ⟨_, rfl, ?_⟩) (rl n6) (ni_of rfl)) .ol (fun _ => rfl)) (retS rfl)
    · unfold sq
      rw [List.map_map]
      rfl
    · have : hpD (rowT W x) = .tuple ((List.range W.n).map fun j => .int (tab W.ts x j)) := by
        unfold hpD rowT
        rw [List.map_map]
        rfl
      rw [this]
      exact ge_tuple rfl T.tuple (v 6 rfl) .sh (fun _ => rfl)
end K79
set_option maxHeartbeats 4000000
namespace K79
open PySem L2 Evl Lf
variable {P : Program} {w : World} {K : PySem.W.Frag} {mg : Str → Option Value} {base : Heap} {f : Addr} {fd : FuncData}
/-! ### given_by_row -/
theorem cnt_le {ts : List (Nat × Nat)} {i : Nat} : deg ts i ≤ ts.length := List.countP_le_length
theorem adj_le {ts : List (Nat × Nat)} {i j : Nat} : adj ts i j ≤ ts.length := List.countP_le_length
theorem tab_small {W : Wb} (ok : W.Ok) (i j : Nat) : -13 < tab W.ts i j ∧ tab W.ts i j < 13 := by
  have h1 := ok.m
  have h2 := @cnt_le W.ts i
  have h3 := @adj_le W.ts i j
  unfold tab
  split <;> omega
theorem small64 {x : Int} (h : -13 < x ∧ x < 13) : -(2 ^ 64) < x ∧ x < 2 ^ 64 := by omega
def rowsL (W : Wb) : List (List Int) := (List.range W.n).map (rowT W)
theorem tableD_eq (W : Wb) : tableD W = .tuple ((rowsL W).map hpD) := by
  unfold tableD rowsL
  rw [List.map_map]
  rfl
def dotL (r l : List Int) : Int := ((r.zip l).map fun p => p.1 * p.2).sum
def given (W : Wb) (h r : List Int) : List Int := (h.zip (rowsL W)).map fun p => p.1 - dotL r p.2
theorem zp_hp (a : List Int) (b : List (List Int)) : zpD (a.map .int) (b.map hpD) = (a.zip b).map fun p => .tuple [.int p.1, hpD p.2] := by
  unfold zpD
  rw [List.zip_map, List.map_map]
  rfl
def pGiven (ds : List D) (r : D) : Prop := ∃ (W : Wb) (h q : List Int), W.Ok ∧ h.length ≤ 50 ∧ q.length ≤ 50 ∧ ds = [W.D, hpD h, hpD q] ∧ r = hpD (given W h q)
theorem sc_given : FnScope ["web", "heap", "row", "found", "own", "line", "many", "number"] ["web", "heap", "row"] (defScope (top 28)) := ⟨rfl, rfl, rfl, by decide +kernel, rfl, by decide +kernel, by decide +kernel⟩
theorem ok_given (T : Txt mg) (F : Fun K "given_by_row" "given_by_row" (top 28) f fd) (F1 : FnG P w K mg base "table_by" 1 pTableBy) : FnOk P w K mg base CX0 2 f fd ["web", "heap", "row"] (pureSp pGiven) := by
  refine fn_pure F sc_given (fun ds r h => by obtain ⟨_, _, _, _, _, _, rfl, _⟩ := h; rfl) fun ds r h => ?_
  obtain ⟨W, h, q, ok, hl, hq, rfl, rfl⟩ := h
  refine seq (asg 3 l0 rfl rfl rfl (.inl rfl) (Nat.le_of_ble_eq_true rfl) (fun _ => rfl)) ?_
  refine gss_cons (Mid := fun Γ => ∃ sa sb, Γ = [.sh W.D, .sh (hpD h), .sh (hpD q), .ol ((given W h q).map .int), sa, sb, .no, .no])
    (gs_for (L := (h.zip (rowsL W)).map fun p => .tuple [.int p.1, hpD p.2]) (p := .tp (.cons (.nm 4) (.cons (.nm 5) .nil))) (I := fun k Γ => ∃ sa sb, Γ = [.sh W.D, .sh (hpD h), .sh (hpD q), .ol (((h.zip (rowsL W)).take k).map fun p => .int (p.1 - dotL q p.2)), sa, sb, .no, .no])
    (IG.of (zp_hp h (rowsL W)) (ig_zpT rfl T.zip (v 1 rfl) (geq (c1 F1 (v 0 rfl) ⟨W, ok, rfl, rfl⟩ (Nat.le_of_ble_eq_true rfl) rfl rfl (fun _ => rfl)) (tableD_eq W)) (fun _ => rfl) (fun _ => rfl))) (pg_tp (pgs_cn (pg_nm rfl (.inl rfl)) (pgs_cn (pg_nm rfl (.inl rfl)) pgs_nl (fun _ => rfl)) (fun _ => rfl)) (fun _ => rfl) (fun _ => rfl)) ⟨.no, .no, rfl⟩ ?_ ?_ (fun _ _ => rfl)) ?_
  · rintro k Γ d ⟨sa, sb, rfl⟩ hd
    rw [List.getElem?_map] at hd
    cases ht : (h.zip (rowsL W))[k]? with
    | none => rw [ht] at hd; cases hd
    | some t =>
      rw [ht] at hd
      cases hd
      obtain ⟨a, l⟩ := t
      have hmem := List.mem_of_getElem? ht
      have hlr : l ∈ rowsL W := (List.of_mem_zip hmem).2
      refine ⟨_, rfl, ?_⟩
      refine seq (gs_app (ds0 := ((h.zip (rowsL W)).take k).map fun p => .int (p.1 - dotL q p.2)) (bo 3 rfl) rfl (ge_bin (v 4 rfl) (ge_sum (L := q.zip l) (g := fun p => .int (p.1 * p.2)) (k := fun p => p.1 * p.2) rfl T.sum
        (lcA (xs := q.zip l) (rep := fun p => .tuple [.int p.1, .int p.2]) (g := fun p => .int (p.1 * p.2)) (own := [("many", 6), ("number", 7)]) (p := .tp (.cons (.nm 6) (.cons (.nm 7) .nil)))
          (lok (IG.of (zp_ints q l) (ig_zpT rfl T.zip (v 2 rfl) (v 5 rfl) (fun _ => rfl) (fun _ => rfl))) (pg_tp (pgs_cn (pg_nm rfl (.inl rfl)) (pgs_cn (pg_nm rfl (.inl rfl)) pgs_nl (fun _ => rfl)) (fun _ => rfl)) (fun _ => rfl) (fun _ => rfl)) rfl rfl rfl (fun _ _ => rfl))
          (fun x hx => ⟨_, rfl, ge_bin (v 6 rfl) (v 7 rfl) (og_mul (.inr ?_))⟩) (by simp; omega) (ni_of rfl)) (.l .ol) (fun _ => rfl) (fun _ => rfl)) og_sub) rfl ?_ rfl (fun _ _ => rfl) rfl (fun _ => rfl)) ?_
      · have hx2 := (List.of_mem_zip hx).2
        obtain ⟨i, _, rfl⟩ := List.mem_map.mp hlr
        obtain ⟨j, _, e⟩ := List.mem_map.mp hx2
        rw [← e]
        exact small64 (tab_small ok i j)
      · simp
        omega
      · refine gss_nil ⟨.sh (.int a), .sh (hpD l), ?_⟩
        rw [List.take_succ, ht, List.map_append]
        rfl
  · rintro Γ ⟨sa, sb, rfl⟩
    refine ⟨sa, sb, ?_⟩
    rw [List.length_map, List.take_length]
    unfold given
    rw [List.map_map]
    rfl
  · rintro Γ ⟨sa, sb, rfl⟩
    exact ret (ge_tuple rfl T.tuple (bo 3 rfl) (.bo rfl) (fun _ => rfl)) (retS rfl)
/-! ### turned_heap -/
theorem deg_len (W : Wb) (p : Nat) : PyData.int ((natsD (tiesIx W p)).length : Nat) = .int (deg W.ts p) := by
  unfold natsD
  rw [List.length_map, tiesIx_len]
  rfl
def turn0 (W : Wb) (h : List Int) : List Int := h.zipIdx.map fun x => (deg W.ts x.2 : Int) - 1 - x.1
def turned (W : Wb) (h : List Int) (p : Nat) (m : Int) : List Int := (turn0 W h).set p (m - (turn0 W h).sum + (turn0 W h).getD p 0)
theorem en_ints (h : List Int) : ∀ n, enD n (h.map .int) = (h.zipIdx n).map fun x => .tuple [.int (x.2 : Nat), .int x.1] := by
  induction h with
  | nil => intro n; rfl
  | cons t L ih =>
    intro n
    show _ :: enD (n + 1) (L.map .int) = _
    rw [ih, List.zipIdx_cons]
    rfl
theorem at_ints {h : List Int} {i : Nat} (hi : i < h.length) : atI (h.map PyData.int) (i : Int) = some (.int (h.getD i 0)) := atI_at (by
  rw [List.getElem?_map, List.getElem?_eq_getElem hi, List.getD_eq_getElem?_getD, List.getElem?_eq_getElem hi]
  rfl)
def pTurned (ds : List D) (r : D) : Prop := ∃ (W : Wb) (h : List Int) (p : Nat) (m : Int), W.Ok ∧ h.length ≤ 50 ∧ p < h.length ∧ ds = [W.D, hpD h, .int p, .int m] ∧ r = hpD (turned W h p m)
end K79
set_option maxHeartbeats 4000000
namespace K79
open PySem L2 Evl Lf
variable {P : Program} {w : World} {K : PySem.W.Frag} {mg : Str → Option Value} {base : Heap} {f : Addr} {fd : FuncData}
/-! ### topple_row -/
def topRow (W : Wb) (h : List Int) (p : Nat) : List Int := (List.range W.n).map fun i => if i = p then 0 else (h.getD i 0).fdiv (deg W.ts i)
def pTopRow (ds : List D) (r : D) : Prop := ∃ (W : Wb) (h : List Int) (p : Nat), W.Ok ∧ h.length = W.n ∧ (∀ i, i < W.n → 0 < deg W.ts i) ∧ ds = [W.D, hpD h, .int p] ∧ r = hpD (topRow W h p)
/-! ### toppled_by -/
def maxL : List Int → Int
  | [] => 0
  | x :: xs => xs.foldl max x
def topStep (W : Wb) (p : Nat) (s : List Int × List Int) : List Int × List Int := (given W s.1 (topRow W s.1 p), (s.2.zip (topRow W s.1 p)).map fun x => x.1 + x.2)
def topIt (W : Wb) (p : Nat) (h : List Int) : Nat → List Int × List Int
  | 0 => (h, List.replicate W.n 0)
  | k + 1 => topStep W p (topIt W p h k)
def topEnd (W : Wb) (p : Nat) (s : List Int × List Int) : Prop := maxL (topRow W s.1 p) ≤ 0
theorem given_len {W : Wb} {h r : List Int} (hl : h.length = W.n) : (given W h r).length = W.n := by unfold given rowsL; simp [hl]
theorem topIt_len {W : Wb} {p : Nat} {h : List Int} (hl : h.length = W.n) : ∀ k, (topIt W p h k).1.length = W.n ∧ (topIt W p h k).2.length = W.n
  | 0 => ⟨hl, by simp [topIt]⟩
  | k + 1 => by
    obtain ⟨h1, h2⟩ := topIt_len (p := p) hl k
    exact ⟨given_len h1, by simp [topIt, topStep, topRow, h2]⟩
def pToppledBy (ds : List D) (r : D) : Prop := ∃ (W : Wb) (h : List Int) (p k : Nat), W.Ok ∧ 2 ≤ W.n ∧ h.length = W.n ∧ (∀ i, i < W.n → 0 < deg W.ts i) ∧ topEnd W p (topIt W p h k) ∧ (∀ j, j < k → ¬ topEnd W p (topIt W p h j)) ∧ ds = [W.D, hpD h, .int p] ∧ r = .tuple [hpD (topIt W p h k).1, hpD (topIt W p h k).2]
end K79
set_option maxHeartbeats 4000000
namespace K79
open PySem L2 Evl Lf
variable {P : Program} {w : World} {K : PySem.W.Frag} {mg : Str → Option Value} {base : Heap} {f : Addr} {fd : FuncData}
structure Wb.Good (W : Wb) : Prop where
  ok : W.Ok
  srt : (W.ts.map tieD).mergeSort (PySem.W.dataLe false id) = W.ts.map tieD
  con : ∀ A : Nat → Prop, A 0 → (∀ t, t ∈ W.ts → (A t.1 ↔ A t.2)) → ∀ i, i < W.n → A i
section
variable {S : Stat} {Γ : List Sl} {c : Expr} {bs : List Stmt} {pos : Pos} {E : Endv} {rest : List Stmt} {Γ1 : List Sl}
/-- a test that does not hold: the raise is passed by -/
theorem noif (hc : GT S c Γ [] Γ1 false) (h : GSs S rest Γ1 E) : GSs S (.If c bs [] pos :: rest) Γ E :=
  seq (gs_if hc (fun z => by cases z) fun _ => gss_nil rfl) h
end
/-! ### the asking defs -/
def pIsWebOf (ds : List D) (r : D) : Prop := ∃ W : Wb, W.Good ∧ ds = [W.D] ∧ r = .bool true
def pNeedWeb (ds : List D) (r : D) : Prop := ∃ W : Wb, W.Good ∧ ds = [W.D] ∧ r = .none
theorem sc_need_web : FnScope ["web"] ["web"] (defScope (top 16)) := ⟨rfl, rfl, rfl, by decide +kernel, rfl, by decide +kernel, by decide +kernel⟩
theorem ok_need_web (F : Fun K "need_web" "need_web" (top 16) f fd) (F1 : FnG P w K mg base "is_web_of" 5 pIsWebOf) : FnOk P w K mg base CX0 6 f fd ["web"] (pureSp pNeedWeb) := by
  refine fn_pure F sc_need_web (fun ds r h => by obtain ⟨_, _, rfl, _⟩ := h; rfl) fun ds r h => ?_
  obtain ⟨W, g, rfl, rfl⟩ := h
  exact noif (gt_not (k := true) (gt_val (c1 F1 (v 0 rfl) ⟨W, g, rfl, rfl⟩ (Nat.le_of_ble_eq_true rfl) rfl rfl (fun _ => rfl)) (fun _ _ => rfl))) (gss_nil rfl)
def pIsPlaceOf (ds : List D) (r : D) : Prop := ∃ (W : Wb) (p : Nat), p < W.n ∧ ds = [W.D, .int p] ∧ r = .bool true
def pNeedPlace (ds : List D) (r : D) : Prop := ∃ (W : Wb) (p : Nat), p < W.n ∧ ds = [W.D, .int p] ∧ r = .none
def pNeedHeap (ds : List D) (r : D) : Prop := ∃ (W : Wb) (h : List Int), W.Good ∧ h.length = W.n ∧ ds = [W.D, hpD h] ∧ r = .none
theorem sc_need_heap : FnScope ["web", "heap"] ["web", "heap"] (defScope (top 22)) := ⟨rfl, rfl, rfl, by decide +kernel, rfl, by decide +kernel, by decide +kernel⟩
theorem ok_need_heap (F : Fun K "need_heap" "need_heap" (top 22) f fd) (F1 : FnG P w K mg base "need_web" 6 pNeedWeb) (F2 : FnG P w K mg base "is_heap_of" 3 pIsHeapOf) : FnOk P w K mg base CX0 7 f fd ["web", "heap"] (pureSp pNeedHeap) := by
  refine fn_pure F sc_need_heap (fun ds r h => by obtain ⟨_, _, _, _, rfl, _⟩ := h; rfl) fun ds r h => ?_
  obtain ⟨W, h, g, hl, rfl, rfl⟩ := h
  have n6 := g.ok.n6
  refine seq (gs_expr (c1 F1 (v 0 rfl) ⟨W, g, rfl, rfl⟩ (Nat.le_of_ble_eq_true rfl) rfl rfl (fun _ => rfl)) rfl (fun _ => rfl)) ?_
  exact noif (gt_not (k := true) (gt_val (c2 F2 (v 0 rfl) (v 1 rfl) ⟨W, h, by omega, hl, rfl, rfl⟩ (Nat.le_of_ble_eq_true rfl) rfl rfl (fun _ => rfl) (fun _ => rfl) (fun _ => rfl)) (fun _ _ => rfl))) (gss_nil rfl)
def pNeedTwo (ds : List D) (r : D) : Prop := ∃ (W : Wb) (a b : List Int), W.Good ∧ a.length = W.n ∧ b.length = W.n ∧ ds = [W.D, hpD a, hpD b] ∧ r = .none
def pWithoutCoins (ds : List D) (r : D) : Prop := ∃ (W : Wb) (a : List Int), W.Good ∧ a.length = W.n ∧ a.sum = 0 ∧ ds = [W.D, hpD a] ∧ r = .bool true
theorem ge_sumH {S : Stat} {Γ Γ1 τ : List Sl} {e : Expr} {s : Sl} {p pos : Pos} {h : List Int} (hg : GlB S "sum") (hm : S.mg "sum" = none) (ha : GE S e Γ τ Γ1 s) (r : RdS Γ1 s (h.map PyData.int)) (he : ∀ env, starEach [e] env = (false, eval e env) :: starEach [] env) :
    GE S (.Call (.Name "sum" p) [e] [] pos) Γ τ Γ1 (.sh (.int h.sum)) := by
  have := ge_sum (p := p) (pos := pos) (L := h) (g := .int) (k := fun x => x) hg hm ha r (fun _ => rfl) he
  rwa [List.map_id'] at this
def pNeedEmpty (ds : List D) (r : D) : Prop := ∃ (W : Wb) (a : List Int), W.Good ∧ a.length = W.n ∧ a.sum = 0 ∧ ds = [W.D, hpD a] ∧ r = .none
def pNeedEmpty2 (ds : List D) (r : D) : Prop := ∃ (W : Wb) (a b : List Int), W.Good ∧ a.length = W.n ∧ b.length = W.n ∧ a.sum = 0 ∧ b.sum = 0 ∧ ds = [W.D, hpD a, hpD b] ∧ r = .none
/-! ### added -/
def pAdded (ds : List D) (r : D) : Prop := ∃ (W : Wb) (a b : List Int), W.Good ∧ a.length = W.n ∧ b.length = W.n ∧ ds = [W.D, hpD a, hpD b, .int 1] ∧ r = hpD (zipP a b 1)
/-! ### need_paid, toppled -/
def pNeedPaid (ds : List D) (r : D) : Prop := ∃ (W : Wb) (h : List Int) (p : Nat), W.Good ∧ h.length = W.n ∧ p < W.n ∧ (∀ i, i < W.n → i ≠ p → 0 ≤ h.getD i 0) ∧ ds = [W.D, hpD h, .int p] ∧ r = .none
theorem zipIdx_at {h : List Int} {x : Int × Nat} (hx : x ∈ h.zipIdx) : x.2 < h.length ∧ h.getD x.2 0 = x.1 := by
  obtain ⟨h1, h2⟩ := List.mem_zipIdx' hx
  exact ⟨h1, by rw [List.getD_eq_getElem?_getD, List.getElem?_eq_getElem h1]; exact h2.symm⟩
def pToppled (ds : List D) (r : D) : Prop := ∃ (W : Wb) (h : List Int) (p k : Nat), W.Good ∧ 2 ≤ W.n ∧ p < W.n ∧ h.length = W.n ∧ (∀ i, i < W.n → 0 < deg W.ts i) ∧ (∀ i, i < W.n → i ≠ p → 0 ≤ h.getD i 0) ∧ topEnd W p (topIt W p h k) ∧ (∀ j, j < k → ¬ topEnd W p (topIt W p h j)) ∧ ds = [W.D, hpD h, .int p] ∧ r = .tuple [hpD (topIt W p h k).1, hpD (topIt W p h k).2]
end K79
set_option maxHeartbeats 4000000
namespace K79
open PySem L2 Evl Lf
variable {P : Program} {w : World} {K : PySem.W.Frag} {mg : Str → Option Value} {base : Heap} {f : Addr} {fd : FuncData}
/-! ### rounds_by -/
theorem nk_sh (d : D) : noLk (.sh d) = true := rfl
theorem nk_ol (d : List D) : noLk (.ol d) = true := rfl
theorem nk_od (d : List (Key × D)) : noLk (.od d) = true := rfl
theorem nk_no : noLk .no = true := rfl
theorem hno_of {Γ : List Sl} (h : Γ.all noLk = true) : ∀ (j : Nat) (s : Sl), Γ[j]? = some s → noLk s = true := fun j s e => List.all_eq_true.mp h s (List.mem_of_getElem? e)
def kvB (B : List Nat) : List (Key × D) := B.map fun i : Nat => (.inl (i : Int), .bool true)
theorem nat_ex {B : List Nat} {i : Nat} : (∃ x, x ∈ B ∧ (x : Int) = (i : Int)) ↔ i ∈ B :=
  ⟨fun ⟨x, hx, e⟩ => by have : x = i := by omega
                        exact this ▸ hx, fun h => ⟨i, h, rfl⟩⟩
theorem at_last {α : Type} {xs : List α} {a : α} : atI (xs ++ [a]) (-1) = some a := by
  unfold atI ixN
  rw [if_neg (by omega), if_pos (by simp; omega)]
  show (xs ++ [a])[_]? = _
  have : ((-1 : Int) + ((xs ++ [a]).length : Nat)).toNat = xs.length := by simp; omega
  rw [this]
  simp
theorem cut_last {α : Type} {xs : List α} {a : α} : cut (xs ++ [a]) none (some (-1)) = xs := by
  unfold cut
  have : HT.sIx (xs ++ [a]).length (xs ++ [a]).length (some (-1)) = xs.length := by
    unfold HT.sIx
    simp
    omega
  rw [this, HT.sIx_none]
  simp
theorem kvB_val (B : List Nat) (i : Nat) : (valD (kvB B) (.inl (i : Int))).isSome = B.contains i := by
  unfold valD kvB
  rw [Option.isSome_map, Bool.eq_iff_iff, List.find?_isSome]
  simp
  exact ⟨fun ⟨_, a, h1, h2, _⟩ => by have : a = i := by omega
                                     exact this ▸ h1, fun h => ⟨_, i, h, rfl, rfl⟩⟩
theorem kvB_put (B : List Nat) (i : Nat) (h : B.contains i = false) : putD (kvB B) (.inl (i : Int)) (.bool true) = kvB (B ++ [i]) := by
  have : ((kvB B).any fun kv => decide (kv.1 = Sum.inl (i : Int))) = false := by
    rw [← h, Bool.eq_iff_iff]
    unfold kvB
    simp
    exact nat_ex
  unfold putD
  rw [if_neg (by rw [this]; simp)]
  unfold kvB
  simp
theorem kvB_keys (B : List Nat) : ((kvB B).map (·.1)).map keyD = B.map fun i => .int (i : Nat) := by
  unfold kvB
  rw [List.map_map, List.map_map]
  rfl
def tiesB (W : Wb) (B : List Nat) (s : Nat) : Int := -(B.map (tab W.ts s)).sum
def ctch (W : Wb) (h : List Int) (B : List Nat) (s : Nat) : Bool := !B.contains s && decide (h.getD s 0 < tiesB W B s)
def lateOf (W : Wb) (h : List Int) (B : List Nat) : List Nat := (List.range W.n).filter (ctch W h B)
def burnB (W : Wb) (h : List Int) (p : Nat) : Nat → List Nat
  | 0 => [p]
  | k + 1 => burnB W h p k ++ lateOf W h (burnB W h p k)
def lateK (W : Wb) (h : List Int) (p k : Nat) : List Nat := lateOf W h (burnB W h p k)
def lstD (A : List Nat) : D := .list (natsD A)
theorem pl_lst {A : List Nat} : Pl 1 (lstD A) := fun d hd => pl_nats (k := 0) d hd
theorem pl_nil : Pl 1 (.list []) := fun d hd => by cases hd
theorem eqv_nil (A : List Nat) : PyData.eqv (lstD A) (.list []) = decide (A = []) := by
  rw [Bool.eq_iff_iff, pl_eqv pl_lst pl_nil, decide_eq_true_eq]
  unfold lstD natsD
  simp
def foundK (W : Wb) (h : List Int) (p k : Nat) : List (List Nat) := [p] :: (List.range k).map (lateK W h p)
theorem late_lt {W : Wb} {h : List Int} {B : List Nat} {s : Nat} (hs : s ∈ lateOf W h B) : s < W.n ∧ B.contains s = false := by
  obtain ⟨h1, h2⟩ := List.mem_filter.mp hs
  refine ⟨by simpa using h1, ?_⟩
  unfold ctch at h2
  simp only [Bool.and_eq_true] at h2
  simpa using h2.1
theorem burn_lt {W : Wb} {h : List Int} {p : Nat} (hp : p < W.n) : ∀ k, (burnB W h p k).Nodup ∧ ∀ i, i ∈ burnB W h p k → i < W.n
  | 0 => by simp [burnB]; exact hp
  | k + 1 => by
    obtain ⟨h1, h2⟩ := burn_lt (h := h) hp k
    unfold burnB
    refine ⟨List.nodup_append.mpr ⟨h1, List.nodup_range.sublist List.filter_sublist, fun a ha b hb e => ?_⟩, fun i hi => ?_⟩
    · subst e
      have := (late_lt hb).2
      simp at this
      exact this ha
    · rcases List.mem_append.mp hi with z | z
      · exact h2 i z
      · exact (late_lt z).1
theorem nodup_le : ∀ (n : Nat) (l : List Nat), l.Nodup → (∀ i, i ∈ l → i < n) → l.length ≤ n
  | 0, l, _, h => by
    cases l with
    | nil => simp
    | cons a l => exact absurd (h a (by simp)) (by omega)
  | n + 1, l, h1, h2 => by
    by_cases hn : n ∈ l
    · have := nodup_le n (l.erase n) (h1.erase n) fun i hi => by
        have hi' := (List.Nodup.mem_erase_iff h1).mp hi
        have := h2 i hi'.2
        have := hi'.1
        omega
      rw [List.length_erase_of_mem hn] at this
      omega
    · have := nodup_le n l h1 fun i hi => by
        have := h2 i hi
        have : i ≠ n := fun z => hn (z ▸ hi)
        omega
      omega
theorem lateOf_len {W : Wb} {h : List Int} {B : List Nat} : (lateOf W h B).length ≤ W.n := by
  unfold lateOf
  exact Nat.le_trans (List.length_filter_le _ _) (by simp)
theorem least {P : Nat → Prop} [DecidablePred P] : ∀ n, P n → ∃ e, e ≤ n ∧ P e ∧ ∀ j, j < e → ¬ P j := by
  intro n
  induction n using Nat.strongRecOn with
  | ind n ih =>
    intro h
    by_cases hc : ∃ j, j < n ∧ P j
    · obtain ⟨j, hj, hp⟩ := hc
      obtain ⟨e, h1, h2, h3⟩ := ih j hj hp
      exact ⟨e, by omega, h2, h3⟩
    · exact ⟨n, Nat.le_refl _, h, fun j hj hp => hc ⟨j, hj, hp⟩⟩
/-- the last round -/
theorem burn_end {W : Wb} {h : List Int} {p : Nat} (hp : p < W.n) : ∃ e, e ≤ W.n ∧ lateK W h p e = [] ∧ ∀ j, j < e → lateK W h p j ≠ [] := by
  have : ∃ e, e ≤ W.n ∧ lateK W h p e = [] := by
    refine Classical.byContradiction fun hc => ?_
    have grow : ∀ k, k ≤ W.n + 1 → k + 1 ≤ (burnB W h p k).length := by
      intro k
      induction k with
      | zero => intro _; simp [burnB]
      | succ k ih =>
        intro hk
        have h1 := ih (by omega)
        have h2 : lateK W h p k ≠ [] := fun z => hc ⟨k, by omega, z⟩
        have h3 : 0 < (lateK W h p k).length := by
          cases e : lateK W h p k with
          | nil => exact absurd e h2
          | cons _ _ => simp
        unfold burnB
        rw [List.length_append]
        unfold lateK at h3
        omega
    have h1 := grow (W.n + 1) (Nat.le_refl _)
    have h2 := nodup_le _ _ (burn_lt (h := h) hp (W.n + 1)).1 (burn_lt hp (W.n + 1)).2
    omega
  obtain ⟨e, he, h1⟩ := this
  obtain ⟨d, h2, h3, h4⟩ := least (P := fun k => lateK W h p k = []) e h1
  exact ⟨d, by omega, h3, h4⟩
theorem burn_fix {W : Wb} {h : List Int} {p e : Nat} (he : lateK W h p e = []) : ∀ k, burnB W h p (e + k) = burnB W h p e
  | 0 => rfl
  | k + 1 => by
    have ih := burn_fix he k
    show burnB W h p (e + k) ++ lateOf W h (burnB W h p (e + k)) = _
    rw [ih]
    unfold lateK at he
    rw [he, List.append_nil]
theorem found_succ {W : Wb} {h : List Int} {p k : Nat} : foundK W h p (k + 1) = foundK W h p k ++ [lateK W h p k] := by
  unfold foundK
  rw [List.range_succ, List.map_append]
  rfl
def pRounds (ds : List D) (r : D) : Prop := ∃ (W : Wb) (h : List Int) (p e : Nat), W.Ok ∧ h.length = W.n ∧ p < W.n ∧ e ≤ W.n ∧ lateK W h p e = [] ∧ (∀ j, j < e → lateK W h p j ≠ []) ∧ ds = [W.D, hpD h, .int p] ∧ r = .list ((foundK W h p e).map lstD)
theorem sc_rounds : FnScope ["web", "heap", "place", "rows", "found", "burning", "late", "spot", "ties", "far"] ["web", "heap", "place"] (defScope (top 25)) := ⟨rfl, rfl, rfl, by decide +kernel, rfl, by decide +kernel, by decide +kernel⟩
theorem row_get {W : Wb} {i j : Nat} (hi : i < W.n) (hj : j < W.n) : atI ((List.range W.n).map fun i => hpD (rowT W i)) (i : Int) = some (.tuple ((List.range W.n).map fun j => .int (tab W.ts i j))) ∧ atI ((List.range W.n).map fun j => PyData.int (tab W.ts i j)) (j : Int) = some (.int (tab W.ts i j)) := by
  refine ⟨?_, at_range hj⟩
  rw [at_range hi]
  unfold hpD rowT
  rw [List.map_map]
  rfl
theorem ok_rounds (T : Txt mg) (F : Fun K "rounds_by" "rounds_by" (top 25) f fd) (F1 : FnG P w K mg base "table_by" 1 pTableBy) : FnOk P w K mg base CX0 2 f fd ["web", "heap", "place"] (pureSp pRounds) := by
  refine fn_pure F sc_rounds (fun ds r h => by obtain ⟨_, _, _, _, _, _, _, _, _, _, rfl, _⟩ := h; rfl) fun ds r h => ?_
  obtain ⟨W, h, p, e, ok, hl, hp, hen, he, hno, rfl, rfl⟩ := h
  have n6 := ok.n6
  refine seq (gs_par3 (i := 3) (j := 4) (l := 5) rfl rfl rfl (by decide) (by decide) (by decide) (.inr ⟨rfl, rfl⟩) (.inl rfl) (.inl rfl)
    (ga_cons (c1 F1 (v 0 rfl) ⟨W, ok, rfl, rfl⟩ (Nat.le_of_ble_eq_true rfl) rfl rfl (fun _ => rfl)) (ga_cons (l1 (ge_frz (l1 (v 2 rfl) (fun _ => rfl))) (fun _ => rfl)) (ga_cons (GE.frame (ge_disp1 (v 2 rfl) ge_bl (.int _)) (ni_of rfl)) ga_nil (fun _ => rfl)) (fun _ => rfl)) (fun _ => rfl)) rfl rfl rfl (Nat.le_of_ble_eq_true rfl) (Nat.le_of_ble_eq_true rfl) (Nat.le_of_ble_eq_true rfl) rfl (.inr (sw_at rfl))) ?_
  refine gss_cons (Mid := fun Γ => ∃ sl ss st, (noLk sl = true ∧ noLk ss = true ∧ noLk st = true) ∧ Γ = [.sh W.D, .sh (hpD h), .sh (.int p), .sh (tableD W), .ol ((foundK W h p (e + 1)).map lstD), .od (kvB (burnB W h p (e + 1))), sl, ss, st, .no])
    (gs_while (I := fun m Γ => ∃ k sl ss st, k + m = e + 1 ∧ (noLk sl = true ∧ noLk ss = true ∧ noLk st = true) ∧ Γ = [.sh W.D, .sh (hpD h), .sh (.int p), .sh (tableD W), .ol ((foundK W h p k).map lstD), .od (kvB (burnB W h p k)), sl, ss, st, .no]) ⟨e + 1, 0, .no, .no, .no, by omega, ⟨rfl, rfl, rfl⟩, rfl⟩ ?_) ?_
  · rintro m Γ ⟨k, sl, ss, st, hk, ⟨n1, n2, n3⟩, rfl⟩
    have hlast : ∃ A, atI ((foundK W h p k).map lstD) (-1) = some (lstD A) ∧ (A = [] ↔ k = e + 1) := by
      cases k with
      | zero => exact ⟨[p], at_last (xs := []), by simp⟩
      | succ k =>
        refine ⟨lateK W h p k, by rw [found_succ, List.map_append]; exact at_last, fun z => ?_, fun z => ?_⟩
        · rcases Nat.lt_or_ge k e with y | y
          · exact absurd z (hno k y)
          · omega
        · have : k = e := by omega
          rw [this]; exact he
    obtain ⟨A, hA, hAe⟩ := hlast
    have hev := eqv_nil A
    refine ⟨!PyData.eqv (lstD A) (.list []), _, gt_cmp (ge_ixL (bo 4 rfl) (ge_neg ge_int) (.bo rfl) hA (pix (fun _ _ => rfl))) l0 (og_neL .sh .ol (pl_shaped pl_lst (by decide)) (pl_shaped pl_nil (by decide))) rfl, fun hk => ?_, fun hk => ?_⟩
    · have hke : k < e + 1 := by
        rw [hev] at hk
        have : ¬ k = e + 1 := fun z => by rw [hAe.mpr z] at hk; simp at hk
        omega
      refine seq (asg 6 l0 rfl rfl rfl (.inl rfl) (Nat.le_of_ble_eq_true rfl) (fun _ => rfl)) ?_
      refine gss_cons (Mid := fun Γ => ∃ ss st, (noLk ss = true ∧ noLk st = true) ∧ Γ = [.sh W.D, .sh (hpD h), .sh (.int p), .sh (tableD W), .ol ((foundK W h p k).map lstD), .od (kvB (burnB W h p k)), .ol (natsD (lateK W h p k)), ss, st, .no])
        (gs_for (L := (List.range W.n).map fun i => .int (i : Nat)) (p := .nm 7) (I := fun j Γ => ∃ ss st, (noLk ss = true ∧ noLk st = true) ∧ Γ = [.sh W.D, .sh (hpD h), .sh (.int p), .sh (tableD W), .ol ((foundK W h p k).map lstD), .od (kvB (burnB W h p k)), .ol (natsD ((List.range j).filter (ctch W h (burnB W h p k)))), ss, st, .no])
          (IG.of (rg1_eq W.n) (ig_rg1 rfl T.range (ge_ixT (v 0 rfl) ge_int .sh (d := .int W.n) rfl (pix (fun _ _ => rfl))) (by omega) (fun _ => rfl))) (pg_nm rfl (.inr ⟨rfl, rfl⟩)) ⟨ss, st, ⟨n2, n3⟩, rfl⟩ ?_ ?_ (fun _ _ => rfl)) ?_
      · rintro j Γ d ⟨ss, st, ⟨n4, n5⟩, rfl⟩ hd
        rw [List.getElem?_map] at hd
        by_cases hj : j < W.n
        · rw [List.getElem?_range hj] at hd
          cases hd
          have hcond : ctch W h (burnB W h p k) j = (!(valD (kvB (burnB W h p k)) (.inl (j : Int))).isSome && decide (h.getD j 0 < (if (!(valD (kvB (burnB W h p k)) (.inl (j : Int))).isSome) = true then -((burnB W h p k).map fun far => tab W.ts j far).sum else 0))) := by
            rw [kvB_val]
            unfold ctch tiesB
            cases (burnB W h p k).contains j <;> simp
          refine ⟨_, rfl, ?_⟩
          generalize htv : (if (!(valD (kvB (burnB W h p k)) (.inl (j : Int))).isSome) = true then -((burnB W h p k).map fun far => tab W.ts j far).sum else 0) = tv at hcond
          have hl0 := nodup_le _ _ (burn_lt (h := h) hp k).1 (burn_lt hp k).2
          refine seq (asg 8 (geq (ge_ifI (gt_notInD (vc 7 rfl) (bo 5 rfl) (.int _) rfl rfl) (fun _ => ge_neg (ge_sum (L := burnB W h p k) (g := fun far => .int (tab W.ts j far)) (k := fun far => tab W.ts j far) rfl T.sum
            (ge_lock (i := 5) rfl (hno_of (by simp [nk_sh, nk_ol, nk_od, nk_no, n4, n5])) rfl (lcA (xs := burnB W h p k) (rep := fun i => .int (i : Nat)) (g := fun far => .int (tab W.ts j far)) (own := [("far", 9)]) (p := .nm 9) (lok (IG.of (kvB_keys _) (ig_keys (bo 5 rfl) rfl)) (pg_nm rfl (.inl rfl)) rfl rfl rfl (fun _ _ => rfl))
              (fun x hx => ⟨_, rfl, ge_ixT (ge_ixT (vc 3 rfl) (vc 7 rfl) .sh (row_get hj ((burn_lt hp k).2 x hx)).1 (pix (fun _ _ => rfl))) (v 9 rfl) .sh (row_get hj ((burn_lt hp k).2 x hx)).2 (pix (fun _ _ => rfl))⟩) (by omega) (ni_of rfl))) (.l .ol) (fun _ => rfl) (fun _ => rfl))) (fun _ => ge_int)) (congrArg PyData.int htv)) rfl rfl rfl (.inl rfl) (Nat.le_of_ble_eq_true rfl) (fun _ => rfl)) ?_
          · refine gss_one (Γ1 := [.sh W.D, .sh (hpD h), .sh (.int p), .sh (tableD W), .ol ((foundK W h p k).map lstD), .od (kvB (burnB W h p k)), .ol (natsD ((List.range (j + 1)).filter (ctch W h (burnB W h p k)))), .sh (.int j), .sh (.int tv), .no])
              (gs_if (gt_bool (gw_and (gt_notInD (vc 7 rfl) (bo 5 rfl) (.int _) rfl rfl) fun _ => gw_and1 (gt_cmp (v 8 rfl) (ge_ixT (v 1 rfl) (vc 7 rfl) .sh (at_ints (by rw [hl]; exact hj)) (pix (fun _ _ => rfl))) og_gt rfl))) (fun hk => ?_) (fun hk => ?_)) (gss_nil ⟨_, _, ⟨rfl, rfl⟩, rfl⟩)
            · have hb : ctch W h (burnB W h p k) j = true := by rw [hcond]; exact hk
              refine seq (gs_app (ds0 := natsD ((List.range j).filter (ctch W h (burnB W h p k)))) (bo 6 rfl) rfl (vc 7 rfl) rfl ?_ rfl (fun _ _ => rfl) rfl (fun _ => rfl)) (gss_nil ?_)
              · have := List.length_filter_le (ctch W h (burnB W h p k)) (List.range j)
                simp [natsD] at this ⊢
                omega
              · rw [List.range_succ, List.filter_append]
                simp [hb, natsD]
            · have hb : ctch W h (burnB W h p k) j = false := by rw [hcond]; exact hk
              refine gss_nil ?_
              rw [List.range_succ, List.filter_append]
              simp [hb]
        · rw [List.getElem?_eq_none (by simp; omega)] at hd
          cases hd
      · rintro Γ ⟨ss, st, n4, rfl⟩
        refine ⟨ss, st, n4, ?_⟩
        rw [List.length_map, List.length_range]
        rfl
      · rintro Γ ⟨ss, st, ⟨n4, n5⟩, rfl⟩
        have hlen := lateOf_len (W := W) (h := h) (B := burnB W h p k)
        refine gss_cons (Mid := fun Γ => ∃ ss, noLk ss = true ∧ Γ = [.sh W.D, .sh (hpD h), .sh (.int p), .sh (tableD W), .ol ((foundK W h p k).map lstD), .od (kvB (burnB W h p (k + 1))), .sh (lstD (lateK W h p k)), ss, st, .no])
          (gs_for (L := natsD (lateK W h p k)) (p := .nm 7) (I := fun j Γ => ∃ ss, noLk ss = true ∧ Γ = [.sh W.D, .sh (hpD h), .sh (.int p), .sh (tableD W), .ol ((foundK W h p k).map lstD), .od (kvB (burnB W h p k ++ (lateK W h p k).take j)), .sh (lstD (lateK W h p k)), ss, st, .no])
            (ig_list (ge_frzB (bo 6 rfl) rfl .ol (by simp))) (pg_nm rfl (.inr ⟨rfl, rfl⟩)) ⟨ss, n4, by rw [List.take_zero, List.append_nil]; rfl⟩ ?_ ?_ (fun _ _ => rfl)) ?_
        · rintro j Γ d ⟨ss, n4, rfl⟩ hd
          unfold natsD at hd
          rw [List.getElem?_map] at hd
          cases hs : (lateK W h p k)[j]? with
          | none => rw [hs] at hd; cases hd
          | some s =>
            rw [hs] at hd
            cases hd
            have hsm := late_lt (List.mem_of_getElem? hs)
            have hnd : (burnB W h p (k + 1)).Nodup := (burn_lt hp (k + 1)).1
            have hjl := (List.getElem?_eq_some_iff.mp hs).1
            have hns : (burnB W h p k ++ (lateK W h p k).take j).contains s = false := by
              rw [Bool.eq_false_iff]
              intro hc
              simp only [List.contains_eq_mem, decide_eq_true_eq] at hc
              rcases List.mem_append.mp hc with z | z
              · have := hsm.2
                simp at this
                exact this z
              · obtain ⟨i, hi1, hi2⟩ := List.mem_take_iff_getElem.mp z
                have h1 : (lateK W h p k).Nodup := (List.nodup_append.mp hnd).2.1
                have := (List.getElem?_inj (i := i) (j := j) (by omega) h1).mp (by rw [hs, ← hi2, List.getElem?_eq_getElem])
                omega
            refine ⟨_, rfl, ?_⟩
            refine seq (gs_dput ge_bl (fun τ => bo 5 rfl) (fun τ => vc 7 rfl) (.int _) rfl ?_ rfl (fun _ _ => rfl)) (gss_nil ⟨.sh (.int s), rfl, ?_⟩)
            · have := (burn_lt (h := h) hp k).1
              have := nodup_le _ _ this (burn_lt hp k).2
              unfold kvB
              rw [List.length_map, List.length_append, List.length_take]
              unfold lateK at *
              omega
            · rw [List.take_succ, hs, ← List.append_assoc, show (some s).toList = [s] from rfl, ← kvB_put _ _ hns]
              rfl
        · rintro Γ ⟨ss, n4, rfl⟩
          refine ⟨ss, n4, ?_⟩
          unfold natsD
          rw [List.length_map, List.take_length]
          rfl
        · rintro Γ ⟨ss, n4, rfl⟩
          refine seq (gs_app (ds0 := (foundK W h p k).map lstD) (bo 4 rfl) rfl (v 6 rfl) rfl ?_ rfl (fun _ _ => rfl) rfl (fun _ => rfl)) (gss_nil ⟨m - 1, ?_, k + 1, .sh (lstD (lateK W h p k)), ss, st, ?_, ⟨rfl, n4, n5⟩, ?_⟩)
          · simp [foundK]
            omega
          · omega
          · omega
          · rw [found_succ, List.map_append]
            rfl
    · rw [hev] at hk
      have : k = e + 1 := hAe.mp (by simpa using hk)
      subst this
      exact ⟨sl, ss, st, ⟨n1, n2, n3⟩, rfl⟩
  · rintro Γ ⟨sl, ss, st, n1, rfl⟩
    refine ret (ge_slL (bo 4 rfl) go_none (go_some (ge_neg ge_int)) (.bo rfl)) ?_
    rw [found_succ, List.map_append]
    show RetOk _ (.ol (cut ((foundK W h p e).map lstD ++ [lstD (lateK W h p e)]) none (some (-1)))) _
    rw [cut_last]
    exact .own .ol
theorem found_flat {W : Wb} {h : List Int} {p : Nat} : ∀ k, (foundK W h p k).flatten = burnB W h p k
  | 0 => rfl
  | k + 1 => by
    rw [found_succ, List.flatten_append, found_flat k]
    simp [burnB, lateK]
/-! ### unburnt_by -/
def unb (W : Wb) (h : List Int) (p : Nat) : List Nat := (List.range W.n).filter fun s => !(burnB W h p W.n).contains s
def pUnburnt (ds : List D) (r : D) : Prop := ∃ (W : Wb) (h : List Int) (p : Nat), W.Ok ∧ h.length = W.n ∧ p < W.n ∧ ds = [W.D, hpD h, .int p] ∧ r = lstD (unb W h p)
theorem sc_unburnt : FnScope ["web", "heap", "place", "burnt", "lot", "spot"] ["web", "heap", "place"] (defScope (top 26)) := ⟨rfl, rfl, rfl, by decide +kernel, rfl, by decide +kernel, by decide +kernel⟩
theorem acc2_flat (L : List (List Nat)) : acc2 L (fun l => l) (fun _ i => PyData.int (i : Nat)) = natsD L.flatten := by
  unfold acc2 natsD
  induction L with
  | nil => rfl
  | cons a L ih => rw [List.flatMap_cons, ih, List.flatten_cons, List.map_append]
theorem ok_unburnt (T : Txt mg) (F : Fun K "unburnt_by" "unburnt_by" (top 26) f fd) (F1 : FnG P w K mg base "rounds_by" 2 pRounds) : FnOk P w K mg base CX0 3 f fd ["web", "heap", "place"] (pureSp pUnburnt) := by
  refine fn_pure F sc_unburnt (fun ds r h => by obtain ⟨_, _, _, _, _, _, rfl, _⟩ := h; rfl) fun ds r h => ?_
  obtain ⟨W, h, p, ok, hl, hp, rfl, rfl⟩ := h
  have n6 := ok.n6
  obtain ⟨e, he, h1, h2⟩ := burn_end (h := h) hp
  have hb : burnB W h p W.n = burnB W h p e := by
    have := burn_fix h1 (W.n - e)
    rwa [show e + (W.n - e) = W.n by omega] at this
  have hbl := nodup_le _ _ (burn_lt (h := h) hp e).1 (burn_lt hp e).2
  refine seq (asgC 3 (lc2 (xs := foundK W h p e) (ys := fun l => l) (rep := lstD) (rep1 := fun i => .int (i : Nat)) (gg := fun _ i => .int (i : Nat)) (own := [("lot", 4), ("spot", 5)]) (p := .nm 4) (q := .nm 5) (vs1 := [5])
    (lok (ig_list (c3 F1 (v 0 rfl) (v 1 rfl) (v 2 rfl) ⟨W, h, p, e, ok, hl, hp, he, h1, h2, rfl, rfl⟩ (Nat.le_of_ble_eq_true rfl) rfl rfl (fun _ => rfl) (fun _ => rfl) (fun _ => rfl) (fun _ => rfl))) (pg_nm rfl (.inl rfl)) rfl rfl rfl (fun _ _ => rfl)) ⟨pg_nm rfl (.inl rfl), by decide, by decide, (fun _ _ => rfl)⟩
    (fun x hx => ⟨_, rfl, _, ig_list (v 4 rfl), rfl, fun z hz => ⟨_, rfl, v 5 rfl⟩⟩) (by rw [acc2_flat, found_flat]; unfold natsD; rw [List.length_map]; omega) (ni_of rfl)) rfl rfl rfl rfl rfl (Nat.le_of_ble_eq_true rfl)) ?_
  rw [acc2_flat, found_flat, ← hb]
  refine ret (lc (xs := List.range W.n) (rep := fun i => .int (i : Nat)) (kf := fun s => !(burnB W h p W.n).contains s) (g := fun i => .int (i : Nat)) (own := [("spot", 5)]) (p := .nm 5)
    (lok (IG.of (rg1_eq W.n) (ig_rg1 rfl T.range (ge_ixT (v 0 rfl) ge_int .sh (d := .int W.n) rfl (pix (fun _ _ => rfl))) (by omega) (fun _ => rfl))) (pg_nm rfl (.inl rfl)) rfl rfl rfl (fun _ _ => rfl))
    (fun x hx => ⟨_, rfl, gts_one ?_, fun _ => v 5 rfl⟩) (rl n6) (ni_of rfl)) (.own .ol)
  have h := any_nat (burnB W h p W.n) x
  rw [← h]
  exact gt_cmp (v 5 rfl) (boc 3 rfl) (og_notIn (dss := natsD (burnB W _ p W.n)) (.l (.bo rfl)) (pl_all (k := 0) pl_nats) rfl (by simp [PyData.depth])) rfl
end K79
set_option maxHeartbeats 4000000
namespace K79
open PySem L2 Evl Lf
variable {P : Program} {w : World} {K : PySem.W.Frag} {mg : Str → Option Value} {base : Heap} {f : Addr} {fd : FuncData}
theorem dataLe_hp (a b : List Int) : PySem.W.dataLe false id (hpD a) (hpD b) = decide (a ≤ b) := by
  show (!PySem.W.dataLt (hpD b) (hpD a)) = _
  unfold hpD
  rw [PySem.W.dataLt_tuple]
  show (!PySem.W.rowLt (b.map .int) (a.map .int)) = _
  rw [PySem.W.dataLt_ints]
  by_cases h : b < a
  · have h' : ¬ a ≤ b := fun r => List.not_lt.mpr r h
    simp [h, h']
  · have h' : a ≤ b := List.not_lt.mp h
    simp [h, h']
def leH (a b : List Int) : Bool := decide (a ≤ b)
theorem sort_hp (A : List (List Int)) : (A.map hpD).mergeSort (PySem.W.dataLe false id) = (A.mergeSort leH).map hpD :=
  (List.map_mergeSort fun a _ b _ => (dataLe_hp a b).symm).symm
theorem alike_ints : ∀ a b : List Int, PySem.W.alikeAll (a.map .int) (b.map .int) = true
  | [], _ => by simp [PySem.W.alikeAll]
  | _ :: _, [] => by simp [PySem.W.alikeAll]
  | x :: a, y :: b => by simp [PySem.W.alikeAll, PySem.W.alike, alike_ints a b]
theorem alike_hps (A : List (List Int)) : PySem.W.AllAlike (A.map hpD) := fun d hd d' hd' => by
  obtain ⟨a, _, rfl⟩ := List.mem_map.mp hd
  obtain ⟨b, _, rfl⟩ := List.mem_map.mp hd'
  unfold hpD PySem.W.alike
  exact alike_ints a b
theorem sortable_hps {A : List (List Int)} (h : ∀ a, a ∈ A → a ≠ []) : PySem.W.Sortable (A.map hpD) := .inl fun d hd => by
  obtain ⟨a, ha, rfl⟩ := List.mem_map.mp hd
  cases a with
  | nil => exact absurd rfl (h _ ha)
  | cons x r => exact ⟨.int x, r.map .int, rfl⟩
theorem depth_hps (A : List (List Int)) : ∀ d, d ∈ A.map hpD → d.depth ≤ 40 := fun d hd => by
  obtain ⟨a, ha, rfl⟩ := List.mem_map.mp hd
  exact Nat.le_trans (pl_lay pl_hp).2 (by decide)
theorem srt {S : Stat} {Γ Γ1 τ : List Sl} {e : Expr} {s : Sl} {p pos : Pos} {A : List (List Int)} (hg : GlB S "sorted") (hm : S.mg "sorted" = none) (ha : GE S e Γ τ Γ1 s) (r : RdS Γ1 s (A.map hpD)) (h : ∀ a, a ∈ A → a ≠ []) (he : ∀ env, starEach [e] env = (false, eval e env) :: starEach [] env) :
    GE S (.Call (.Name "sorted" p) [e] [] pos) Γ τ Γ1 (.ol ((A.mergeSort leH).map hpD)) := by
  have := ge_sorted (p := p) (pos := pos) hg hm ha r (alike_hps A) (sortable_hps h) (depth_hps A) he
  rwa [sort_hp] at this
/-! ### all_by -/
def mostOf (W : Wb) (p k : Nat) : Nat := if k = p then 1 else deg W.ts k
def lotsK (W : Wb) (p : Nat) : Nat → List (List Int)
  | 0 => [[]]
  | k + 1 => (lotsK W p k).flatMap fun l => (List.range (mostOf W p k)).map fun (m : Nat) => l ++ [(m : Int)]
def fill (p : Nat) (num : Int) (l : List Int) : List Int := l.set p (num - l.sum)
def allU (W : Wb) (p : Nat) (num : Int) : List (List Int) := ((lotsK W p W.n).map (fill p num)).filter fun h => decide (unb W h p = [])
def allBy (W : Wb) (p : Nat) (num : Int) : List (List Int) := (allU W p num).mergeSort leH
theorem lots_len {W : Wb} {p : Nat} : ∀ k l, l ∈ lotsK W p k → l.length = k
  | 0, l, h => by simp [lotsK] at h; simp [h]
  | k + 1, l, h => by
    unfold lotsK at h
    obtain ⟨l', h1, h2⟩ := List.mem_flatMap.mp h
    obtain ⟨m, _, rfl⟩ := List.mem_map.mp h2
    rw [List.length_append, lots_len k l' h1]
    rfl
theorem flat_len {α : Type} {β : Type} (L : List α) (g : α → List β) (m : Nat) (h : ∀ a, a ∈ L → (g a).length ≤ m) : (L.flatMap g).length ≤ L.length * m := by
  induction L with
  | nil => simp
  | cons a L ih =>
    rw [List.flatMap_cons, List.length_append, List.length_cons, Nat.add_mul]
    have := h a (by simp)
    have := ih fun b hb => h b (by simp [hb])
    omega
theorem lots_cnt {W : Wb} {p : Nat} (ok : W.Ok) : ∀ k, (lotsK W p k).length ≤ 12 ^ k
  | 0 => by simp [lotsK]
  | k + 1 => by
    have ih := lots_cnt (p := p) ok k
    have hm := ok.m
    have := flat_len (lotsK W p k) (fun l => (List.range (mostOf W p k)).map fun (m : Nat) => l ++ [(m : Int)]) 12 fun l _ => by
      have := @cnt_le W.ts k
      simp [mostOf]
      split <;> omega
    unfold lotsK
    rw [Nat.pow_succ]
    exact Nat.le_trans this (Nat.mul_le_mul_right _ ih)
def pAllBy (ds : List D) (r : D) : Prop := ∃ (W : Wb) (p : Nat) (num : Int), W.Ok ∧ W.n ≤ 4 ∧ p < W.n ∧ ds = [W.D, .int p, .int num] ∧ r = .list ((allBy W p num).map hpD)
theorem sc_all_by : FnScope ["web", "place", "number", "lots", "spot", "most", "lot", "many", "found", "heap"] ["web", "place", "number"] (defScope (top 37)) := ⟨rfl, rfl, rfl, by decide +kernel, rfl, by decide +kernel, by decide +kernel⟩
theorem acc2_lots (W : Wb) (p k : Nat) : acc2 (lotsK W p k) (fun _ => List.range (mostOf W p k)) (fun (l : List Int) (m : Nat) => hpD (l ++ [(m : Int)])) = (lotsK W p (k + 1)).map hpD := by
  show _ = ((lotsK W p k).flatMap fun l => (List.range (mostOf W p k)).map fun (m : Nat) => l ++ [(m : Int)]).map hpD
  unfold acc2
  rw [List.map_flatMap]
  congr 1
  funext l
  rw [List.map_map]
  rfl
theorem fill_D {l : List Int} {p : Nat} {x : Int} (hp : p < l.length) : (cut (l.map PyData.int) none (some (p : Int)) ++ [.int x]) ++ cut (l.map PyData.int) (some ((p : Int) + 1)) none = (l.set p x).map .int := by
  rw [cut_pre, show ((p : Nat) : Int) + 1 = ((p + 1 : Nat) : Int) by omega, cut_suf, List.set_eq_take_append_cons_drop, if_pos hp, List.map_append, List.map_cons, List.map_take, List.map_drop, List.append_assoc]
  rfl
theorem ok_all_by (T : Txt mg) (F : Fun K "all_by" "all_by" (top 37) f fd) (F1 : FnG P w K mg base "ties_by" 1 pTiesBy) (F2 : FnG P w K mg base "unburnt_by" 3 pUnburnt) : FnOk P w K mg base CX0 4 f fd ["web", "place", "number"] (pureSp pAllBy) := by
  refine fn_pure F sc_all_by (fun ds r h => by obtain ⟨_, _, _, _, _, _, rfl, _⟩ := h; rfl) fun ds r h => ?_
  obtain ⟨W, p, num, ok, n4, hp, rfl, rfl⟩ := h
  have n6 := ok.n6
  have hm := ok.m
  have hcnt : ∀ k, k ≤ 4 → (lotsK W p k).length < 100000 := fun k hk => Nat.lt_of_le_of_lt (lots_cnt ok k) (Nat.lt_of_le_of_lt (Nat.pow_le_pow_right (by omega) hk) (by decide))
  refine seq (asg 3 (l1 (ge_tup (ds := []) ga_nil (by simp)) (fun _ => rfl)) rfl rfl rfl (.inl rfl) (Nat.le_of_ble_eq_true rfl) (fun _ => rfl)) ?_
  refine gss_cons (Mid := fun Γ => ∃ ss sm, Γ = [.sh W.D, .sh (.int p), .sh (.int num), .ol ((lotsK W p W.n).map hpD), ss, sm, .no, .no, .no, .no])
    (gs_for (L := (List.range W.n).map fun i => .int (i : Nat)) (p := .nm 4) (I := fun k Γ => ∃ ss sm, Γ = [.sh W.D, .sh (.int p), .sh (.int num), .ol ((lotsK W p k).map hpD), ss, sm, .no, .no, .no, .no])
    (IG.of (rg1_eq W.n) (ig_rg1 rfl T.range (ge_ixT (v 0 rfl) ge_int .sh (d := .int W.n) rfl (pix (fun _ _ => rfl))) (by omega) (fun _ => rfl))) (pg_nm rfl (.inl rfl)) ⟨.no, .no, rfl⟩ ?_ ?_ (fun _ _ => rfl)) ?_
  · rintro k Γ d ⟨ss, sm, rfl⟩ hd
    rw [List.getElem?_map] at hd
    by_cases hj : k < W.n
    · rw [List.getElem?_range hj] at hd
      cases hd
      refine ⟨_, rfl, ?_⟩
      have em : (if (!decide (k = p)) = true then (deg W.ts k : Int) else 1) = ((mostOf W p k : Nat) : Int) := by
        unfold mostOf
        by_cases h : k = p <;> simp [h]
      refine seq (asgC 5 (geq (ge_ifI (gt_cmp (v 4 rfl) (v 1 rfl) og_neN rfl) (fun _ => geq (ge_len rfl T.len (c2 F1 (v 0 rfl) (v 4 rfl) ⟨W, k, by omega, rfl, rfl⟩ (Nat.le_of_ble_eq_true rfl) rfl rfl (fun _ => rfl) (fun _ => rfl) (fun _ => rfl)) (.l .sh) (fun _ => rfl)) (deg_len W k)) (fun _ => ge_int)) (congrArg PyData.int em)) rfl rfl rfl rfl rfl (Nat.le_of_ble_eq_true rfl)) ?_
      refine seq (gs_lc2 (i := 3) (xs := lotsK W p k) (ys := fun _ => List.range (mostOf W p k)) (rep := hpD) (rep1 := fun i => .int (i : Nat)) (g := fun (l : List Int) (m : Nat) => hpD (l ++ [(m : Int)])) (own := [("lot", 6), ("many", 7)]) (p := .nm 6) (q := .nm 7) (vs1 := [7]) rfl rfl (Nat.le_of_ble_eq_true rfl)
        (lok (ig_list (ge_frzB (bo 3 rfl) rfl .ol (by simp))) (pg_nm rfl (.inl rfl)) rfl rfl rfl (fun _ _ => rfl)) ⟨pg_nm rfl (.inl rfl), by decide, by decide, (fun _ _ => rfl)⟩ ?_
        (fun x hx => ⟨_, rfl, _, IG.of (rg1_eq _) (ig_rg1 rfl T.range (vc 5 rfl) ?_ (fun _ => rfl)), rfl, fun z hz => ⟨_, rfl, geq (ge_bin (v 6 rfl) (t1 (v 7 rfl) (fun _ => rfl)) (og_catT .sh .sh ?_)) ?_⟩⟩) rfl rfl rfl) ?_
      · rw [acc2_lots, List.length_map]
        exact hcnt _ (by omega)
      · have := @cnt_le W.ts k
        unfold mostOf
        split <;> omega
      · have := lots_len k x hx
        simp [this]
        omega
      · show PyData.tuple (x.map .int ++ [.int (z : Nat)]) = .tuple ((x ++ [((z : Nat) : Int)]).map .int)
        rw [List.map_append]
        rfl
      · rw [acc2_lots]
        exact gss_nil ⟨_, _, rfl⟩
    · rw [List.getElem?_eq_none (by simp; omega)] at hd
      cases hd
  · rintro Γ ⟨ss, sm, rfl⟩
    refine ⟨ss, sm, ?_⟩
    rw [List.length_map, List.length_range]
  · rintro Γ ⟨ss, sm, rfl⟩
    refine seq (asg 8 l0 rfl rfl rfl (.inl rfl) (Nat.le_of_ble_eq_true rfl) (fun _ => rfl)) ?_
    refine gss_cons (Mid := fun Γ => ∃ ss sm sl sh, Γ = [.sh W.D, .sh (.int p), .sh (.int num), .sh (.list ((lotsK W p W.n).map hpD)), ss, sm, sl, .no, .ol ((allU W p num).map hpD), sh])
      (gs_for (L := (lotsK W p W.n).map hpD) (p := .nm 6) (I := fun k Γ => ∃ ss sm sl sh, Γ = [.sh W.D, .sh (.int p), .sh (.int num), .sh (.list ((lotsK W p W.n).map hpD)), ss, sm, sl, .no, .ol (((((lotsK W p W.n).take k).map (fill p num)).filter fun h => decide (unb W h p = [])).map hpD), sh])
        (ig_list (ge_frzB (bo 3 rfl) rfl .ol (by simp))) (pg_nm rfl (.inl rfl)) ⟨ss, sm, .no, .no, rfl⟩ ?_ ?_ (fun _ _ => rfl)) ?_
    · rintro k Γ d ⟨ss, sm, sl, sh, rfl⟩ hd
      rw [List.getElem?_map] at hd
      cases hs : (lotsK W p W.n)[k]? with
      | none => rw [hs] at hd; cases hd
      | some l =>
        rw [hs] at hd
        cases hd
        have hll := lots_len _ _ (List.mem_of_getElem? hs)
        have hlu : (fill p num l).length = W.n := by unfold fill; simp [hll]
        refine ⟨_, rfl, ?_⟩
        refine seq (asg 9 (geq (d' := hpD (fill p num l)) (ge_bin (ge_bin (ge_slT (v 6 rfl) go_none (go_some (v 1 rfl)) .sh) (t1 (ge_bin (v 2 rfl) (ge_sumH rfl T.sum (v 6 rfl) (.t .sh) (fun _ => rfl)) og_sub) (fun _ => rfl)) (og_catT .sh .sh ?_)) (ge_slT (v 6 rfl) (go_some (ge_bin (v 1 rfl) ge_int og_add)) go_none .sh) (og_catT .sh .sh ?_)) ?_) rfl rfl rfl (.inl rfl) (Nat.le_of_ble_eq_true rfl) (fun _ => rfl)) ?_
        · rw [cut_pre]
          simp
          omega
        · rw [cut_pre, show ((p : Nat) : Int) + 1 = ((p + 1 : Nat) : Int) by omega, cut_suf]
          simp
          omega
        · exact congrArg PyData.tuple (fill_D (by omega))
        · have key : ((((lotsK W p W.n).take (k + 1)).map (fill p num)).filter fun h => decide (unb W h p = [])) = ((((lotsK W p W.n).take k).map (fill p num)).filter fun h => decide (unb W h p = [])) ++ (if decide (unb W (fill p num l) p = []) = true then [fill p num l] else []) := by
            rw [List.take_succ, hs, List.map_append, List.filter_append]
            congr 1
            show List.filter _ [fill p num l] = _
            rw [List.filter_cons]
            rfl
          refine gss_one (Γ1 := [.sh W.D, .sh (.int p), .sh (.int num), .sh (.list ((lotsK W p W.n).map hpD)), ss, sm, .sh (hpD l), .no, .ol (((((lotsK W p W.n).take (k + 1)).map (fill p num)).filter fun h => decide (unb W h p = [])).map hpD), .sh (hpD (fill p num l))])
            (gs_if (k := decide (unb W (fill p num l) p = [])) (by rw [← eqv_nil]; exact gt_cmp (c3 F2 (v 0 rfl) (v 9 rfl) (v 1 rfl) ⟨W, _, p, ok, hlu, hp, rfl, rfl⟩ (Nat.le_of_ble_eq_true rfl) rfl rfl (fun _ => rfl) (fun _ => rfl) (fun _ => rfl) (fun _ => rfl)) l0 (og_eqL .sh .ol (pl_shaped pl_lst (by decide)) (pl_shaped pl_nil (by decide))) rfl) (fun hk => ?_) (fun hk => ?_)) (gss_nil ⟨_, _, _, _, rfl⟩)
          · refine seq (gs_app (ds0 := ((((lotsK W p W.n).take k).map (fill p num)).filter fun h => decide (unb W h p = [])).map hpD) (bo 8 rfl) rfl (v 9 rfl) rfl ?_ rfl (fun _ _ => rfl) rfl (fun _ => rfl)) (gss_nil ?_)
            · rw [List.length_map]
              refine Nat.lt_of_le_of_lt (List.length_filter_le _ _) ?_
              rw [List.length_map, List.length_take]
              have := hcnt W.n n4
              omega
            · rw [key, if_pos hk, List.map_append]
              rfl
          · refine gss_nil ?_
            rw [key, if_neg (by rw [hk]; simp), List.append_nil]
            rfl
    · rintro Γ ⟨ss, sm, sl, sh, rfl⟩
      refine ⟨ss, sm, sl, sh, ?_⟩
      rw [List.length_map, List.take_length]
      rfl
    · rintro Γ ⟨ss, sm, sl, sh, rfl⟩
      refine ret (srt rfl T.sorted (bo 8 rfl) (.l (.bo rfl)) ?_ (fun _ => rfl)) (.own .ol)
      intro a ha
      unfold allU at ha
      obtain ⟨l, hl, rfl⟩ := List.mem_map.mp (List.mem_filter.mp ha).1
      have h1 := lots_len _ _ hl
      intro z
      have h2 := congrArg List.length z
      unfold fill at h2
      rw [List.length_set, h1] at h2
      simp at h2
      omega
end K79
set_option maxHeartbeats 4000000
namespace K79
open PySem L2 Evl Lf
variable {P : Program} {w : World} {K : PySem.W.Frag} {mg : Str → Option Value} {base : Heap} {f : Addr} {fd : FuncData}
def Eqv (W : Wb) (h h' : List Int) : Prop := ∃ r : List Int, r.length = W.n ∧ h' = given W h r
structure Red (W : Wb) (p : Nat) (h : List Int) : Prop where
  len : h.length = W.n
  nn : ∀ i, i < W.n → i ≠ p → 0 ≤ h.getD i 0
  fire : unb W h p = []
/-- a heap of ints that are not great -/
def Sm (h : List Int) : Prop := ∀ x, x ∈ h → -1000000 < x ∧ x < 1000000
structure Wb.Fit (W : Wb) : Prop extends W.Good where
  n2 : 2 ≤ W.n
  n4 : W.n ≤ 4
def pReducedBy (ds : List D) (r : D) : Prop := ∃ (W : Wb) (h : List Int) (p : Nat) (g : List Int), W.Fit ∧ h.length = W.n ∧ Sm h ∧ p < W.n ∧ Red W p g ∧ Eqv W h g ∧ ds = [W.D, hpD h, .int p] ∧ r = hpD g
/-! ### all_reduced -/
def pAllReduced (ds : List D) (r : D) : Prop := ∃ (W : Wb) (p : Nat) (num : Int), W.Fit ∧ p < W.n ∧ ds = [W.D, .int p, .int num] ∧ r = .tuple ((allBy W p num).map hpD)
/-! ### lasting -/
def spotsOf (W : Wb) (p : Nat) : List Nat := (List.range W.n).filter fun s => !decide (s = p)
def isLast (W : Wb) (h : List Int) (p : Nat) : Bool := ((spotsOf W p).all fun s => decide (0 ≤ h.getD s 0) && decide (0 ≤ (turned W h p 0).getD s 0)) && decide ((unb W (turned W h p 0) p).length = 0)
theorem turned_len {W : Wb} {h : List Int} {p : Nat} {m : Int} : (turned W h p m).length = h.length := by unfold turned turn0; simp
def pIsLastBy (ds : List D) (r : D) : Prop := ∃ (W : Wb) (h : List Int) (p : Nat), W.Ok ∧ h.length = W.n ∧ p < W.n ∧ ds = [W.D, hpD h, .int p] ∧ r = .bool (isLast W h p)
def pIsLast (ds : List D) (r : D) : Prop := ∃ (W : Wb) (h : List Int) (p : Nat), W.Good ∧ h.length = W.n ∧ p < W.n ∧ ds = [W.D, hpD h, .int p] ∧ r = .bool (isLast W h p)
def lastL (W : Wb) (p : Nat) (num : Int) : List (List Int) := ((allBy W p 0).map fun h => turned W h p num).mergeSort leH
theorem allBy_len {W : Wb} {p : Nat} {num : Int} {h : List Int} (hh : h ∈ allBy W p num) : h.length = W.n := by
  unfold allBy at hh
  rw [List.mem_mergeSort] at hh
  obtain ⟨l, hl, rfl⟩ := List.mem_map.mp (List.mem_filter.mp hh).1
  unfold fill
  rw [List.length_set, lots_len _ _ hl]
theorem allBy_cnt {W : Wb} {p : Nat} {num : Int} (ok : W.Ok) (n4 : W.n ≤ 4) : (allBy W p num).length < 100000 := by
  unfold allBy allU
  rw [List.length_mergeSort]
  refine Nat.lt_of_le_of_lt (List.length_filter_le _ _) ?_
  rw [List.length_map]
  exact Nat.lt_of_le_of_lt (lots_cnt ok _) (Nat.lt_of_le_of_lt (Nat.pow_le_pow_right (by omega) n4) (by decide))
def pLastingBy (ds : List D) (r : D) : Prop := ∃ (W : Wb) (p : Nat) (num : Int), W.Ok ∧ W.n ≤ 4 ∧ p < W.n ∧ ds = [W.D, .int p, .int num] ∧ r = .tuple ((lastL W p num).map hpD)
def pLasting (ds : List D) (r : D) : Prop := ∃ (W : Wb) (p : Nat) (num : Int), W.Fit ∧ p < W.n ∧ ds = [W.D, .int p, .int num] ∧ r = .tuple ((lastL W p num).map hpD)
def mostL (W : Wb) : List Int := (List.range W.n).map fun i => (deg W.ts i : Int) - 1
theorem zipP_len {a b : List Int} {m : Int} {n : Nat} (ha : a.length = n) (hb : b.length = n) : (zipP a b m).length = n := by unfold zipP; simp [ha, hb]
def pLastingOf (ds : List D) (r : D) : Prop := ∃ (W : Wb) (h : List Int) (p : Nat) (g : List Int), W.Fit ∧ h.length = W.n ∧ Sm (zipP (mostL W) h (-1)) ∧ p < W.n ∧ Red W p g ∧ Eqv W (zipP (mostL W) h (-1)) g ∧ ds = [W.D, hpD h, .int p] ∧ r = hpD (zipP (mostL W) g (-1))
/-! ### classes -/
def pClassAdded (ds : List D) (r : D) : Prop := ∃ (W : Wb) (a b g : List Int), W.Fit ∧ a.length = W.n ∧ b.length = W.n ∧ a.sum = 0 ∧ b.sum = 0 ∧ Sm (zipP a b 1) ∧ Red W 0 g ∧ Eqv W (zipP a b 1) g ∧ ds = [W.D, hpD a, hpD b] ∧ r = hpD g
def negL (h : List Int) : List Int := h.map fun x => x * -1
def pTimesBy (ds : List D) (r : D) : Prop := ∃ (W : Wb) (a g : List Int), W.Fit ∧ a.length = W.n ∧ Sm (negL a) ∧ Red W 0 g ∧ Eqv W (negL a) g ∧ ds = [W.D, hpD a, .int (-1)] ∧ r = hpD g
def pClassTimes (ds : List D) (r : D) : Prop := ∃ (W : Wb) (a g : List Int), W.Fit ∧ a.length = W.n ∧ a.sum = 0 ∧ Sm (negL a) ∧ Red W 0 g ∧ Eqv W (negL a) g ∧ ds = [W.D, hpD a, .int (-1)] ∧ r = hpD g
def pClassNumber (ds : List D) (r : D) : Prop := ∃ (W : Wb) (h g : List Int) (k : Nat), W.Fit ∧ h.length = W.n ∧ Sm h ∧ Red W 0 g ∧ Eqv W h g ∧ (allBy W 0 h.sum)[k]? = some g ∧ (∀ j, j < k → (allBy W 0 h.sum)[j]? ≠ some g) ∧ ds = [W.D, hpD h] ∧ r = .int k
end K79
set_option maxHeartbeats 4000000
namespace K79
open PySem L2 Evl Lf
variable {P : Program} {w : World} {K : PySem.W.Frag} {mg : Str → Option Value} {base : Heap} {f : Addr} {fd : FuncData}
def rowE (m : Nat) (e : Nat → Nat → Int) (i : Nat) : List Int := (List.range m).map (e i)
def matD (m : Nat) (e : Nat → Nat → Int) : D := .list ((List.range m).map fun i => hpD (rowE m e i))
def rngF (a m : Nat) : List Nat := (List.range (m - a)).map fun i => a + i
def someOf (m : Nat) (e : Nat → Nat → Int) (a : Nat) : List Nat := (rngF a m).filter fun s => !decide (e s a = 0)
def swapE (e : Nat → Nat → Int) (a i : Nat) : Nat → Nat → Int := fun s t => if s = a then e i t else if s = i then e a t else e s t
def elim1 (a : Nat) (last : Int) (e : Nat → Nat → Int) (s t : Nat) : Int := (e a a * e s t - e s a * e a t).fdiv last
def elimE (a : Nat) (last : Int) (e : Nat → Nat → Int) : Nat → Nat → Int := fun s t => if a < s ∧ a ≤ t then elim1 a last e s t else e s t
def pvt (e : Nat → Nat → Int) (a i : Nat) : Nat → Nat → Int := if i = a then e else swapE e a i
def detG (m : Nat) : Nat → Nat → (Nat → Nat → Int) → Int → Int → Int
  | 0, _, _, sg, last => sg * last
  | k + 1, a, e, sg, last => match someOf m e a with
    | [] => 0
    | i :: _ => detG m k (a + 1) (elimE a last (pvt e a i)) (if i = a then sg else -sg) (pvt e a i a a)
theorem rng2_eq (a m : Nat) (h : a ≤ m) : rgD (a : Int) 1 (Int.toNat ((m : Int) - (a : Int))) = (rngF a m).map fun i => .int (i : Nat) := by
  unfold rgD rngF
  rw [List.map_map, show Int.toNat ((m : Int) - (a : Int)) = m - a by omega]
  exact List.map_congr_left fun i _ => by simp
theorem rngF_mem {a m s : Nat} : s ∈ rngF a m ↔ a ≤ s ∧ s < m := by
  unfold rngF
  rw [List.mem_map]
  exact ⟨fun ⟨i, h1, h2⟩ => by have := List.mem_range.mp h1; omega, fun h => ⟨s - a, List.mem_range.mpr (by omega), by omega⟩⟩
theorem sq_congr {n : Nat} {e e' : Nat → Nat → Int} (h : ∀ s t, s < n → t < n → e s t = e' s t) : sq n e = sq n e' := by
  unfold sq
  exact List.map_congr_left fun i hi => List.map_congr_left fun j hj => by rw [h i j (List.mem_range.mp hi) (List.mem_range.mp hj)]
def Bnd (B : Int) (m : Nat) (e : Nat → Nat → Int) : Prop := ∀ s t, s < m → t < m → -B < e s t ∧ e s t < B
structure Bd (m k : Nat) (e : Nat → Nat → Int) (sg last : Int) : Prop where
  sg : sg = 1 ∨ sg = -1
  z : k = 0 → last = 1 ∧ Bnd (2 ^ 20) m e
  o : k = 1 → last ≠ 0 ∧ (-(2 ^ 20) < last ∧ last < 2 ^ 20) ∧ Bnd (2 ^ 42) m e
def pDet (ds : List D) (r : D) : Prop := ∃ (m : Nat) (e : Nat → Nat → Int), m ≤ 3 ∧ Bnd (2 ^ 20) m e ∧ ds = [matD m e] ∧ r = .int (detG m m 0 e 1 1)
theorem sc_det : FnScope ["rows", "left", "sign", "last", "at", "spot", "some", "to", "row"] ["rows"] (defScope (top 8)) := ⟨rfl, rfl, rfl, by decide +kernel, rfl, by decide +kernel, by decide +kernel⟩
theorem sq_swap {m : Nat} {e : Nat → Nat → Int} {a i : Nat} (ha : a < (sq m e).length) (hi : i < (sq m e).length) (hne : i ≠ a) : ((sq m e).set a (sq m e)[i]).set i (sq m e)[a] = sq m (swapE e a i) := by
  have hm : (sq m e).length = m := by simp [sq]
  refine List.ext_getElem? fun s => ?_
  by_cases h1 : i = s
  · subst h1
    rw [List.getElem?_set_self (by rw [List.length_set]; exact hi), sq_at (by omega), ← List.getElem?_eq_getElem, sq_at (by omega)]
    congr 1
    exact List.map_congr_left fun t _ => by unfold swapE; rw [if_neg hne, if_pos rfl]
  · rw [List.getElem?_set_ne h1]
    by_cases h2 : a = s
    · subst h2
      rw [List.getElem?_set_self ha, ← List.getElem?_eq_getElem, sq_at (by omega), sq_at (by omega)]
      congr 1
      exact List.map_congr_left fun t _ => by unfold swapE; rw [if_pos rfl]
    · rw [List.getElem?_set_ne h2]
      by_cases hs : s < m
      · rw [sq_at hs, sq_at hs]
        congr 1
        exact List.map_congr_left fun t _ => by unfold swapE; rw [if_neg (Ne.symm h2), if_neg (Ne.symm h1)]
      · rw [List.getElem?_eq_none (by omega), List.getElem?_eq_none (by simp [sq]; omega)]
/-- the rows of the spots from a + 1 to a + j are done, in the next one the places from t on -/
def part (a : Nat) (last : Int) (e : Nat → Nat → Int) (j t0 : Nat) : Nat → Nat → Int := fun s t => if a < s ∧ a ≤ t ∧ (s < a + 1 + j ∨ (s = a + 1 + j ∧ t0 ≤ t)) then elim1 a last e s t else e s t
theorem rng3_eq (a m : Nat) (h : a ≤ m) (hm : 1 ≤ m) : rgD ((m : Int) - 1) (-1) (Int.toNat (((m : Int) - 1) - ((a : Int) - 1))) = (List.range (m - a)).map fun i => .int ((m - 1 - i : Nat) : Int) := by
  unfold rgD
  rw [show Int.toNat (((m : Int) - 1) - ((a : Int) - 1)) = m - a by omega]
  refine List.map_congr_left fun i hi => ?_
  have := List.mem_range.mp hi
  congr 1
  omega
theorem bnd64 {B x : Int} (h : -B < x ∧ x < B) (hB : B ≤ 2 ^ 64) : -(2 ^ 64) < x ∧ x < 2 ^ 64 := by omega
theorem mul_bnd {x y A B : Int} (h1 : -A < x ∧ x < A) (h2 : -B < y ∧ y < B) : -(A * B) < x * y ∧ x * y < A * B := by
  have a1 : x.natAbs < A.natAbs := by omega
  have a2 : y.natAbs < B.natAbs := by omega
  have a3 : (x * y).natAbs < (A * B).natAbs := by
    rw [Int.natAbs_mul, Int.natAbs_mul]
    exact Nat.mul_lt_mul'' a1 a2
  have a4 : 0 ≤ A * B := Int.mul_nonneg (by omega) (by omega)
  omega
theorem pvt_bnd {B : Int} {m a i : Nat} {e : Nat → Nat → Int} (h : Bnd B m e) (ha : a < m) (hi : i < m) : Bnd B m (pvt e a i) := fun s t hs ht => by
  unfold pvt swapE
  split
  · exact h s t hs ht
  · dsimp only
    split
    · exact h i t hi ht
    · split
      · exact h a t ha ht
      · exact h s t hs ht
theorem pvt_at {a i : Nat} {e : Nat → Nat → Int} {t : Nat} : pvt e a i a t = e i t := by
  unfold pvt swapE
  split
  · rename_i h; rw [h]
  · dsimp only
    rw [if_pos rfl]
theorem bd_next {m k i : Nat} {e : Nat → Nat → Int} {sg last : Int} (bd : Bd m k e sg last) (hk : k < m) (hi : i < m) (hne : e i k ≠ 0) : Bd m (k + 1) (elimE k last (pvt e k i)) (if i = k then sg else -sg) (pvt e k i k k) := by
  refine ⟨?_, fun z => by omega, fun z => ?_⟩
  · have := bd.sg
    split <;> omega
  · have hk0 : k = 0 := by omega
    subst hk0
    obtain ⟨h1, h2⟩ := bd.z rfl
    have h3 := pvt_bnd h2 hk hi
    refine ⟨by rw [pvt_at]; exact hne, by have := h3 0 0 hk hk; omega, fun s t hs ht => ?_⟩
    unfold elimE
    split
    · unfold elim1
      rw [h1, Int.fdiv_one]
      have b1 := mul_bnd (h3 0 0 hk hk) (h3 s t hs ht)
      have b2 := mul_bnd (h3 s 0 hs hk) (h3 0 t hk ht)
      omega
    · have := h3 s t hs ht
      omega
theorem ok_det (T : Txt mg) (F : Fun K "determinant" "determinant" (top 8) f fd) : FnOk P w K mg base CX0 1 f fd ["rows"] (pureSp pDet) := by
  refine fn_pure F sc_det (fun ds r h => by obtain ⟨_, _, _, _, rfl, _⟩ := h; rfl) fun ds r h => ?_
  obtain ⟨m, e0, m3, b0, rfl, rfl⟩ := h
  refine seq (gs_par3 (i := 1) (j := 2) (l := 3) rfl rfl rfl (by decide) (by decide) (by decide) (.inr ⟨rfl, rfl⟩) (.inl rfl) (.inl rfl)
    (ga_cons (lcO (xs := List.range m) (rep := fun i => hpD (rowE m e0 i)) (g2 := fun i => (List.range m).map fun j => .int (e0 i j)) (own := [("row", 8)]) (p := .nm 8) (lok (ig_list (v 0 rfl)) (pg_nm rfl (.inl rfl)) rfl rfl rfl (fun _ _ => rfl))
      (fun x hx => ⟨_, rfl, by
        have : hpD (rowE m e0 x) = .tuple ((List.range m).map fun j => .int (e0 x j)) := by unfold hpD rowE; rw [List.map_map]; rfl
        rw [this]
        exact ge_list rfl T.list (v 8 rfl) (.t .sh) (fun _ => rfl)⟩) (by rw [List.length_range]; omega) (ni_of rfl)) (ga_cons ge_int (ga_cons ge_int ga_nil (fun _ => rfl)) (fun _ => rfl)) (fun _ => rfl)) rfl rfl rfl (Nat.le_of_ble_eq_true rfl) (Nat.le_of_ble_eq_true rfl) (Nat.le_of_ble_eq_true rfl) rfl (.inr (sw_at rfl))) ?_
  refine gss_cons (Mid := fun Γ => ∃ sg last Γ', Γ = .sh (matD m e0) :: Γ' ∧ Γ'[1]? = some (.sh (.int sg)) ∧ Γ'[2]? = some (.sh (.int last)) ∧ (sg = 1 ∨ sg = -1) ∧ sg * last = detG m m 0 e0 1 1)
    (gs_for (L := (List.range m).map fun i => .int (i : Nat)) (p := .nm 4) (I := fun k Γ => ∃ e sg last s4 s5 s6 s7, Γ = [.sh (matD m e0), .oll (sq m e), .sh (.int sg), .sh (.int last), s4, s5, s6, s7, .no] ∧ (hid (some s5) = true) ∧ Bd m k e sg last ∧ detG m (m - k) k e sg last = detG m m 0 e0 1 1)
    (IG.of (rg1_eq m) (ig_rg1 rfl T.range (geq (ge_lenO rfl T.len (boc 1 rfl) rfl (fun _ => rfl)) (d' := .int m) ?_) (by omega) (fun _ => rfl))) (pg_nm rfl (.inr ⟨rfl, rfl⟩)) ⟨e0, 1, 1, .no, .no, .no, .no, rfl, rfl, ⟨.inl rfl, fun _ => ⟨rfl, b0⟩, fun z => by cases z⟩, rfl⟩ ?_ ?_ (fun _ _ => rfl)) ?_
  · rw [List.length_map, List.length_range]
  · rintro k Γ d ⟨e, sg, last, s4, s5, s6, s7, rfl, hs5, bd, hdet⟩ hd
    rw [List.getElem?_map] at hd
    by_cases hk : k < m
    · rw [List.getElem?_range hk] at hd
      cases hd
      have hml : (sq m e).length = m := by simp [sq]
      refine ⟨_, rfl, ?_⟩
      refine seq (asgL (xs := rngF k m) (rep := fun i => .int (i : Nat)) (kf := fun s => !decide (e s k = 0)) (g := fun i => .int (i : Nat)) (own := [("spot", 5)]) (p := .nm 5) 6
        (lok (IG.of (rng2_eq k m (by omega)) (ig_rg2 rfl T.range (vc 4 rfl) (geq (ge_lenO rfl T.len (boc 1 rfl) rfl (fun _ => rfl)) (d' := .int m) (by rw [hml])) (by omega) (fun _ => rfl) (fun _ => rfl))) (pg_nm rfl (.inl rfl)) rfl rfl (by simp [hs5]) (fun _ _ => rfl))
        (fun x hx => ⟨_, rfl, gts_one (gt_cmp (ge_sq (boc 1 rfl) (v 5 rfl) (vc 4 rfl) rfl (rngF_mem.mp hx).2 hk (fun _ _ => rfl) (fun _ _ => rfl)) ge_int og_neI rfl), fun _ => v 5 rfl⟩) (by unfold rngF; simp; omega) rfl rfl rfl (Nat.le_of_ble_eq_true rfl) rfl rfl) ?_
      have hss : ∀ s, s ∈ someOf m e k → k ≤ s ∧ s < m ∧ e s k ≠ 0 := fun s hs => by
        obtain ⟨h1, h2⟩ := List.mem_filter.mp hs
        obtain ⟨h3, h4⟩ := rngF_mem.mp h1
        exact ⟨h3, h4, by simpa using h2⟩
      refine gss_cons (Mid := fun Γ => Γ = [.sh (matD m e0), .oll (sq m e), .sh (.int sg), .sh (.int last), .sh (.int k), s5, .ol (natsD (someOf m e k)), s7, .no] ∧ someOf m e k ≠ [])
        (gs_if (k := decide (someOf m e k = [])) (by rw [← eqv_nil]; exact gt_cmp (bo 6 rfl) l0 (og_eqL (.bo rfl) .ol (pl_shaped pl_lst (by decide)) (pl_shaped pl_nil (by decide))) rfl) (fun hz => ?_) (fun hz => gss_nil ⟨rfl, by simpa using hz⟩)) ?_
      · have hz' : someOf m e k = [] := by simpa using hz
        refine ret ge_int (retS ?_)
        rw [← hdet, show m - k = (m - (k + 1)) + 1 by omega, detG, hz']
      · rintro Γ ⟨rfl, hne⟩
        obtain ⟨i, tl, hi⟩ : ∃ i tl, someOf m e k = i :: tl := by
          cases h : someOf m e k with
          | nil => exact absurd h hne
          | cons i tl => exact ⟨i, tl, rfl⟩
        obtain ⟨i1, i2, i3⟩ := hss i (by rw [hi]; simp)
        have hat0 : atI (natsD (someOf m e k)) 0 = some (.int (i : Nat)) := by
          rw [hi]; exact atI_at (k := 0) rfl
        have bd' := bd_next bd hk i2 i3
        have hnext : detG m (m - (k + 1)) (k + 1) (elimE k last (pvt e k i)) (if i = k then sg else -sg) (pvt e k i k k) = detG m m 0 e0 1 1 := by
          rw [← hdet, show m - k = (m - (k + 1)) + 1 by omega, detG, hi]
        generalize hsg : (if i = k then sg else -sg) = sg' at bd' hnext
        refine gss_one (Γ1 := [.sh (matD m e0), .oll (sq m (pvt e k i)), .sh (.int sg'), .sh (.int last), .sh (.int k), s5, .ol (natsD (someOf m e k)), s7, .no])
          (gs_if (gt_cmp (ge_ixL (bo 6 rfl) ge_int (.bo rfl) hat0 (pix (fun _ _ => rfl))) (vc 4 rfl) og_neN rfl) (fun hz => ?_) (fun hz => ?_)) ?_
        · have hik : i ≠ k := by simpa using hz
          have e1 : pvt e k i = swapE e k i := by unfold pvt; rw [if_neg hik]
          have e2 : sg' = -sg := by rw [← hsg, if_neg hik]
          rw [e1, e2]
          refine gss_one (Γ1 := [.sh (matD m e0), .oll (sq m (swapE e k i)), .sh (.int (-sg)), .sh (.int last), .sh (.int k), s5, .ol (natsD (someOf m e k)), s7, .no]) ?_ (gss_nil rfl)
          have ha : k < (sq m e).length := by rw [hml]; exact hk
          have hi' : i < (sq m e).length := by rw [hml]; exact i2
          apply gs_swap (l := 1) (i := i) (a := k) (k := 2) (dss := sq m e) (d3 := .int (-sg)) (ha := ha) (hi := hi')
          case hl => rfl
          case hv1 => exact ge_ixO (boc 1 rfl) (ge_ixL (bo 6 rfl) ge_int (.bo rfl) hat0 (pix (fun _ _ => rfl))) rfl rfl (by rw [hml]; exact i2) (pix (fun _ _ => rfl))
          case hv2 => exact ge_ixO (boc 1 rfl) (vc 4 rfl) rfl rfl (by rw [hml]; exact hk) (pix (fun _ _ => rfl))
          case hv3 => exact ge_neg (v 2 rfl)
          case ho1 => exact fun τ => boc 1 rfl
          case h1 => exact fun τ => vc 4 rfl
          case ho2 => exact fun R τ => boc 1 rfl
          case h2 => exact fun R τ => ge_ixL (bo 6 rfl) ge_int (.bo rfl) hat0 (pix (fun _ _ => rfl))
          case hN => rfl
          case hy => exact .inl rfl
          case hk => exact Nat.le_of_ble_eq_true rfl
          case kk =>
            show _ = _
            rw [sq_swap ha hi' hik]
            rfl
          case he => exact (fun _ => rfl)
          case he2 => exact (fun _ => rfl)
          case he3 => exact (fun _ => rfl)
          case as1 => exact (fun _ _ => rfl)
          case as2 => exact (fun _ _ => rfl)
          case e1 => exact (fun _ => rfl)
          case e2 => exact (fun _ => rfl)
          case e3 => exact (fun _ => rfl)
          case en => exact (fun _ => rfl)
          case ef => exact (fun _ => rfl)
          case hs => exact (fun _ _ => rfl)
          case hw => exact sw_at rfl
          case h11 => exact (fun _ => rfl)
        · have hik : i = k := by simpa using hz
          refine gss_nil ?_
          have e1 : pvt e k i = e := by unfold pvt; rw [if_pos hik]
          have e2 : sg' = sg := by rw [← hsg, if_pos hik]
          rw [e1, e2]
        · generalize he' : pvt e k i = e' at bd' hnext
          have hnat : ∀ x : Nat, ((x : Int) + 1) = ((x + 1 : Nat) : Int) := fun x => by omega
          refine gss_cons (Mid := fun Γ => ∃ s5 s7, hid (some s5) = true ∧ Γ = [.sh (matD m e0), .oll (sq m (elimE k last e')), .sh (.int sg'), .sh (.int last), .sh (.int k), s5, .ol (natsD (someOf m e k)), s7, .no])
            (gs_for (L := (rngF (k + 1) m).map fun i => .int (i : Nat)) (p := .nm 5) (I := fun j Γ => ∃ s5 s7, hid (some s5) = true ∧ Γ = [.sh (matD m e0), .oll (sq m (part k last e' j m)), .sh (.int sg'), .sh (.int last), .sh (.int k), s5, .ol (natsD (someOf m e k)), s7, .no])
              (IG.of (rng2_eq (k + 1) m (by omega)) (ig_rg2 rfl T.range (geq (d' := .int ((k + 1 : Nat) : Int)) (ge_bin (vc 4 rfl) ge_int og_add) (congrArg PyData.int (hnat k))) (geq (ge_lenO rfl T.len (boc 1 rfl) rfl (fun _ => rfl)) (d' := .int m) (by simp [sq])) (by omega) (fun _ => rfl) (fun _ => rfl))) (pg_nm rfl (.inl rfl)) ⟨s5, s7, hs5, ?_⟩ ?_ ?_ (fun _ _ => rfl)) ?_
          · rw [sq_congr (e := part k last e' 0 m) (e' := e') fun s t hs ht => by unfold part; rw [if_neg (by omega)]]
          · rintro j Γ d ⟨s5, s7, hs5, rfl⟩ hd
            unfold rngF at hd
            rw [List.getElem?_map, List.getElem?_map] at hd
            by_cases hj : j < m - (k + 1)
            · rw [List.getElem?_range hj] at hd
              cases hd
              have hj' : k + 1 + j < m := by omega
              refine ⟨_, rfl, ?_⟩
              refine gss_one (Γ1 := _) ?_ (gss_nil ⟨.sh (.int ((k + 1 + j : Nat) : Int)), .sh (.int ((k : Nat) : Int)), rfl, rfl⟩)
              have hlen : (sq m (part k last e' j m)).length = m := by simp [sq]
              refine gs_for (L := (List.range (m - k)).map fun i => .int ((m - 1 - i : Nat) : Int)) (p := .nm 7) (I := fun i Γ => ∃ s7, (i = m - k → s7 = .sh (.int ((k : Nat) : Int))) ∧ Γ = [.sh (matD m e0), .oll (sq m (part k last e' j (m - i))), .sh (.int sg'), .sh (.int last), .sh (.int k), .sh (.int ((k + 1 + j : Nat) : Int)), .ol (natsD (someOf m e k)), s7, .no])
                (IG.of (rng3_eq k m (by omega) (by omega)) (ig_rg3 rfl T.range (ge_bin (geq (ge_lenO rfl T.len (boc 1 rfl) rfl (fun _ => rfl)) (d' := .int m) (by rw [hlen])) ge_int og_sub) (ge_bin (vc 4 rfl) ge_int og_sub) (ge_neg ge_int) (by omega) (fun _ => rfl) (fun _ => rfl) (fun _ => rfl))) (pg_nm rfl (.inl rfl)) ⟨s7, fun z => by omega, rfl⟩ ?_ ?_ (fun _ _ => rfl)
              · rintro i Γ d ⟨s7, _, rfl⟩ hd
                rw [List.getElem?_map] at hd
                by_cases hi2 : i < m - k
                · rw [List.getElem?_range hi2] at hd
                  cases hd
                  have ht : m - 1 - i < m := by omega
                  have hk1 : k = 0 ∨ k = 1 := by omega
                  have hbn : (last ≠ 0 ∧ last.natAbs < 1073741824) ∧ ∀ s t, s < m → t < m → -(2 ^ 64) < e' s t ∧ e' s t < 2 ^ 64 := by
                    rcases hk1 with z | z
                    · obtain ⟨b1, b2⟩ := bd.z z
                      refine ⟨by rw [b1]; decide, fun s t hs ht => ?_⟩
                      rw [← he']
                      exact bnd64 (pvt_bnd b2 hk i2 s t hs ht) (by decide)
                    · obtain ⟨b1, b2, b3⟩ := bd.o z
                      refine ⟨⟨b1, by omega⟩, fun s t hs ht => ?_⟩
                      rw [← he']
                      exact bnd64 (pvt_bnd b3 hk i2 s t hs ht) (by decide)
                  have q1 : part k last e' j (m - i) k k = e' k k := by unfold part; rw [if_neg (by omega)]
                  have q2 : part k last e' j (m - i) (k + 1 + j) (m - 1 - i) = e' (k + 1 + j) (m - 1 - i) := by unfold part; rw [if_neg (by omega)]
                  have q3 : part k last e' j (m - i) (k + 1 + j) k = e' (k + 1 + j) k := by unfold part; rw [if_neg (by omega)]
                  have q4 : part k last e' j (m - i) k (m - 1 - i) = e' k (m - 1 - i) := by unfold part; rw [if_neg (by omega)]
                  refine ⟨_, rfl, ?_⟩
                  refine seq (gs_asgT (ge_bin (ge_bin (ge_bin (ge_sq (boc 1 rfl) (vc 4 rfl) (vc 4 rfl) rfl hk hk (fun _ _ => rfl) (fun _ _ => rfl)) (ge_sq (boc 1 rfl) (v 5 rfl) (v 7 rfl) rfl hj' ht (fun _ _ => rfl) (fun _ _ => rfl)) (og_mul (.inl (by rw [q1]; exact hbn.2 _ _ hk hk))))
                    (ge_bin (ge_sq (boc 1 rfl) (v 5 rfl) (vc 4 rfl) rfl hj' hk (fun _ _ => rfl) (fun _ _ => rfl)) (ge_sq (boc 1 rfl) (vc 4 rfl) (v 7 rfl) rfl hk ht (fun _ _ => rfl) (fun _ _ => rfl)) (og_mul (.inl (by rw [q3]; exact hbn.2 _ _ hj' hk)))) og_sub) (v 3 rfl) (og_fdiv hbn.1))
                    (tg_sq (fun τ => boc 1 rfl) (fun τ => v 5 rfl) (fun τ => v 7 rfl) rfl hj' ht (fun _ _ => rfl) (fun _ _ => rfl)) rfl (fun _ _ => rfl) (fun _ _ => rfl) (fun _ => rfl)) (gss_nil ⟨.sh (.int ((m - 1 - i : Nat) : Int)), fun z => by congr 3; omega, ?_⟩)
                  rw [q1, q2, q3, q4]
                  rw [sq_congr (e := part k last e' j (m - (i + 1))) (e' := up2 (part k last e' j (m - i)) (k + 1 + j) (m - 1 - i) (elim1 k last e' (k + 1 + j) (m - 1 - i))) fun s t hs ht => by
                    unfold up2 part
                    by_cases h1 : k + 1 + j = s ∧ m - 1 - i = t
                    · rw [if_pos h1, if_pos (by omega), h1.1, h1.2]
                    · rw [if_neg h1]
                      by_cases h2 : k < s ∧ k ≤ t ∧ (s < k + 1 + j ∨ (s = k + 1 + j ∧ m - i ≤ t))
                      · rw [if_pos h2, if_pos (by omega)]
                      · rw [if_neg h2, if_neg (by omega)]]
                  rfl
                · rw [List.getElem?_eq_none (by simp; omega)] at hd
                  cases hd
              · rintro Γ ⟨s7, h7, rfl⟩
                rw [List.length_map, List.length_range] at h7 ⊢
                rw [h7 rfl, sq_congr (e := part k last e' j (m - (m - k))) (e' := part k last e' (j + 1) m) fun s t hs ht => by
                    unfold part
                    by_cases h2 : k < s ∧ k ≤ t ∧ (s < k + 1 + (j + 1) ∨ (s = k + 1 + (j + 1) ∧ m ≤ t))
                    · rw [if_pos h2, if_pos (by omega)]
                    · rw [if_neg h2, if_neg (by omega)]]
            · rw [List.getElem?_eq_none (by simp; omega)] at hd
              cases hd
          · rintro Γ ⟨s5, s7, hs5, rfl⟩
            refine ⟨s5, s7, hs5, ?_⟩
            unfold rngF
            rw [List.length_map, List.length_map, List.length_range, sq_congr (e := part k last e' (m - (k + 1)) m) (e' := elimE k last e') fun s t hs ht => by
              unfold part elimE
              by_cases h2 : k < s ∧ k ≤ t
              · rw [if_pos h2, if_pos (by omega)]
              · rw [if_neg h2, if_neg (by omega)]]
          · rintro Γ ⟨s5, s7, hs5, rfl⟩
            have q1 : elimE k last e' k k = e' k k := by unfold elimE; rw [if_neg (by omega)]
            exact seq (asg 3 (geq (ge_sq (boc 1 rfl) (vc 4 rfl) (vc 4 rfl) rfl hk hk (fun _ _ => rfl) (fun _ _ => rfl)) (congrArg PyData.int q1)) rfl rfl rfl (.inl rfl) (Nat.le_of_ble_eq_true rfl) (fun _ => rfl)) (gss_nil ⟨elimE k last e', sg', e' k k, _, s5, _, s7, rfl, hs5, bd', hnext⟩)
    · rw [List.getElem?_eq_none (by simp; omega)] at hd
      cases hd
  · rintro Γ ⟨e, sg, last, s4, s5, s6, s7, rfl, hs5, bd, hdet⟩
    refine ⟨sg, last, _, rfl, rfl, rfl, bd.sg, ?_⟩
    rw [List.length_map, List.length_range, Nat.sub_self] at hdet
    exact hdet
  · rintro Γ ⟨sg, last, Γ', rfl, h1, h2, h4, h3⟩
    exact ret (ge_bin (v 2 h1) (v 3 h2) (og_mul (.inl (by omega)))) (retS (by rw [h3]))
end K79
set_option maxHeartbeats 4000000
namespace K79
open PySem L2 Evl Lf
variable {P : Program} {w : World} {K : PySem.W.Frag} {mg : Str → Option Value} {base : Heap} {f : Addr} {fd : FuncData}
/-! ### solved -/
def colE (e : Nat → Nat → Int) (a : Nat) (g : Nat → Int) : Nat → Nat → Int := fun s t => if t = a then g s else e s t
def detE (m : Nat) (e : Nat → Nat → Int) : Int := detG m m 0 e 1 1
def pSolved (ds : List D) (r : D) : Prop := ∃ (m : Nat) (e : Nat → Nat → Int) (g : Nat → Int), m ≤ 3 ∧ Bnd (2 ^ 20) m e ∧ (∀ s, s < m → -(2 ^ 20) < g s ∧ g s < 2 ^ 20) ∧ ds = [matD m e, hpD ((List.range m).map g)] ∧ r = .tuple [.list ((List.range m).map fun a => .int (detE m (colE e a g))), .int (detE m e)]
theorem sc_solved : FnScope ["rows", "goal", "below", "found", "at", "spot", "row"] ["rows", "goal"] (defScope (top 9)) := ⟨rfl, rfl, rfl, by decide +kernel, rfl, by decide +kernel, by decide +kernel⟩
theorem en_range (g : Nat → D) : ∀ (m k : Nat), enD k ((List.range m).map fun i => g (k + i)) = (List.range m).map fun i => .tuple [.int ((k + i : Nat) : Int), g (k + i)]
  | 0, k => rfl
  | m + 1, k => by
    rw [List.range_succ_eq_map, List.map_cons, List.map_map, List.map_cons, List.map_map]
    unfold enD
    have h := en_range g m (k + 1)
    have e1 : ((fun i => g (k + i)) ∘ Nat.succ) = fun i => g (k + 1 + i) := by funext i; show g (k + (i + 1)) = _; rw [show k + (i + 1) = k + 1 + i by omega]
    have e2 : ((fun i => PyData.tuple [.int ((k + i : Nat) : Int), g (k + i)]) ∘ Nat.succ) = fun i => .tuple [.int ((k + 1 + i : Nat) : Int), g (k + 1 + i)] := by
      funext i; show PyData.tuple [.int ((k + (i + 1) : Nat) : Int), g (k + (i + 1))] = _; rw [show k + (i + 1) = k + 1 + i by omega]
    rw [e1, e2, h]
    rfl
theorem en_range0 (g : Nat → D) (m : Nat) : enD 0 ((List.range m).map g) = (List.range m).map fun i => .tuple [.int (i : Nat), g i] := by
  have := en_range g m 0
  simpa using this
theorem row_col {m : Nat} {e : Nat → Nat → Int} {g : Nat → Int} {a s : Nat} (ha : a < m) : (rowE m e s).set a (g s) = rowE m (colE e a g) s := by
  unfold rowE
  refine List.ext_getElem? fun t => ?_
  by_cases h : a = t
  · subst h
    rw [List.getElem?_set_self (by simpa using ha), List.getElem?_map, List.getElem?_range ha]
    simp [colE]
  · rw [List.getElem?_set_ne h, List.getElem?_map, List.getElem?_map]
    cases ht : (List.range m)[t]? with
    | none => rfl
    | some k =>
      obtain ⟨h1, h2⟩ := List.getElem?_eq_some_iff.mp ht
      simp at h2
      subst h2
      simp [colE, Ne.symm h]
theorem ok_solved (T : Txt mg) (F : Fun K "solved" "solved" (top 9) f fd) (F1 : FnG P w K mg base "determinant" 1 pDet) : FnOk P w K mg base CX0 2 f fd ["rows", "goal"] (pureSp pSolved) := by
  refine fn_pure F sc_solved (fun ds r h => by obtain ⟨_, _, _, _, _, _, rfl, _⟩ := h; rfl) fun ds r h => ?_
  obtain ⟨m, e, g, m3, be, bg, rfl, rfl⟩ := h
  have hrl : ∀ e s, (rowE m e s).length = m := fun e s => by unfold rowE; simp
  refine seq (asg 2 (c1 F1 (v 0 rfl) ⟨m, e, m3, be, rfl, rfl⟩ (Nat.le_of_ble_eq_true rfl) rfl rfl (fun _ => rfl)) rfl rfl rfl (.inl rfl) (Nat.le_of_ble_eq_true rfl) (fun _ => rfl)) ?_
  refine seq (asg 3 l0 rfl rfl rfl (.inl rfl) (Nat.le_of_ble_eq_true rfl) (fun _ => rfl)) ?_
  refine gss_cons (Mid := fun Γ => ∃ s4, Γ = [.sh (matD m e), .sh (hpD ((List.range m).map g)), .sh (.int (detE m e)), .ol ((List.range m).map fun a => .int (detE m (colE e a g))), s4, .no, .no])
    (gs_for (L := (List.range m).map fun i => .int (i : Nat)) (p := .nm 4) (I := fun k Γ => ∃ s4, Γ = [.sh (matD m e), .sh (hpD ((List.range m).map g)), .sh (.int (detE m e)), .ol ((List.range k).map fun a => .int (detE m (colE e a g))), s4, .no, .no])
      (IG.of (rg1_eq m) (ig_rg1 rfl T.range (geq (ge_len rfl T.len (v 0 rfl) (.l .sh) (fun _ => rfl)) (d' := .int m) (by simp)) (by omega) (fun _ => rfl))) (pg_nm rfl (.inr ⟨rfl, rfl⟩)) ⟨.no, rfl⟩ ?_ ?_ (fun _ _ => rfl)) ?_
  · rintro a Γ d ⟨s4, rfl⟩ hd
    rw [List.getElem?_map] at hd
    by_cases ha : a < m
    · rw [List.getElem?_range ha] at hd
      cases hd
      refine ⟨_, rfl, ?_⟩
      refine seq (gs_app (ds0 := (List.range a).map fun a => .int (detE m (colE e a g))) (bo 3 rfl) rfl (c1 F1 (geq (d' := matD m (colE e a g)) (ge_frz (lcA (xs := List.range m) (rep := fun i => .tuple [.int (i : Nat), hpD (rowE m e i)]) (g := fun s => hpD (rowE m (colE e a g) s)) (own := [("spot", 5), ("row", 6)]) (p := .tp (.cons (.nm 5) (.cons (.nm 6) .nil)))
        (lok (IG.of (en_range0 _ m) (ig_enL rfl T.enumerate (v 0 rfl) (fun _ => rfl))) (pg_tp (pgs_cn (pg_nm rfl (.inl rfl)) (pgs_cn (pg_nm rfl (.inl rfl)) pgs_nl (fun _ => rfl)) (fun _ => rfl)) (fun _ => rfl) (fun _ => rfl)) rfl rfl rfl (fun _ _ => rfl))
        (fun s hs => ⟨_, rfl, geq (ge_bin (ge_bin (ge_slT (v 6 rfl) go_none (go_some (vc 4 rfl)) .sh) (t1 (ge_ixT (vc 1 rfl) (v 5 rfl) .sh (d := .int (g s)) ?_ (pix (fun _ _ => rfl))) (fun _ => rfl)) (og_catT .sh .sh ?_)) (ge_slT (v 6 rfl) (go_some (ge_bin (vc 4 rfl) ge_int og_add)) go_none .sh) (og_catT .sh .sh ?_)) ?_⟩) (by rw [List.length_range]; omega) (ni_of rfl))) rfl)
        ⟨m, colE e a g, m3, ?_, rfl, rfl⟩ (Nat.le_of_ble_eq_true rfl) rfl rfl (fun _ => rfl)) rfl ?_ rfl (fun _ _ => rfl) rfl (fun _ => rfl)) (gss_nil ⟨.sh (.int (a : Nat)), ?_⟩)
      · rw [List.map_map]
        exact at_range (g := fun s => PyData.int (g s)) (List.mem_range.mp hs)
      · rw [cut_pre]
        simp [hrl]
        omega
      · rw [cut_pre, show ((a : Nat) : Int) + 1 = ((a + 1 : Nat) : Int) by omega, cut_suf]
        simp [hrl]
        omega
      · rw [← row_col ha]
        exact congrArg PyData.tuple (fill_D (by rw [hrl]; exact ha))
      · intro s t hs ht
        unfold colE
        split
        · exact bg s hs
        · exact be s t hs ht
      · simp
        omega
      · rw [List.range_succ, List.map_append]
        rfl
    · rw [List.getElem?_eq_none (by simp; omega)] at hd
      cases hd
  · rintro Γ ⟨s4, rfl⟩
    refine ⟨s4, ?_⟩
    rw [List.length_map, List.length_range]
  · rintro Γ ⟨s4, rfl⟩
    exact ret (t2 (ge_frzB (bo 3 rfl) rfl .ol (by simp)) (v 2 rfl) (fun _ => rfl) (fun _ => rfl)) (retS rfl)
/-! ### whole_row -/
def sk (p s : Nat) : Nat := if s < p then s else s + 1
def redE (W : Wb) (p : Nat) : Nat → Nat → Int := fun s t => tab W.ts (sk p s) (sk p t)
theorem erase_range {α : Type} (g : Nat → α) (n p : Nat) (hp : p < n) : ((List.range n).map g).eraseIdx p = (List.range (n - 1)).map fun s => g (sk p s) := by
  refine List.ext_getElem? fun s => ?_
  rw [List.getElem?_eraseIdx, List.getElem?_map, List.getElem?_map, List.getElem?_map]
  unfold sk
  by_cases h1 : s < p
  · rw [if_pos h1, List.getElem?_range (by omega), List.getElem?_range (by omega)]
    simp [h1]
  · rw [if_neg h1]
    by_cases h2 : s < n - 1
    · rw [List.getElem?_range (by omega), List.getElem?_range h2]
      simp [h1]
    · rw [List.getElem?_eq_none (by simp; omega), List.getElem?_eq_none (by simp; omega)]
      rfl
structure DetOk (W : Wb) (p : Nat) : Prop where
  nz : detE (W.n - 1) (redE W p) ≠ 0
  sm : (detE (W.n - 1) (redE W p)).natAbs < 1073741824
def preWhole (ds : List D) : Prop := ∃ (W : Wb) (h : List Int) (p : Nat), W.Fit ∧ h.length = W.n ∧ Sm h ∧ p < W.n ∧ DetOk W p ∧ ds = [W.D, hpD h, .int p]
def postWhole (ds : List D) (r : D) : Prop := ∀ (W : Wb) (h : List Int) (p : Nat), ds = [W.D, hpD h, .int p] → ∃ q : List Int, q.length = W.n ∧ r = hpD q
theorem sc_whole : FnScope ["web", "heap", "place", "rows", "above", "below", "found", "line", "number"] ["web", "heap", "place"] (defScope (top 32)) := ⟨rfl, rfl, rfl, by decide +kernel, rfl, by decide +kernel, by decide +kernel⟩
theorem wb_inj {W V : Wb} (h : W.D = V.D) : W.n = V.n := by
  unfold Wb.D at h
  have := PyData.tuple.inj h
  simp only [List.cons.injEq, PyData.int.injEq] at this
  omega
theorem getD_hp {h : List Int} {n : Nat} (hl : h.length = n) : h = (List.range n).map fun i => h.getD i 0 := by
  subst hl
  refine List.ext_getElem? fun i => ?_
  rw [List.getElem?_map]
  by_cases hi : i < h.length
  · rw [List.getElem?_range hi, List.getElem?_eq_getElem hi]
    simp [List.getD_eq_getElem?_getD, List.getElem?_eq_getElem hi]
  · rw [List.getElem?_eq_none (by omega), List.getElem?_eq_none (by simp; omega)]
    rfl
theorem ok_whole (T : Txt mg) (F : Fun K "whole_row" "whole_row" (top 32) f fd) (F1 : FnG P w K mg base "without" 1 pWithout) (F2 : FnG P w K mg base "table_by" 1 pTableBy) (F3 : FnG P w K mg base "solved" 2 pSolved) : FnOk P w K mg base CX0 3 f fd ["web", "heap", "place"] (relSp preWhole postWhole) := by
  refine fn_rel F sc_whole (fun ds h => by obtain ⟨_, _, _, _, _, _, _, _, rfl⟩ := h; rfl) fun ds h => ?_
  obtain ⟨W, h, p, fit, hl, sm, hp, dk, rfl⟩ := h
  have n6 := fit.ok.n6
  have n4 := fit.n4
  have e1 : tableD W = .tuple ((List.range W.n).map fun i => hpD (rowT W i)) := rfl
  have e2 : ∀ s, s < W.n - 1 → ((rowT W (sk p s)).map PyData.int).eraseIdx p = (rowE (W.n - 1) (redE W p) s).map .int := fun s hs => by
    unfold rowT rowE
    rw [List.map_map, erase_range _ _ _ hp, List.map_map]
    rfl
  refine seq (asgA (xs := List.range (W.n - 1)) (rep := fun s => hpD (rowT W (sk p s))) (g := fun s => hpD (rowE (W.n - 1) (redE W p) s)) (own := [("line", 7)]) (p := .nm 7) 3
    (lok (IG.of (erase_range (fun i => hpD (rowT W i)) W.n p hp) (ig_tup (c2 F1 (geq (c1 F2 (v 0 rfl) ⟨W, fit.ok, rfl, rfl⟩ (Nat.le_of_ble_eq_true rfl) rfl rfl (fun _ => rfl)) e1) (vc 2 rfl) ⟨_, p, by simp; omega, by simp; exact hp, rfl, rfl⟩ (Nat.le_of_ble_eq_true rfl) rfl rfl (fun _ => rfl) (fun _ => rfl) (fun _ => rfl)))) (pg_nm rfl (.inl rfl)) rfl rfl rfl (fun _ _ => rfl))
    (fun s hs => ⟨_, rfl, geq (c2 F1 (v 7 rfl) (vc 2 rfl) ⟨(rowT W (sk p s)).map .int, p, by unfold rowT; simp; omega, by unfold rowT; simp; exact hp, rfl, rfl⟩ (Nat.le_of_ble_eq_true rfl) rfl rfl (fun _ => rfl) (fun _ => rfl) (fun _ => rfl)) (by rw [e2 s (List.mem_range.mp hs)]; rfl)⟩) (by rw [List.length_range]; omega) rfl rfl rfl (Nat.le_of_ble_eq_true rfl) rfl rfl) ?_
  have e3 : (h.map PyData.int).eraseIdx p = ((List.range (W.n - 1)).map fun s => h.getD (sk p s) 0).map .int := by
    have := getD_hp hl
    rw [this, List.map_map, erase_range _ _ _ hp, List.map_map]
    refine List.map_congr_left fun s hs => ?_
    rw [← this]
    rfl
  have b1 : Bnd (2 ^ 20) (W.n - 1) (redE W p) := fun s t _ _ => by
    have := tab_small fit.ok (sk p s) (sk p t)
    unfold redE
    omega
  have b2 : ∀ s, s < W.n - 1 → -(2 ^ 20) < h.getD (sk p s) 0 ∧ h.getD (sk p s) 0 < 2 ^ 20 := fun s hs => by
    have hk : sk p s < h.length := by unfold sk; split <;> omega
    have := sm (h.getD (sk p s) 0) (by rw [List.getD_eq_getElem?_getD, List.getElem?_eq_getElem hk]; exact List.getElem_mem hk)
    omega
  refine seq (gs_asgT (c2 F3 (geq (d' := matD (W.n - 1) (redE W p)) (ge_frzB (bo 3 rfl) rfl .ol (by simp)) rfl) (geq (d' := hpD ((List.range (W.n - 1)).map fun s => h.getD (sk p s) 0)) (c2 F1 (v 1 rfl) (vc 2 rfl) ⟨h.map .int, p, by simp; omega, by simp; omega, rfl, rfl⟩ (Nat.le_of_ble_eq_true rfl) rfl rfl (fun _ => rfl) (fun _ => rfl) (fun _ => rfl)) (by rw [e3]; rfl))
    ⟨W.n - 1, redE W p, _, by omega, b1, b2, rfl, rfl⟩ (Nat.le_of_ble_eq_true rfl) rfl rfl (fun _ => rfl) (fun _ => rfl) (fun _ => rfl)) (tg_tup (tz_cons (tg_nm (i := 4) rfl (.inl rfl) (Nat.le_of_ble_eq_true rfl)) (tz_cons (tg_nm (i := 5) rfl (.inr ⟨rfl, rfl⟩) (Nat.le_of_ble_eq_true rfl)) tz_nil (fun _ => rfl)) (fun _ => rfl)) rfl (fun _ => rfl) (fun _ => rfl)) rfl (fun _ _ => rfl) (fun _ _ => rfl) (fun _ => rfl)) ?_
  refine seq (asgA (xs := List.range (W.n - 1)) (rep := fun a => .int (detE (W.n - 1) (colE (redE W p) a fun s => h.getD (sk p s) 0))) (g := fun a => .int ((detE (W.n - 1) (colE (redE W p) a fun s => h.getD (sk p s) 0)).fdiv (detE (W.n - 1) (redE W p)))) (own := [("number", 8)]) (p := .nm 8) 6
    (lok (ig_list (v 4 rfl)) (pg_nm rfl (.inl rfl)) rfl rfl rfl (fun _ _ => rfl)) (fun a ha => ⟨_, rfl, ge_bin (v 8 rfl) (vc 5 rfl) (og_fdiv ⟨dk.nz, dk.sm⟩)⟩) (by rw [List.length_range]; omega) rfl rfl rfl (Nat.le_of_ble_eq_true rfl) rfl rfl) ?_
  generalize hq : ((List.range (W.n - 1)).map fun a => (detE (W.n - 1) (colE (redE W p) a fun s => h.getD (sk p s) 0)).fdiv (detE (W.n - 1) (redE W p))) = q
  have hql : q.length = W.n - 1 := by rw [← hq]; simp
  have hqD : ((List.range (W.n - 1)).map fun a => PyData.int ((detE (W.n - 1) (colE (redE W p) a fun s => h.getD (sk p s) 0)).fdiv (detE (W.n - 1) (redE W p)))) = q.map .int := by
    rw [← hq, List.map_map]
    rfl
  rw [hqD]
  refine ret (ge_tuple rfl T.tuple (ge_bin (ge_bin (ge_slL (bo 6 rfl) go_none (go_some (vc 2 rfl)) (.bo rfl)) (l1 ge_int (fun _ => rfl)) (og_catL .ol .ol ?_)) (ge_slL (bo 6 rfl) (go_some (vc 2 rfl)) go_none (.bo rfl)) (og_catL .ol .ol ?_)) .ol (fun _ => rfl)) ⟨_, .sh, ?_⟩
  · rw [cut_pre]
    simp
    omega
  · rw [cut_pre, cut_suf]
    simp
    omega
  · intro V k p' e
    have hn := wb_inj (List.cons.inj e).1
    refine ⟨q.take p ++ [0] ++ q.drop p, by simp; omega, ?_⟩
    rw [cut_pre, cut_suf]
    unfold hpD
    rw [List.map_append, List.map_append, List.map_take, List.map_drop]
    rfl
end K79
set_option maxHeartbeats 4000000
namespace K79
/-! ### sums -/
def sumN : Nat → (Nat → Int) → Int
  | 0, _ => 0
  | n + 1, f => sumN n f + f n
theorem sumN_succ {n : Nat} {f : Nat → Int} : sumN (n + 1) f = sumN n f + f n := rfl
theorem sumN_congr {n : Nat} {f g : Nat → Int} (h : ∀ i, i < n → f i = g i) : sumN n f = sumN n g := by
  induction n with
  | zero => rfl
  | succ n ih => rw [sumN_succ, sumN_succ, ih fun i hi => h i (by omega), h n (by omega)]
theorem sumN_add {n : Nat} {f g : Nat → Int} : sumN n (fun i => f i + g i) = sumN n f + sumN n g := by
  induction n with
  | zero => rfl
  | succ n ih => simp only [sumN_succ]; rw [ih]; omega
theorem sumN_sub {n : Nat} {f g : Nat → Int} : sumN n (fun i => f i - g i) = sumN n f - sumN n g := by
  induction n with
  | zero => rfl
  | succ n ih => simp only [sumN_succ]; rw [ih]; omega
theorem sumN_mul {n : Nat} {f : Nat → Int} {c : Int} : sumN n (fun i => c * f i) = c * sumN n f := by
  induction n with
  | zero => simp [sumN]
  | succ n ih => simp only [sumN_succ]; rw [ih, Int.mul_add]
theorem sumN_mulR {n : Nat} {f : Nat → Int} {c : Int} : sumN n (fun i => f i * c) = sumN n f * c := by
  induction n with
  | zero => simp [sumN]
  | succ n ih => simp only [sumN_succ]; rw [ih, Int.add_mul]
theorem sumN_zero {n : Nat} : sumN n (fun _ => 0) = 0 := by
  induction n with
  | zero => rfl
  | succ n ih => simp only [sumN_succ]; rw [ih]; rfl
theorem sumN_swap {n m : Nat} {f : Nat → Nat → Int} : sumN n (fun i => sumN m (f i)) = sumN m (fun j => sumN n (fun i => f i j)) := by
  induction n with
  | zero => simp [sumN, sumN_zero]
  | succ n ih => simp only [sumN_succ]; rw [ih, sumN_add]
theorem sumN_nn {n : Nat} {f : Nat → Int} (h : ∀ i, i < n → 0 ≤ f i) : 0 ≤ sumN n f := by
  induction n with
  | zero => exact Int.le_refl _
  | succ n ih => simp only [sumN_succ]; have := ih fun i hi => h i (by omega); have := h n (by omega); omega
theorem sumN_le {n : Nat} {f g : Nat → Int} (h : ∀ i, i < n → f i ≤ g i) : sumN n f ≤ sumN n g := by
  induction n with
  | zero => exact Int.le_refl _
  | succ n ih => simp only [sumN_succ]; have := ih fun i hi => h i (by omega); have := h n (by omega); omega
theorem sumN_one {n a : Nat} {x : Int} (h : a < n) : sumN n (fun i => if a = i then x else 0) = x := by
  induction n with
  | zero => omega
  | succ n ih =>
    simp only [sumN_succ]
    by_cases e : a = n
    · subst e
      rw [sumN_congr (g := fun _ => 0) fun i hi => if_neg (by omega), sumN_zero, if_pos rfl]
      omega
    · rw [ih (by omega), if_neg (by omega)]
      omega
/-- one of the summands is below all -/
theorem sumN_ge {n a : Nat} {f : Nat → Int} (h : ∀ i, i < n → 0 ≤ f i) (ha : a < n) : f a ≤ sumN n f := by
  have h1 : sumN n f = sumN n (fun i => if a = i then f a else 0) + sumN n (fun i => if a = i then 0 else f i) := by
    rw [← sumN_add]
    exact sumN_congr fun i _ => by by_cases e : a = i <;> simp [e]
  have h2 : 0 ≤ sumN n (fun i => if a = i then 0 else f i) := sumN_nn fun i hi => by
    by_cases e : a = i
    · simp [e]
    · simp [e, h i hi]
  rw [h1, sumN_one ha]
  omega
theorem sum_range {n : Nat} {f : Nat → Int} : ((List.range n).map f).sum = sumN n f := by
  induction n with
  | zero => rfl
  | succ n ih => rw [List.range_succ, List.map_append, List.sum_append, ih]; simp [sumN]
theorem sum_list {h : List Int} {n : Nat} (hl : h.length = n) : h.sum = sumN n fun i => h.getD i 0 := by
  have e : h = (List.range n).map fun i => h.getD i 0 := by
    subst hl
    refine List.ext_getElem? fun i => ?_
    rw [List.getElem?_map]
    by_cases hi : i < h.length
    · rw [List.getElem?_range hi, List.getElem?_eq_getElem hi]
      simp [List.getD_eq_getElem?_getD, List.getElem?_eq_getElem hi]
    · rw [List.getElem?_eq_none (by omega), List.getElem?_eq_none (by simp; omega)]
      rfl
  rw [← sum_range, ← e]
theorem list_ext {a b : List Int} {n : Nat} (ha : a.length = n) (hb : b.length = n) (h : ∀ i, i < n → a.getD i 0 = b.getD i 0) : a = b := by
  refine List.ext_getElem? fun i => ?_
  by_cases hi : i < n
  · have := h i hi
    rw [List.getD_eq_getElem?_getD, List.getD_eq_getElem?_getD, List.getElem?_eq_getElem (by omega), List.getElem?_eq_getElem (by omega)] at this
    rw [List.getElem?_eq_getElem (by omega), List.getElem?_eq_getElem (by omega)]
    simpa using this
  · rw [List.getElem?_eq_none (by omega), List.getElem?_eq_none (by omega)]
theorem getD_map {n i : Nat} {f : Nat → Int} (h : i < n) : ((List.range n).map f).getD i 0 = f i := by
  rw [List.getD_eq_getElem?_getD, List.getElem?_map, List.getElem?_range h]
  rfl
/-! ### the table -/
theorem adj_comm (ts : List (Nat × Nat)) (i j : Nat) : adj ts i j = adj ts j i := by
  unfold adj
  congr 1
  funext t
  rw [Bool.or_comm]
theorem tab_comm (ts : List (Nat × Nat)) (i j : Nat) : tab ts i j = tab ts j i := by
  unfold tab
  by_cases h : i = j
  · subst h; rfl
  · rw [if_neg h, if_neg (Ne.symm h), adj_comm]
theorem tab_np {ts : List (Nat × Nat)} {i j : Nat} (h : i ≠ j) : tab ts i j ≤ 0 := by
  unfold tab
  rw [if_neg h]
  omega
theorem tab_cons (a b : Nat) (ts : List (Nat × Nat)) (i j : Nat) : tab ((a, b) :: ts) i j = tab [(a, b)] i j + tab ts i j := by
  unfold tab deg adj
  rw [List.countP_cons, List.countP_cons, List.countP_cons, List.countP_cons]
  by_cases h : i = j
  · rw [if_pos h, if_pos h, if_pos h]
    cases onT i (a, b) <;> simp <;> omega
  · rw [if_neg h, if_neg h, if_neg h]
    cases (decide ((a, b) = (i, j)) || decide ((a, b) = (j, i))) <;> simp <;> omega
theorem tab_one {a b i j : Nat} (h : a ≠ b) : tab [(a, b)] i j = (if a = i then (if a = j then 1 else 0) - (if b = j then 1 else 0) else 0) + (if b = i then (if b = j then 1 else 0) - (if a = j then 1 else 0) else 0) := by
  unfold tab deg adj onT
  simp only [List.countP_cons, List.countP_nil]
  by_cases h1 : a = i <;> by_cases h2 : b = i <;> by_cases h3 : a = j <;> by_cases h4 : b = j <;> simp_all <;> omega
theorem sumN_ite {n : Nat} {c : Prop} [Decidable c] {f : Nat → Int} : sumN n (fun j => if c then f j else 0) = if c then sumN n f else 0 := by
  by_cases h : c
  · simp [h]
  · simp [h, sumN_zero]
theorem tab_sum {n : Nat} : ∀ {ts : List (Nat × Nat)}, (∀ t, t ∈ ts → t.1 < t.2 ∧ t.2 < n) → ∀ i, sumN n (tab ts i) = 0
  | [], _, i => by rw [sumN_congr (g := fun _ => 0) fun j _ => tab_nil i j, sumN_zero]
  | (a, b) :: ts, h, i => by
    obtain ⟨h1, h2⟩ := h (a, b) (by simp)
    have h1 : a < b := h1
    have h2 : b < n := h2
    rw [sumN_congr (g := fun j => tab [(a, b)] i j + tab ts i j) fun j _ => tab_cons a b ts i j, sumN_add, tab_sum (ts := ts) (fun t ht => h t (by simp [ht])) i]
    rw [sumN_congr (g := fun j => (if a = i then (if a = j then 1 else 0) - (if b = j then 1 else 0) else 0) + (if b = i then (if b = j then 1 else 0) - (if a = j then 1 else 0) else 0)) fun j _ => tab_one (by omega)]
    rw [sumN_add, sumN_ite, sumN_ite, sumN_sub, sumN_sub, sumN_one (by omega), sumN_one (by omega)]
    simp
/-! ### gifts -/
theorem dot_sum {r : List Int} {n : Nat} {f : Nat → Int} (hr : r.length = n) : dotL r ((List.range n).map f) = sumN n fun j => r.getD j 0 * f j := by
  unfold dotL
  have e : (r.zip ((List.range n).map f)).map (fun p => p.1 * p.2) = (List.range n).map fun j => r.getD j 0 * f j := by
    refine List.ext_getElem? fun j => ?_
    by_cases hj : j < n
    · rw [List.getElem?_map, List.getElem?_map, List.getElem?_range hj, List.getElem?_eq_getElem (by simp; omega)]
      simp [List.getD_eq_getElem?_getD, List.getElem?_eq_getElem (show j < r.length by omega)]
    · rw [List.getElem?_eq_none (by simp; omega), List.getElem?_eq_none (by simp; omega)]
  rw [e, sum_range]
theorem given_at {W : Wb} {h r : List Int} (hl : h.length = W.n) (hr : r.length = W.n) {i : Nat} (hi : i < W.n) : (given W h r).getD i 0 = h.getD i 0 - sumN W.n fun j => r.getD j 0 * tab W.ts i j := by
  unfold given rowsL
  rw [List.getD_eq_getElem?_getD, List.getElem?_map, List.getElem?_eq_getElem (by simp; omega)]
  simp only [List.getElem_zip, Option.map_some, Option.getD_some, List.getElem_map, List.getElem_range]
  unfold rowT
  rw [dot_sum hr, List.getD_eq_getElem?_getD, List.getElem?_eq_getElem (by omega)]
  rfl
theorem eqv_refl {W : Wb} {h : List Int} (hl : h.length = W.n) : Eqv W h h := by
  refine ⟨List.replicate W.n 0, by simp, list_ext hl (given_len hl) fun i hi => ?_⟩
  rw [given_at hl (by simp) hi, sumN_congr (g := fun _ => 0) fun j hj => by simp [List.getD_eq_getElem?_getD, hj], sumN_zero]
  omega
theorem eqv_step {W : Wb} {h g r : List Int} (hl : h.length = W.n) (hr : r.length = W.n) (e : Eqv W h g) : Eqv W h (given W g r) := by
  obtain ⟨q, hq, rfl⟩ := e
  refine ⟨(List.range W.n).map fun i => q.getD i 0 + r.getD i 0, by simp, list_ext (given_len (given_len hl)) (given_len hl) fun i hi => ?_⟩
  rw [given_at (given_len hl) hr hi, given_at hl hq hi, given_at hl (by simp) hi]
  rw [sumN_congr (f := fun j => ((List.range W.n).map fun i => q.getD i 0 + r.getD i 0).getD j 0 * tab W.ts i j) (g := fun j => q.getD j 0 * tab W.ts i j + r.getD j 0 * tab W.ts i j) fun j hj => by rw [getD_map hj, Int.add_mul], sumN_add]
  omega
theorem eqv_len {W : Wb} {h g : List Int} (hl : h.length = W.n) (e : Eqv W h g) : g.length = W.n := by
  obtain ⟨q, hq, rfl⟩ := e
  exact given_len hl
theorem eqv_sym {W : Wb} {h g : List Int} (hl : h.length = W.n) (e : Eqv W h g) : Eqv W g h := by
  obtain ⟨q, hq, rfl⟩ := e
  refine ⟨q.map fun x => -x, by simp [hq], list_ext hl (given_len (given_len hl)) fun i hi => ?_⟩
  rw [given_at (given_len hl) (by simp [hq]) hi, given_at hl hq hi, sumN_congr (f := fun j => (q.map fun x => -x).getD j 0 * tab W.ts i j) (g := fun j => -1 * (q.getD j 0 * tab W.ts i j)) fun j hj => by
    rw [List.getD_eq_getElem?_getD, List.getElem?_map, List.getD_eq_getElem?_getD, List.getElem?_eq_getElem (by omega)]
    simp [Int.neg_mul], sumN_mul]
  omega
theorem eqv_trans {W : Wb} {h g k : List Int} (hl : h.length = W.n) (e : Eqv W h g) (e2 : Eqv W g k) : Eqv W h k := by
  obtain ⟨q, hq, rfl⟩ := e2
  exact eqv_step hl hq e
theorem row_sum {W : Wb} {A : List Nat} (hA : A.Nodup) (hlt : ∀ i, i ∈ A → i < W.n) (f : Nat → Int) : sumN W.n (fun j => (rowOf W.n A).getD j 0 * f j) = (A.map f).sum := by
  induction A with
  | nil =>
    rw [sumN_congr (g := fun _ => 0) fun j hj => by unfold rowOf; rw [getD_map hj]; simp, sumN_zero]
    rfl
  | cons a A ih =>
    have hA' := List.nodup_cons.mp hA
    rw [List.map_cons, List.sum_cons, ← ih hA'.2 fun i hi => hlt i (by simp [hi])]
    rw [sumN_congr (g := fun j => (if a = j then f a else 0) + (rowOf W.n A).getD j 0 * f j) fun j hj => by
      unfold rowOf
      rw [getD_map hj, getD_map hj]
      by_cases e : a = j
      · subst e
        have : ¬ a ∈ A := hA'.1
        simp [this]
      · have e' : ¬ j = a := fun z => e z.symm
        simp [e, e'], sumN_add, sumN_one (hlt a (by simp))]
end K79
set_option maxHeartbeats 4000000
namespace K79
open PySem L2 Evl Lf
variable {P : Program} {w : World} {K : PySem.W.Frag} {mg : Str → Option Value} {base : Heap} {f : Addr} {fd : FuncData}
theorem cut1 {α : Type} (l : List α) : cut l (some 1) none = l.eraseIdx 0 := by
  have := cut_suf l 1
  rw [show ((1 : Nat) : Int) = 1 from rfl] at this
  rw [this]
  cases l <;> rfl
theorem in_row {W : Wb} {s : Nat} (h0 : 0 < W.n) : cut ((rowT W (sk 0 s)).map PyData.int) (some 1) none = (rowE (W.n - 1) (redE W 0) s).map .int := by
  rw [cut1]
  unfold rowT rowE
  rw [List.map_map, erase_range _ _ _ h0, List.map_map]
  rfl
theorem in_tab {W : Wb} (h0 : 0 < W.n) : cut ((List.range W.n).map fun i => hpD (rowT W i)) (some 1) none = (List.range (W.n - 1)).map fun s => hpD (rowT W (sk 0 s)) := by
  rw [cut1, erase_range _ _ _ h0]
theorem geq_t {S : Stat} {e : Expr} {Γ τ Γ' : List Sl} {k k' : Bool} (h : GT S e Γ τ Γ' k) (q : k = k') : GT S e Γ τ Γ' k' := by subst q; exact h
def pInner (ds : List D) (r : D) : Prop := ∃ W : Wb, W.Ok ∧ 0 < W.n ∧ ds = [W.D] ∧ r = matD (W.n - 1) (redE W 0)
theorem red_bnd {W : Wb} (ok : W.Ok) (p : Nat) : Bnd (2 ^ 20) (W.n - 1) (redE W p) := fun s t _ _ => by
  have := tab_small ok (sk p s) (sk p t)
  unfold redE
  omega
def pManyBy (ds : List D) (r : D) : Prop := ∃ W : Wb, W.Ok ∧ 0 < W.n ∧ W.n ≤ 4 ∧ ds = [W.D] ∧ r = .int (detE (W.n - 1) (redE W 0))
def pManyClasses (ds : List D) (r : D) : Prop := ∃ W : Wb, W.Fit ∧ ds = [W.D] ∧ r = .int (detE (W.n - 1) (redE W 0))
/-! ### row_between, are_alike -/
def difF (a b : List Int) (s : Nat) : Int := (zipP a b (-1)).getD (s + 1) 0
def numF (W : Wb) (a b : List Int) (i : Nat) : Int := detE (W.n - 1) (colE (redE W 0) i (difF a b))
def rowB (W : Wb) (a b : List Int) : List Int := 0 :: (List.range (W.n - 1)).map fun i => (numF W a b i).fdiv (detE (W.n - 1) (redE W 0))
def minL : List Int → Int
  | [] => 0
  | x :: xs => xs.foldl min x
def pRowBetween (ds : List D) (r : D) : Prop := ∃ (W : Wb) (a b : List Int), W.Fit ∧ a.length = W.n ∧ b.length = W.n ∧ Sm (zipP a b (-1)) ∧ a.sum = b.sum ∧ DetOk W 0 ∧ (∀ i, i < W.n - 1 → (numF W a b i).fmod (detE (W.n - 1) (redE W 0)) = 0) ∧ ds = [W.D, hpD a, hpD b] ∧ r = hpD ((rowB W a b).map fun x => x - minL (rowB W a b))
def pAreAlike (ds : List D) (r : D) : Prop := ∃ (W : Wb) (a b : List Int), W.Fit ∧ a.length = W.n ∧ b.length = W.n ∧ Sm (zipP a b (-1)) ∧ a.sum = b.sum ∧ DetOk W 0 ∧ (∀ i, i < W.n - 1 → (numF W a b i).fmod (detE (W.n - 1) (redE W 0)) = 0) ∧ ds = [W.D, hpD a, hpD b] ∧ r = .bool true
end K79
set_option maxHeartbeats 4000000
namespace K79
open PySem L2 Evl Lf
variable {P : Program} {w : World} {K : PySem.W.Frag} {mg : Str → Option Value} {base : Heap} {f : Addr} {fd : FuncData}
/-! ### layers -/
def lastLay (L : List (List Nat)) : List Nat := L.getLastD []
def lateL (W : Wb) (L : List (List Nat)) : List Nat := (List.range W.n).filter fun s => !L.flatten.contains s && ((lastLay L).any fun far => !decide (tab W.ts s far = 0))
def layIt (W : Wb) (p : Nat) : Nat → List (List Nat)
  | 0 => [[p]]
  | k + 1 => layIt W p k ++ [lateL W (layIt W p k)]
structure LayOk (W : Wb) (p : Nat) (L : List (List Nat)) : Prop where
  hd : L[0]? = some [p]
  nd : L.flatten.Nodup
  lt : ∀ i, i ∈ L.flatten → i < W.n
  near : ∀ k l, L[k + 1]? = some l → ∀ s, s ∈ l → ∃ far, far ∈ (L.take (k + 1)).flatten ∧ tab W.ts s far ≠ 0
  far : ∀ k j l, k < j → L[j]? = some l → ∀ s, s ∈ l → ∀ g, g ∈ (L.take k).flatten → tab W.ts s g = 0
  out : ∀ i, i < W.n → i ∉ L.flatten → ∀ g, g ∈ (L.take (L.length - 1)).flatten → tab W.ts i g = 0
theorem layIt_len (W : Wb) (p : Nat) : ∀ k, (layIt W p k).length = k + 1
  | 0 => rfl
  | k + 1 => by unfold layIt; rw [List.length_append, layIt_len W p k]; rfl
theorem lay_last {L : List (List Nat)} {l : List Nat} (h : L[L.length - 1]? = some l) : lastLay L = l := by
  unfold lastLay
  rw [List.getLastD_eq_getLast?, List.getLast?_eq_getElem?, h]
  rfl
theorem lay_ok {W : Wb} {p : Nat} (hp : p < W.n) : ∀ k, LayOk W p (layIt W p k)
  | 0 => by
    refine ⟨rfl, by simp [layIt], by simp [layIt]; exact hp, fun k l h => by simp [layIt] at h, fun k j l hk h => ?_, fun i _ _ g hg => by simp [layIt] at hg⟩
    cases j with
    | zero => omega
    | succ j => simp [layIt] at h
  | k + 1 => by
    have ih := lay_ok hp k
    have hlen := layIt_len W p k
    have hmem : ∀ s, s ∈ lateL W (layIt W p k) → s < W.n ∧ s ∉ (layIt W p k).flatten ∧ ∃ far, far ∈ lastLay (layIt W p k) ∧ tab W.ts s far ≠ 0 := fun s hs => by
      obtain ⟨h1, h2⟩ := List.mem_filter.mp hs
      simp only [Bool.and_eq_true, List.any_eq_true] at h2
      obtain ⟨h3, far, h4, h5⟩ := h2
      exact ⟨by simpa using h1, by simpa using h3, far, h4, by simpa using h5⟩
    obtain ⟨la, hla⟩ : ∃ la, (layIt W p k)[(layIt W p k).length - 1]? = some la := ⟨_, List.getElem?_eq_getElem (by omega)⟩
    have hlast := lay_last hla
    have hsplit : (layIt W p k).flatten = ((layIt W p k).take ((layIt W p k).length - 1)).flatten ++ la := by
      conv => lhs; rw [← List.take_append_drop ((layIt W p k).length - 1) (layIt W p k)]
      rw [List.flatten_append]
      congr 1
      rw [List.drop_eq_getElem_cons (by omega)]
      obtain ⟨h1, h2⟩ := List.getElem?_eq_some_iff.mp hla
      rw [h2, show (layIt W p k).length - 1 + 1 = (layIt W p k).length by omega, List.drop_length]
      simp
    unfold layIt
    refine ⟨by rw [List.getElem?_append_left (by omega)]; exact ih.hd, ?_, ?_, ?_, ?_, ?_⟩
    · rw [List.flatten_append, List.nodup_append]
      refine ⟨ih.nd, by simp; exact List.nodup_range.sublist List.filter_sublist, fun a ha b hb e => ?_⟩
      subst e
      simp at hb
      exact (hmem a hb).2.1 ha
    · intro i hi
      rw [List.flatten_append, List.mem_append] at hi
      rcases hi with z | z
      · exact ih.lt i z
      · simp at z; exact (hmem i z).1
    · intro j l hj s hs
      by_cases hjl : j + 1 < (layIt W p k).length
      · rw [List.getElem?_append_left hjl] at hj
        rw [List.take_append_of_le_length (by omega)]
        exact ih.near j l hj s hs
      · have : j + 1 = (layIt W p k).length := by
          have := (List.getElem?_eq_some_iff.mp hj).1
          simp at this
          omega
        rw [List.getElem?_append_right (by omega), this, Nat.sub_self] at hj
        simp at hj
        subst hj
        rw [this, List.take_left']
        · obtain ⟨_, _, far, h1, h2⟩ := hmem s hs
          rw [hlast] at h1
          exact ⟨far, by rw [hsplit]; simp [h1], h2⟩
        · rfl
    · intro a j l ha hj s hs g hg
      by_cases hjl : j < (layIt W p k).length
      · rw [List.getElem?_append_left hjl] at hj
        rw [List.take_append_of_le_length (by omega)] at hg
        exact ih.far a j l ha hj s hs g hg
      · have : j = (layIt W p k).length := by
          have := (List.getElem?_eq_some_iff.mp hj).1
          simp at this
          omega
        rw [List.getElem?_append_right (by omega), this, Nat.sub_self] at hj
        simp at hj
        subst hj
        obtain ⟨h1, h2, _⟩ := hmem s hs
        refine ih.out s h1 h2 g ?_
        rw [List.take_append_of_le_length (by omega)] at hg
        obtain ⟨l, hl, hgl⟩ := List.mem_flatten.mp hg
        refine List.mem_flatten.mpr ⟨l, ?_, hgl⟩
        have h3 : (layIt W p k).take a = ((layIt W p k).take ((layIt W p k).length - 1)).take a := by rw [List.take_take, Nat.min_eq_left (by omega)]
        rw [h3] at hl
        exact List.mem_of_mem_take hl
    · intro i hi hn g hg
      rw [List.flatten_append, List.mem_append, not_or] at hn
      simp at hn
      rw [List.length_append, show (layIt W p k).length + [lateL W (layIt W p k)].length - 1 = (layIt W p k).length by simp, List.take_left' rfl, hsplit, List.mem_append] at hg
      have hni : i ∉ (layIt W p k).flatten := by
        intro z
        obtain ⟨l, h1, h2⟩ := List.mem_flatten.mp z
        exact hn.1 l h1 h2
      rcases hg with z | z
      · exact ih.out i hi hni g z
      · refine Classical.byContradiction fun hc => hn.2 ?_
        refine List.mem_filter.mpr ⟨by simpa using hi, ?_⟩
        simp only [Bool.and_eq_true, List.any_eq_true]
        exact ⟨by simpa using hni, g, by rw [hlast]; exact z, by simpa using hc⟩
theorem lay_cov {W : Wb} {p : Nat} {L : List (List Nat)} (o : LayOk W p L) (h : W.n ≤ L.flatten.length) : ∀ i, i < W.n → i ∈ L.flatten := fun i hi => by
  refine Classical.byContradiction fun hc => ?_
  have := nodup_le W.n (i :: L.flatten) (List.nodup_cons.mpr ⟨hc, o.nd⟩) fun j hj => by
    rcases List.mem_cons.mp hj with z | z
    · omega
    · exact o.lt j z
  simp only [List.length_cons] at this
  omega
theorem lay_succ {W : Wb} {p k : Nat} : layIt W p (k + 1) = layIt W p k ++ [lateL W (layIt W p k)] := rfl
theorem natsD_len {A : List Nat} : (natsD A).length = A.length := by unfold natsD; rw [List.length_map]
theorem mem_flat_len {l : List Nat} : ∀ {L : List (List Nat)}, l ∈ L → l.length ≤ L.flatten.length
  | a :: L, h => by
    rw [List.flatten_cons, List.length_append]
    rcases List.mem_cons.mp h with z | z
    · subst z; omega
    · have := mem_flat_len z; omega
theorem tie_tab {W : Wb} (ok : W.Ok) {t : Nat × Nat} (ht : t ∈ W.ts) : tab W.ts t.1 t.2 ≠ 0 ∧ tab W.ts t.2 t.1 ≠ 0 := by
  have h1 := (ok.lt t ht).1
  have h2 : 0 < adj W.ts t.1 t.2 := List.countP_pos_iff.mpr ⟨t, ht, by simp⟩
  have h3 : tab W.ts t.1 t.2 ≠ 0 := by
    unfold tab
    rw [if_neg (by omega)]
    omega
  exact ⟨h3, by rw [tab_comm]; exact h3⟩
theorem late_ne {W : Wb} (g : W.Good) {p : Nat} (hp : p < W.n) {k : Nat} (h : (layIt W p k).flatten.length < W.n) : lateL W (layIt W p k) ≠ [] := fun hz => by
  have o := lay_ok hp k
  have o1 := lay_ok hp (k + 1)
  have hout : ∀ i, i < W.n → i ∉ (layIt W p k).flatten → ∀ f, f ∈ (layIt W p k).flatten → tab W.ts i f = 0 := fun i hi hn f hf => by
    refine o1.out i hi ?_ f ?_
    · unfold layIt
      rw [hz]
      simpa using hn
    · unfold layIt
      rw [hz, List.length_append, show (layIt W p k).length + [([] : List Nat)].length - 1 = (layIt W p k).length by simp, List.take_left' rfl]
      exact hf
  have hpm : p ∈ (layIt W p k).flatten := List.mem_flatten.mpr ⟨[p], List.mem_of_getElem? o.hd, by simp⟩
  have key := g.con (fun i => i ∈ (layIt W p k).flatten ↔ 0 ∈ (layIt W p k).flatten) Iff.rfl fun t ht => by
    obtain ⟨h1, h2⟩ := g.ok.lt t ht
    obtain ⟨h3, h4⟩ := tie_tab g.ok ht
    have : t.1 ∈ (layIt W p k).flatten ↔ t.2 ∈ (layIt W p k).flatten := by
      constructor
      · intro z
        exact Classical.byContradiction fun hc => h4 (hout _ h2 hc _ z)
      · intro z
        exact Classical.byContradiction fun hc => h3 (hout _ (by omega) hc _ z)
    show (_ ↔ _) ↔ (_ ↔ _)
    rw [this]
  have h0 : 0 ∈ (layIt W p k).flatten := (key p hp).mp hpm
  have all : ∀ i, i < W.n → i ∈ (layIt W p k).flatten := fun i hi => (key i hi).mpr h0
  have := nodup_sub W.n (layIt W p k).flatten all
  omega
where
  nodup_sub : ∀ (n : Nat) (l : List Nat), (∀ i, i < n → i ∈ l) → n ≤ l.length
    | 0, _, _ => Nat.zero_le _
    | n + 1, l, h => by
      have hn := h n (by omega)
      have := nodup_sub n (l.erase n) fun i hi => (List.mem_erase_of_ne (by omega)).mpr (h i (by omega))
      rw [List.length_erase_of_mem hn] at this
      have : 0 < l.length := List.length_pos_of_mem hn
      omega
theorem lay_grow {W : Wb} (g : W.Good) {p : Nat} (hp : p < W.n) : ∀ k, W.n ≤ (layIt W p k).flatten.length ∨ k + 1 ≤ (layIt W p k).flatten.length := by
    intro k
    induction k with
    | zero => right; simp [layIt]
    | succ k ih =>
      by_cases hc : (layIt W p k).flatten.length < W.n
      · have h1 := late_ne g hp hc
        have h2 : 0 < (lateL W (layIt W p k)).length := by
          cases e : lateL W (layIt W p k) with
          | nil => exact absurd e h1
          | cons _ _ => simp
        right
        unfold layIt
        rw [List.flatten_append, List.length_append]
        simp only [List.flatten_cons, List.flatten_nil, List.append_nil]
        omega
      · left
        unfold layIt
        rw [List.flatten_append, List.length_append]
        omega
theorem lay_end {W : Wb} (g : W.Good) {p : Nat} (hp : p < W.n) : ∃ m, W.n ≤ (layIt W p m).flatten.length ∧ ∀ j, j < m → (layIt W p j).flatten.length < W.n := by
  have grow := lay_grow g hp
  have h : W.n ≤ (layIt W p W.n).flatten.length := by
    rcases grow W.n with h | h <;> omega
  obtain ⟨e, _, h2, h3⟩ := least (P := fun k => W.n ≤ (layIt W p k).flatten.length) W.n h
  exact ⟨e, h2, fun j hj => by have := h3 j hj; omega⟩
def pLayers (ds : List D) (r : D) : Prop := ∃ (W : Wb) (p m : Nat), W.Good ∧ p < W.n ∧ W.n ≤ (layIt W p m).flatten.length ∧ (∀ j, j < m → (layIt W p j).flatten.length < W.n) ∧ ds = [W.D, .int p] ∧ r = .list ((layIt W p m).map lstD)
theorem sc_layers : FnScope ["web", "place", "rows", "found", "near", "late", "spot", "far"] ["web", "place"] (defScope (top 33)) := ⟨rfl, rfl, rfl, by decide +kernel, rfl, by decide +kernel, by decide +kernel⟩
theorem flat_le {W : Wb} {p : Nat} {L : List (List Nat)} (o : LayOk W p L) : L.flatten.length ≤ W.n := nodup_le _ _ o.nd o.lt
theorem lay_at {W : Wb} {p k : Nat} : atI ((layIt W p k).map lstD) (-1) = some (lstD (lastLay (layIt W p k))) := by
  cases k with
  | zero => exact at_last (xs := [])
  | succ k =>
    have : lastLay (layIt W p (k + 1)) = lateL W (layIt W p k) := by rw [lay_succ]; unfold lastLay; simp
    rw [this, lay_succ, List.map_append]
    exact at_last
theorem ok_layers (T : Txt mg) (F : Fun K "layers" "layers" (top 33) f fd) (F1 : FnG P w K mg base "table_by" 1 pTableBy) : FnOk P w K mg base CX0 2 f fd ["web", "place"] (pureSp pLayers) := by
  refine fn_pure F sc_layers (fun ds r h => by obtain ⟨_, _, _, _, _, _, _, rfl, _⟩ := h; rfl) fun ds r h => ?_
  obtain ⟨W, p, m, g, hp, hm, hno, rfl, rfl⟩ := h
  have n6 := g.ok.n6
  refine seq (gs_par2 (i := 2) (j := 3) rfl rfl (by decide) (.inr ⟨rfl, rfl⟩) (.inr ⟨rfl, rfl⟩) (ga_cons (c1 F1 (v 0 rfl) ⟨W, g.ok, rfl, rfl⟩ (Nat.le_of_ble_eq_true rfl) rfl rfl (fun _ => rfl)) (ga_cons (l1 (ge_frz (l1 (v 1 rfl) (fun _ => rfl))) (fun _ => rfl)) ga_nil (fun _ => rfl)) (fun _ => rfl)) rfl rfl (Nat.le_of_ble_eq_true rfl) (Nat.le_of_ble_eq_true rfl) rfl (.inr (sw_at rfl))) ?_
  refine seq (asgC 4 (l1 (v 1 rfl) (fun _ => rfl)) rfl rfl rfl rfl rfl (Nat.le_of_ble_eq_true rfl)) ?_
  refine gss_cons (Mid := fun Γ => ∃ sl, Γ = [.sh W.D, .sh (.int p), .sh (tableD W), .ol ((layIt W p m).map lstD), .ol (natsD (layIt W p m).flatten), sl, .no, .no])
    (gs_while (I := fun q Γ => ∃ k sl, k + q = m ∧ Γ = [.sh W.D, .sh (.int p), .sh (tableD W), .ol ((layIt W p k).map lstD), .ol (natsD (layIt W p k).flatten), sl, .no, .no]) ⟨m, 0, .no, by omega, rfl⟩ ?_) ?_
  · rintro q Γ ⟨k, sl, hk, rfl⟩
    have o := lay_ok hp k
    have hlen := layIt_len W p k
    have hfl := flat_le o
    refine ⟨decide ((layIt W p k).flatten.length < W.n), _, geq_t (gt_cmp (ge_len rfl T.len (boc 4 rfl) (.l (.bo rfl)) (fun _ => rfl)) (ge_ixT (v 0 rfl) ge_int .sh (d := .int W.n) rfl (pix (fun _ _ => rfl))) og_lt rfl) (by rw [Bool.eq_iff_iff, natsD_len, decide_eq_true_eq, decide_eq_true_eq]; omega), fun hc => ?_, fun hc => ?_⟩
    · have hc' : (layIt W p k).flatten.length < W.n := of_decide_eq_true hc
      have hkm : k < m := by
        rcases Nat.lt_or_ge k m with z | z
        · exact z
        · have : k = m := by omega
          subst this
          omega
      have hlst : ∀ x, x ∈ lastLay (layIt W p k) → x < W.n := fun x hx => by
        obtain ⟨la, hla⟩ : ∃ la, (layIt W p k)[(layIt W p k).length - 1]? = some la := ⟨_, List.getElem?_eq_getElem (by omega)⟩
        rw [lay_last hla] at hx
        exact o.lt x (List.mem_flatten.mpr ⟨la, List.mem_of_getElem? hla, hx⟩)
      have hlastlen : (lastLay (layIt W p k)).length < 100000 := by
        obtain ⟨la, hla⟩ : ∃ la, (layIt W p k)[(layIt W p k).length - 1]? = some la := ⟨_, List.getElem?_eq_getElem (by omega)⟩
        rw [lay_last hla]
        have h1 := mem_flat_len (List.mem_of_getElem? hla)
        omega
      refine seq (asgL (xs := List.range W.n) (rep := fun i => .int (i : Nat)) (kf := fun s => !(layIt W p k).flatten.contains s && ((lastLay (layIt W p k)).any fun far => !decide (tab W.ts s far = 0))) (g := fun i => .int (i : Nat)) (own := [("spot", 6)]) (p := .nm 6) 5
        (lok (IG.of (rg1_eq W.n) (ig_rg1 rfl T.range (ge_ixT (v 0 rfl) ge_int .sh (d := .int W.n) rfl (pix (fun _ _ => rfl))) (by omega) (fun _ => rfl))) (pg_nm rfl (.inr ⟨rfl, rfl⟩)) rfl rfl rfl (fun _ _ => rfl))
        (fun s hs => ⟨_, rfl, gts_one (gt_bool (gw_and ?_ fun _ => gw_and1 (gt_val (ge_any (L := lastLay (layIt W p k)) (g := fun far => .bool (!decide (tab W.ts s far = 0))) (k := fun far => !decide (tab W.ts s far = 0)) rfl T.any
          (lcA (xs := lastLay (layIt W p k)) (rep := fun i => .int (i : Nat)) (g := fun far => .bool (!decide (tab W.ts s far = 0))) (own := [("far", 7)]) (p := .nm 7)
            (lok (ig_list (ge_ixL (boc 3 rfl) (ge_neg ge_int) (.bo rfl) lay_at (pix (fun _ _ => rfl)))) (pg_nm rfl (.inl rfl)) rfl rfl rfl (fun _ _ => rfl))
            (fun x hx => ⟨_, rfl, ge_cmp (ge_ixT (ge_ixT (vc 2 rfl) (vc 6 rfl) .sh (row_get (List.mem_range.mp hs) (hlst x hx)).1 (pix (fun _ _ => rfl))) (v 7 rfl) .sh (row_get (List.mem_range.mp hs) (hlst x hx)).2 (pix (fun _ _ => rfl))) ge_int og_neI rfl⟩) hlastlen (ni_of rfl)) .ol (fun _ => rfl) (fun _ => rfl)) (fun _ _ => rfl)))), fun _ => vc 6 rfl⟩) (rl n6) rfl rfl rfl (Nat.le_of_ble_eq_true rfl) rfl rfl) ?_
      · rw [← any_nat]
        exact gt_cmp (vc 6 rfl) (boc 4 rfl) (og_notIn (.l (.bo rfl)) (pl_all (k := 0) pl_nats) rfl (by simp [PyData.depth])) rfl
      · refine seq (gs_app (ds0 := (layIt W p k).map lstD) (boc 3 rfl) rfl (ge_frzB (bo 5 rfl) rfl .ol (by simp)) rfl ?_ rfl (fun _ _ => rfl) rfl (fun _ => rfl)) ?_
        · have := lay_grow g hp k
          rw [List.length_map, hlen]
          omega
        · refine seq (asgC 4 (ge_bin (boc 4 rfl) (v 5 rfl) (og_catL (.bo rfl) .sh ?_)) rfl rfl rfl rfl rfl (Nat.le_of_ble_eq_true rfl)) (gss_nil ⟨q - 1, by omega, k + 1, .sh (lstD (lateL W (layIt W p k))), by omega, ?_⟩)
          · have h2 : (lateL W (layIt W p k)).length ≤ W.n := Nat.le_trans (List.length_filter_le _ _) (by simp)
            show (natsD (layIt W p k).flatten).length + (natsD (lateL W (layIt W p k))).length ≤ 100000
            rw [natsD_len, natsD_len]
            omega
          · have e1 : (layIt W p (k + 1)).map lstD = (layIt W p k).map lstD ++ [lstD (lateL W (layIt W p k))] := by rw [lay_succ, List.map_append]; rfl
            have e2 : natsD (layIt W p (k + 1)).flatten = natsD (layIt W p k).flatten ++ natsD (lateL W (layIt W p k)) := by rw [lay_succ]; unfold natsD; rw [List.flatten_append, List.map_append]; simp
            rw [e1, e2]
            rfl
    · have hc' : ¬ (layIt W p k).flatten.length < W.n := of_decide_eq_false hc
      have : k = m := by
        rcases Nat.lt_or_ge k m with z | z
        · exact absurd (hno k z) hc'
        · omega
      subst this
      exact ⟨sl, rfl⟩
  · rintro Γ ⟨sl, rfl⟩
    exact ret (boc 3 rfl) (.bo rfl .ol)
end K79
set_option maxHeartbeats 4000000
namespace K79
open PySem L2 Evl Lf
variable {P : Program} {w : World} {K : PySem.W.Frag} {mg : Str → Option Value} {base : Heap} {f : Addr} {fd : FuncData}
/-! ### paid_with -/
theorem sum_np {A : List Nat} {f : Nat → Int} (h : ∀ a, a ∈ A → f a ≤ 0) : (A.map f).sum ≤ 0 := by
  induction A with
  | nil => simp
  | cons a A ih =>
    rw [List.map_cons, List.sum_cons]
    have := h a (by simp)
    have := ih fun b hb => h b (by simp [hb])
    omega
theorem sum_neg {A : List Nat} {f : Nat → Int} (h : ∀ a, a ∈ A → f a ≤ 0) {b : Nat} (hb : b ∈ A) (hn : f b ≠ 0) : (A.map f).sum ≤ -1 := by
  induction A with
  | nil => cases hb
  | cons a A ih =>
    rw [List.map_cons, List.sum_cons]
    have h1 := h a (by simp)
    rcases List.mem_cons.mp hb with z | z
    · subst z
      have := sum_np (f := f) fun c hc => h c (List.mem_cons_of_mem _ hc)
      omega
    · have := ih (fun c hc => h c (by simp [hc])) z
      omega
theorem sum_zero {A : List Nat} {f : Nat → Int} (h : ∀ a, a ∈ A → f a = 0) : (A.map f).sum = 0 := by
  induction A with
  | nil => rfl
  | cons a A ih => rw [List.map_cons, List.sum_cons, h a (by simp), ih fun b hb => h b (by simp [hb])]; rfl
theorem rowOf_len {n : Nat} {A : List Nat} : (rowOf n A).length = n := by unfold rowOf; simp
theorem fire_at {W : Wb} {h : List Int} {A : List Nat} (hl : h.length = W.n) (hA : A.Nodup) (hlt : ∀ i, i ∈ A → i < W.n) {i : Nat} (hi : i < W.n) : (given W h (rowOf W.n A)).getD i 0 = h.getD i 0 - (A.map (tab W.ts i)).sum := by
  rw [given_at hl rowOf_len hi, row_sum hA hlt]
/-- the debts of the layer -/
def debt (h : List Int) (l : List Nat) : Nat := (l.map fun s => (-(h.getD s 0)).toNat).sum
theorem debt_lt {h g : List Int} : ∀ {l : List Nat}, (∀ s, s ∈ l → h.getD s 0 + 1 ≤ g.getD s 0) → (∃ s, s ∈ l ∧ h.getD s 0 < 0) → debt g l < debt h l
  | [], _, ⟨s, hs, _⟩ => by cases hs
  | a :: l, h1, ⟨s, hs, hn⟩ => by
    unfold debt
    rw [List.map_cons, List.sum_cons, List.map_cons, List.sum_cons]
    have ha := h1 a (by simp)
    have le : debt g l ≤ debt h l := debt_le fun s hs => h1 s (by simp [hs])
    rcases List.mem_cons.mp hs with z | z
    · subst z
      unfold debt at le
      omega
    · have := debt_lt (l := l) (fun s hs => h1 s (by simp [hs])) ⟨s, z, hn⟩
      unfold debt at this
      omega
where
  debt_le {h g : List Int} : ∀ {l : List Nat}, (∀ s, s ∈ l → h.getD s 0 + 1 ≤ g.getD s 0) → debt g l ≤ debt h l
    | [], _ => Nat.le_refl _
    | a :: l, h1 => by
      unfold debt
      rw [List.map_cons, List.sum_cons, List.map_cons, List.sum_cons]
      have ha := h1 a (by simp)
      have := debt_le (l := l) fun s hs => h1 s (by simp [hs])
      unfold debt at this
      omega
theorem take_nodup {L : List (List Nat)} (h : L.flatten.Nodup) (a : Nat) : (L.take a).flatten.Nodup := by
  have : L.flatten = (L.take a).flatten ++ (L.drop a).flatten := by rw [← List.flatten_append, List.take_append_drop]
  rw [this] at h
  exact (List.nodup_append.mp h).1
theorem take_mem {L : List (List Nat)} {a i : Nat} (h : i ∈ (L.take a).flatten) : i ∈ L.flatten := by
  obtain ⟨l, h1, h2⟩ := List.mem_flatten.mp h
  exact List.mem_flatten.mpr ⟨l, List.mem_of_mem_take h1, h2⟩
theorem not_take {L : List (List Nat)} (h : L.flatten.Nodup) {a : Nat} {l : List Nat} (hl : L[a]? = some l) {s : Nat} (hs : s ∈ l) : s ∉ (L.take a).flatten := fun hc => by
  have e : L.flatten = (L.take a).flatten ++ (L.drop a).flatten := by rw [← List.flatten_append, List.take_append_drop]
  rw [e] at h
  have hd : s ∈ (L.drop a).flatten := List.mem_flatten.mpr ⟨l, by
    obtain ⟨h1, h2⟩ := List.getElem?_eq_some_iff.mp hl
    rw [List.drop_eq_getElem_cons h1, h2]
    simp, hs⟩
  exact (List.nodup_append.mp h).2.2 s hc s hd rfl
def NN (L : List (List Nat)) (k : Nat) (h : List Int) : Prop := ∀ j l, k ≤ j → L[j]? = some l → ∀ s, s ∈ l → 0 ≤ h.getD s 0
theorem pay_step {W : Wb} {p : Nat} {L : List (List Nat)} (o : LayOk W p L) {h : List Int} (hl : h.length = W.n) {a : Nat} {l : List Nat} (hla : L[a + 1]? = some l) :
    (∀ s, s ∈ l → h.getD s 0 + 1 ≤ (given W h (rowOf W.n (L.take (a + 1)).flatten)).getD s 0) ∧ (NN L (a + 2) h → NN L (a + 2) (given W h (rowOf W.n (L.take (a + 1)).flatten))) := by
  have hnd := take_nodup o.nd (a + 1)
  have hlt : ∀ i, i ∈ (L.take (a + 1)).flatten → i < W.n := fun i hi => o.lt i (take_mem hi)
  have hin : ∀ {j l}, L[j]? = some l → ∀ s, s ∈ l → s < W.n := fun hj s hs => o.lt s (List.mem_flatten.mpr ⟨_, List.mem_of_getElem? hj, hs⟩)
  constructor
  · intro s hs
    rw [fire_at hl hnd hlt (hin hla s hs)]
    obtain ⟨far, hf, hne⟩ := o.near a l hla s hs
    have := sum_neg (f := tab W.ts s) (fun b hb => tab_np fun z => not_take o.nd hla hs (z ▸ hb)) hf hne
    omega
  · intro nn j lj hj hlj s hs
    rw [fire_at hl hnd hlt (hin hlj s hs), sum_zero (o.far (a + 1) j lj (by omega) hlj s hs)]
    have := nn j lj hj hlj s hs
    omega
def prePaid (ds : List D) : Prop := ∃ (W : Wb) (h : List Int) (p : Nat), W.Fit ∧ h.length = W.n ∧ p < W.n ∧ ds = [W.D, hpD h, .int p]
def PaidOk (W : Wb) (p : Nat) (h g q : List Int) : Prop := g.length = W.n ∧ q.length = W.n ∧ Eqv W h g ∧ ∀ i, i < W.n → i ≠ p → 0 ≤ g.getD i 0
def postPaid (ds : List D) (r : D) : Prop := ∃ (W : Wb) (h : List Int) (p : Nat) (g q : List Int), ds = [W.D, hpD h, .int p] ∧ PaidOk W p h g q ∧ r = .tuple [hpD g, hpD q]
theorem sc_paid : FnScope ["web", "heap", "place", "lots", "here", "row", "at", "nearer", "lot", "spot"] ["web", "heap", "place"] (defScope (top 34)) := ⟨rfl, rfl, rfl, by decide +kernel, rfl, by decide +kernel, by decide +kernel⟩
theorem rng3_0 (m : Nat) (hm : 1 ≤ m) : rgD ((m : Int) - 1) (-1) (Int.toNat (((m : Int) - 1) - 0)) = (List.range (m - 1)).map fun i => .int ((m - 1 - i : Nat) : Int) := by
  unfold rgD
  rw [show Int.toNat (((m : Int) - 1) - 0) = m - 1 by omega]
  refine List.map_congr_left fun i hi => ?_
  have := List.mem_range.mp hi
  congr 1
  omega
theorem ok_paid (T : Txt mg) (F : Fun K "paid_with" "paid_with" (top 34) f fd) (F1 : FnG P w K mg base "layers" 2 pLayers) (F2 : FnG P w K mg base "row_of_places" 1 pRowOf) (F3 : FnG P w K mg base "given_by_row" 2 pGiven) (F4 : FnG P w K mg base "plus_by" 1 pPlusBy) : FnOk P w K mg base CX0 3 f fd ["web", "heap", "place"] (relSp prePaid postPaid) := by
  refine fn_rel F sc_paid (fun ds h => by obtain ⟨_, _, _, _, _, _, rfl⟩ := h; rfl) fun ds h => ?_
  obtain ⟨W, h, p, fit, hl, hp, rfl⟩ := h
  have n6 := fit.ok.n6
  have n2 := fit.n2
  obtain ⟨m, hm, hno⟩ := lay_end fit.toGood hp
  have o := lay_ok hp m
  have hlen := layIt_len W p m
  have hcov := lay_cov o hm
  generalize hL : layIt W p m = L at o hlen hcov
  have hfl := flat_le o
  have hm100 : m + 1 ≤ 100 := by
    cases m with
    | zero => omega
    | succ k =>
      have h1 := lay_grow fit.toGood hp k
      have h2 := hno k (by omega)
      omega
  refine seq (gs_par3 (i := 3) (j := 4) (l := 5) rfl rfl rfl (by decide) (by decide) (by decide) (.inl rfl) (.inr ⟨rfl, rfl⟩) (.inl rfl)
    (ga_cons (c2 F1 (v 0 rfl) (v 2 rfl) ⟨W, p, m, fit.toGood, hp, hm, hno, rfl, rfl⟩ (Nat.le_of_ble_eq_true rfl) rfl rfl (fun _ => rfl) (fun _ => rfl) (fun _ => rfl)) (ga_cons (v 1 rfl) (ga_cons (ge_bin (t1 ge_int (fun _ => rfl)) (ge_ixT (v 0 rfl) ge_int .sh (d := .int W.n) rfl (pix (fun _ _ => rfl))) (og_mulT (by omega) (by omega))) ga_nil (fun _ => rfl)) (fun _ => rfl)) (fun _ => rfl)) rfl rfl rfl (Nat.le_of_ble_eq_true rfl) (Nat.le_of_ble_eq_true rfl) (Nat.le_of_ble_eq_true rfl) rfl (.inr (sw_at rfl))) ?_
  rw [hL]
  refine gss_cons (Mid := fun Γ => ∃ g q s6 s7, PaidOk W p h g q ∧ Γ = [.sh W.D, .sh (hpD h), .sh (.int p), .sh (.list (L.map lstD)), .sh (hpD g), .sh (hpD q), s6, s7, .no, .no])
    (gs_for (L := (List.range (m + 1 - 1)).map fun i => .int ((m + 1 - 1 - i : Nat) : Int)) (p := .nm 6) (I := fun i Γ => ∃ g q s6 s7, (g.length = W.n ∧ q.length = W.n ∧ Eqv W h g ∧ NN L (m + 1 - i) g) ∧ Γ = [.sh W.D, .sh (hpD h), .sh (.int p), .sh (.list (L.map lstD)), .sh (hpD g), .sh (hpD q), s6, s7, .no, .no])
      (IG.of (rng3_0 (m + 1) (by omega)) (ig_rg3 rfl T.range (ge_bin (geq (ge_len rfl T.len (v 3 rfl) (.l .sh) (fun _ => rfl)) (d' := .int ((m + 1 : Nat) : Int)) (by rw [List.length_map, hlen])) ge_int og_sub) ge_int (ge_neg ge_int) (by omega) (fun _ => rfl) (fun _ => rfl) (fun _ => rfl))) (pg_nm rfl (.inl rfl)) ⟨h, List.replicate W.n 0, .no, .no, ⟨hl, by simp, eqv_refl hl, fun j l hj hlj => ?_⟩, ?_⟩ ?_ ?_ (fun _ _ => rfl)) ?_
  · have := (List.getElem?_eq_some_iff.mp hlj).1
    omega
  · unfold hpD
    rw [List.map_replicate]
    rfl
  · rintro i Γ d ⟨g, q, s6, s7, ⟨lg, lq, eg, nn⟩, rfl⟩ hd
    rw [List.getElem?_map] at hd
    by_cases hi : i < m + 1 - 1
    · rw [List.getElem?_range hi] at hd
      cases hd
      obtain ⟨a, ha⟩ : ∃ a, m + 1 - 1 - i = a + 1 := ⟨m - 1 - i, by omega⟩
      show ∃ Γ', bindP (.nm 6) (.int ((m + 1 - 1 - i : Nat) : Int)) _ = some Γ' ∧ _
      rw [ha]
      have ha2 : m + 1 - i = a + 2 := by omega
      rw [ha2] at nn
      obtain ⟨l, hla⟩ : ∃ l, L[a + 1]? = some l := ⟨_, List.getElem?_eq_getElem (by omega)⟩
      have hAlt : ∀ i, i ∈ (L.take (a + 1)).flatten → i < W.n := fun i hi => o.lt i (take_mem hi)
      have hAlen : (L.take (a + 1)).flatten.length ≤ W.n := nodup_le _ _ (take_nodup o.nd _) hAlt
      have hll : l.length ≤ W.n := Nat.le_trans (mem_flat_len (List.mem_of_getElem? hla)) hfl
      have hls : ∀ s, s ∈ l → s < W.n := fun s hs => o.lt s (List.mem_flatten.mpr ⟨l, List.mem_of_getElem? hla, hs⟩)
      refine ⟨_, rfl, ?_⟩
      refine seq (asg 7 (c2 F2 (v 0 rfl) (geq (d' := lstD (L.take (a + 1)).flatten) (ge_frz (lc2 (xs := L.take (a + 1)) (ys := fun l => l) (rep := lstD) (rep1 := fun i => .int (i : Nat)) (gg := fun _ i => .int (i : Nat)) (own := [("lot", 8), ("spot", 9)]) (p := .nm 8) (q := .nm 9) (vs1 := [9])
        (lok (IG.of (by rw [cut_pre, List.map_take]) (ig_list (ge_frz (ge_slL (v 3 rfl) go_none (go_some (v 6 rfl)) .sh)))) (pg_nm rfl (.inl rfl)) rfl rfl rfl (fun _ _ => rfl)) ⟨pg_nm rfl (.inl rfl), by decide, by decide, (fun _ _ => rfl)⟩
        (fun x hx => ⟨_, rfl, _, ig_list (v 8 rfl), rfl, fun z hz => ⟨_, rfl, v 9 rfl⟩⟩) (by rw [acc2_flat, natsD_len]; omega) (ni_of rfl))) (by rw [acc2_flat]; rfl)) ⟨W, _, by omega, by omega, rfl, rfl⟩ (Nat.le_of_ble_eq_true rfl) rfl rfl (fun _ => rfl) (fun _ => rfl) (fun _ => rfl)) rfl rfl rfl (.inl rfl) (Nat.le_of_ble_eq_true rfl) (fun _ => rfl)) ?_
      have hro : (rowOf W.n (L.take (a + 1)).flatten).length = W.n := rowOf_len
      generalize hR : rowOf W.n (L.take (a + 1)).flatten = R at hro
      refine gss_cons (Mid := fun Γ => ∃ g q, (g.length = W.n ∧ q.length = W.n ∧ Eqv W h g ∧ NN L (a + 1) g) ∧ Γ = [.sh W.D, .sh (hpD h), .sh (.int p), .sh (.list (L.map lstD)), .sh (hpD g), .sh (hpD q), .sh (.int ((a + 1 : Nat) : Int)), .sh (hpD R), .no, .no])
        (gs_while (I := fun M Γ => ∃ g q, (g.length = W.n ∧ q.length = W.n ∧ Eqv W h g ∧ NN L (a + 2) g) ∧ M = debt g l ∧ Γ = [.sh W.D, .sh (hpD h), .sh (.int p), .sh (.list (L.map lstD)), .sh (hpD g), .sh (hpD q), .sh (.int ((a + 1 : Nat) : Int)), .sh (hpD R), .no, .no]) ⟨_, g, q, ⟨lg, lq, eg, nn⟩, rfl, rfl⟩ ?_) ?_
      · rintro M Γ ⟨g, q, ⟨lg, lq, eg, nn⟩, rfl, rfl⟩
        refine ⟨l.any fun s => decide (g.getD s 0 < 0), _, gt_val (ge_any (L := l) (g := fun s => .bool (decide (g.getD s 0 < 0))) (k := fun s => decide (g.getD s 0 < 0)) rfl T.any
          (lcA (xs := l) (rep := fun i => .int (i : Nat)) (g := fun s => .bool (decide (g.getD s 0 < 0))) (own := [("spot", 9)]) (p := .nm 9)
            (lok (ig_list (ge_ixL (v 3 rfl) (v 6 rfl) .sh (d := lstD l) (atI_at (by rw [List.getElem?_map, hla]; rfl)) (pix (fun _ _ => rfl)))) (pg_nm rfl (.inl rfl)) rfl rfl rfl (fun _ _ => rfl))
            (fun s hs => ⟨_, rfl, ge_cmp (ge_ixT (vc 4 rfl) (v 9 rfl) .sh (at_ints (by rw [lg]; exact hls s hs)) (pix (fun _ _ => rfl))) ge_int og_lt rfl⟩) (by omega) (ni_of rfl)) .ol (fun _ => rfl) (fun _ => rfl)) (fun _ _ => rfl), fun hk => ?_, fun hk => ?_⟩
        · obtain ⟨s1, s2⟩ := pay_step o lg hla
          rw [hR] at s1 s2
          refine seq (gs_par2 (i := 4) (j := 5) rfl rfl (by decide) (.inr ⟨rfl, rfl⟩) (.inl rfl) (ga_cons (c3 F3 (v 0 rfl) (vc 4 rfl) (v 7 rfl) ⟨W, g, R, fit.ok, by omega, by omega, rfl, rfl⟩ (Nat.le_of_ble_eq_true rfl) rfl rfl (fun _ => rfl) (fun _ => rfl) (fun _ => rfl) (fun _ => rfl)) (ga_cons (c3 F4 (v 5 rfl) (v 7 rfl) ge_int ⟨q, R, 1, by omega, by omega, rfl, rfl⟩ (Nat.le_of_ble_eq_true rfl) rfl rfl (fun _ => rfl) (fun _ => rfl) (fun _ => rfl) (fun _ => rfl)) ga_nil (fun _ => rfl)) (fun _ => rfl)) rfl rfl (Nat.le_of_ble_eq_true rfl) (Nat.le_of_ble_eq_true rfl) rfl (.inr (sw_at rfl))) (gss_nil ?_)
          obtain ⟨s, hs, hs2⟩ := List.any_eq_true.mp hk
          exact ⟨_, debt_lt s1 ⟨s, hs, of_decide_eq_true hs2⟩, given W g R, zipP q R 1, ⟨given_len lg, zipP_len lq hro, eqv_step hl hro eg, s2 nn⟩, rfl, rfl⟩
        · refine ⟨g, q, ⟨lg, lq, eg, fun j lj hj hlj s hs => ?_⟩, rfl⟩
          by_cases hja : j = a + 1
          · subst hja
            rw [hla] at hlj
            cases hlj
            have := List.any_eq_false.mp hk s hs
            rw [decide_eq_true_eq] at this
            omega
          · exact nn j lj (by omega) hlj s hs
      · rintro Γ ⟨g, q, ⟨lg, lq, eg, nn⟩, rfl⟩
        refine gss_nil ⟨g, q, _, _, ⟨lg, lq, eg, ?_⟩, rfl⟩
        rw [show m + 1 - (i + 1) = a + 1 by omega]
        exact nn
    · rw [List.getElem?_eq_none (by simp; omega)] at hd
      cases hd
  · rintro Γ ⟨g, q, s6, s7, ⟨lg, lq, eg, nn⟩, rfl⟩
    rw [List.length_map, List.length_range] at nn
    refine ⟨g, q, s6, s7, ⟨lg, lq, eg, fun i hi hip => ?_⟩, rfl⟩
    obtain ⟨l, h1, h2⟩ := List.mem_flatten.mp (hcov i hi)
    obtain ⟨j, hj⟩ := List.mem_iff_getElem?.mp h1
    cases j with
    | zero =>
      rw [o.hd] at hj
      cases hj
      simp at h2
      exact absurd h2 hip
    | succ j => exact nn (j + 1) l (by omega) hj i h2
  · rintro Γ ⟨g, q, s6, s7, hok, rfl⟩
    exact ret (t2 (vc 4 rfl) (v 5 rfl) (fun _ => rfl) (fun _ => rfl)) ⟨_, .sh, W, h, p, g, q, rfl, hok, rfl⟩
end K79
set_option maxHeartbeats 4000000
namespace K79
open PySem L2 Evl Lf
variable {P : Program} {w : World} {K : PySem.W.Frag} {mg : Str → Option Value} {base : Heap} {f : Addr} {fd : FuncData}
/-! ### what an unburnt lot gives -/
structure Pot (W : Wb) (p : Nat) (φ : Nat → Int) : Prop where
  z : φ p = 0
  nn : ∀ i, 0 ≤ φ i
  drop : ∀ i, i < W.n → i ≠ p → 1 ≤ sumN W.n fun j => φ j * tab W.ts j i
def pot (W : Wb) (φ : Nat → Int) (h : List Int) : Int := sumN W.n fun i => φ i * h.getD i 0
theorem pot_given {W : Wb} {φ : Nat → Int} {h r : List Int} (hl : h.length = W.n) (hr : r.length = W.n) : pot W φ (given W h r) = pot W φ h - sumN W.n fun j => r.getD j 0 * sumN W.n fun i => φ i * tab W.ts i j := by
  unfold pot
  rw [sumN_congr (g := fun i => φ i * h.getD i 0 - sumN W.n fun j => φ i * (r.getD j 0 * tab W.ts i j)) fun i hi => by rw [given_at hl hr hi, Int.mul_sub, sumN_mul], sumN_sub, sumN_swap]
  congr 1
  refine sumN_congr fun j hj => ?_
  rw [← sumN_mul]
  exact sumN_congr fun i hi => by rw [← Int.mul_assoc, ← Int.mul_assoc, Int.mul_comm (φ i)]
theorem pot_nn {W : Wb} {p : Nat} {φ : Nat → Int} (pt : Pot W p φ) {h : List Int} (hn : ∀ i, i < W.n → i ≠ p → 0 ≤ h.getD i 0) : 0 ≤ pot W φ h := sumN_nn fun i hi => by
  by_cases e : i = p
  · subst e; rw [pt.z]; simp
  · exact Int.mul_nonneg (pt.nn i) (hn i hi e)
theorem burn_last {W : Wb} {h : List Int} {p : Nat} (hp : p < W.n) : lateOf W h (burnB W h p W.n) = [] := by
  obtain ⟨e, he, h1, h2⟩ := burn_end (h := h) hp
  have hb : burnB W h p W.n = burnB W h p e := by
    have := burn_fix h1 (W.n - e)
    rwa [show e + (W.n - e) = W.n by omega] at this
  rw [hb]
  exact h1
theorem burn_p {W : Wb} {h : List Int} {p : Nat} : ∀ k, p ∈ burnB W h p k
  | 0 => by simp [burnB]
  | k + 1 => by unfold burnB; exact List.mem_append_left _ (burn_p k)
theorem unb_mem {W : Wb} {h : List Int} {p i : Nat} : i ∈ unb W h p ↔ i < W.n ∧ i ∉ burnB W h p W.n := by
  unfold unb
  rw [List.mem_filter, List.mem_range]
  simp
theorem unb_nodup {W : Wb} {h : List Int} {p : Nat} : (unb W h p).Nodup := List.nodup_range.sublist List.filter_sublist
theorem split_sum {W : Wb} {h : List Int} {p : Nat} (hp : p < W.n) (f : Nat → Int) : ((burnB W h p W.n).map f).sum + ((unb W h p).map f).sum = sumN W.n f := by
  obtain ⟨b1, b2⟩ := burn_lt (h := h) hp W.n
  rw [← row_sum b1 b2, ← row_sum unb_nodup (fun i hi => (unb_mem.mp hi).1), ← sumN_add]
  refine sumN_congr fun j hj => ?_
  unfold rowOf
  rw [getD_map hj, getD_map hj]
  by_cases hb : j ∈ burnB W h p W.n
  · have : j ∉ unb W h p := fun z => (unb_mem.mp z).2 hb
    simp [hb, this]
  · have : j ∈ unb W h p := unb_mem.mpr ⟨hj, hb⟩
    simp [hb, this]
theorem unb_fire {W : Wb} (ok : W.Ok) {h : List Int} (hl : h.length = W.n) {p : Nat} (hp : p < W.n) (hn : ∀ i, i < W.n → i ≠ p → 0 ≤ h.getD i 0) : ∀ i, i < W.n → i ≠ p → 0 ≤ (given W h (rowOf W.n (unb W h p))).getD i 0 := fun i hi hip => by
  rw [fire_at hl unb_nodup (fun i hi => (unb_mem.mp hi).1) hi]
  have hs := split_sum (h := h) hp (tab W.ts i)
  rw [tab_sum ok.lt i] at hs
  by_cases hu : i ∈ unb W h p
  · have hb := (unb_mem.mp hu).2
    have hc : ctch W h (burnB W h p W.n) i = false := by
      have h1 := burn_last (h := h) hp
      unfold lateOf at h1
      have := (List.filter_eq_nil_iff.mp h1) i (by simpa using hi)
      simpa using this
    unfold ctch tiesB at hc
    have hb' : (burnB W h p W.n).contains i = false := by simpa using hb
    rw [hb'] at hc
    have : ¬ h.getD i 0 < -((burnB W h p W.n).map (tab W.ts i)).sum := by
      intro z
      rw [decide_eq_true z] at hc
      cases hc
    omega
  · have := sum_np (A := unb W h p) (f := tab W.ts i) fun b hb => tab_np fun z => hu (z ▸ hb)
    have := hn i hi hip
    omega
theorem sum_negmap {A : List Nat} {f : Nat → Int} : (A.map fun j => -(f j)).sum = -(A.map f).sum := by
  induction A with
  | nil => rfl
  | cons a A ih => simp only [List.map_cons, List.sum_cons]; rw [ih]; omega
theorem unb_pot {W : Wb} {h : List Int} (hl : h.length = W.n) {p : Nat} (hp : p < W.n) {φ : Nat → Int} (pt : Pot W p φ) (hne : unb W h p ≠ []) : pot W φ (given W h (rowOf W.n (unb W h p))) < pot W φ h := by
  rw [pot_given hl rowOf_len, row_sum unb_nodup fun i hi => (unb_mem.mp hi).1]
  have : 1 ≤ ((unb W h p).map fun j => sumN W.n fun i => φ i * tab W.ts i j).sum := by
    obtain ⟨a, A, e⟩ : ∃ a A, unb W h p = a :: A := by
      cases e : unb W h p with
      | nil => exact absurd e hne
      | cons a A => exact ⟨a, A, rfl⟩
    have hd : ∀ j, j ∈ unb W h p → 1 ≤ sumN W.n fun i => φ i * tab W.ts i j := fun j hj => by
      obtain ⟨h1, h2⟩ := unb_mem.mp hj
      exact pt.drop j h1 fun z => h2 (z ▸ burn_p _)
    rw [e] at hd ⊢
    rw [List.map_cons, List.sum_cons]
    have h1 := hd a (by simp)
    have h2 := sum_np (A := A) (f := fun j => -(sumN W.n fun i => φ i * tab W.ts i j)) fun j hj => by have := hd j (by simp [hj]); omega
    have h3 := sum_negmap (A := A) (f := fun j => sumN W.n fun i => φ i * tab W.ts i j)
    omega
  omega
/-! ### reduced_with, reduced_by -/
def preRedWith (ds : List D) : Prop := ∃ (W : Wb) (h : List Int) (p : Nat), W.Fit ∧ h.length = W.n ∧ Sm h ∧ p < W.n ∧ DetOk W p ∧ (∃ φ, Pot W p φ) ∧ ds = [W.D, hpD h, .int p]
def postRedWith (ds : List D) (r : D) : Prop := ∃ (W : Wb) (h : List Int) (p : Nat) (g q : List Int), ds = [W.D, hpD h, .int p] ∧ Red W p g ∧ Eqv W h g ∧ r = .tuple [hpD g, hpD q]
theorem sc_red_with : FnScope ["web", "heap", "place", "first", "here", "row", "lot", "late"] ["web", "heap", "place"] (defScope (top 35)) := ⟨rfl, rfl, rfl, by decide +kernel, rfl, by decide +kernel, by decide +kernel⟩
theorem tie_inj {t u : Nat × Nat} (h : tieD t = tieD u) : t = u := by
  unfold tieD at h
  have := PyData.tuple.inj h
  simp only [List.cons.injEq, PyData.int.injEq] at this
  obtain ⟨a, b⟩ := t
  obtain ⟨c, d⟩ := u
  simp at this
  simp
  omega
theorem ties_inj : ∀ {a b : List (Nat × Nat)}, a.map tieD = b.map tieD → a = b
  | [], [], _ => rfl
  | x :: a, y :: b, h => by
    simp only [List.map_cons, List.cons.injEq] at h
    rw [tie_inj h.1, ties_inj h.2]
  | [], _ :: _, h => by cases h
  | _ :: _, [], h => by cases h
theorem wbD_inj {W V : Wb} (h : W.D = V.D) : W = V := by
  have hn := wb_inj h
  unfold Wb.D at h
  have := PyData.tuple.inj h
  simp only [List.cons.injEq, PyData.tuple.injEq] at this
  obtain ⟨n, ts⟩ := W
  obtain ⟨m, us⟩ := V
  simp at hn
  have := ties_inj this.2.1
  simp at this
  simp [hn, this]
theorem args_inj {W V : Wb} {h k : List Int} {p q : Nat} (e : [W.D, hpD h, PyData.int p] = [V.D, hpD k, .int q]) : W = V ∧ h = k ∧ p = q := by
  simp only [List.cons.injEq, PyData.int.injEq] at e
  exact ⟨wbD_inj e.1, hp_inj e.2.1, by omega⟩
theorem ok_red_with (T : Txt mg) (F : Fun K "reduced_with" "reduced_with" (top 35) f fd) (F1 : FnX P w K mg base "whole_row" 3 preWhole postWhole) (F2 : FnX P w K mg base "paid_with" 3 prePaid postPaid) (F3 : FnG P w K mg base "given_by_row" 2 pGiven) (F4 : FnG P w K mg base "plus_by" 1 pPlusBy) (F5 : FnG P w K mg base "unburnt_by" 3 pUnburnt) (F6 : FnG P w K mg base "row_of_places" 1 pRowOf) : FnOk P w K mg base CX0 4 f fd ["web", "heap", "place"] (relSp preRedWith postRedWith) := by
  refine fn_rel F sc_red_with (fun ds h => by obtain ⟨_, _, _, _, _, _, _, _, _, rfl⟩ := h; rfl) fun ds h => ?_
  obtain ⟨W, h, p, fit, hl, sm, hp, dk, ⟨φ, pt⟩, rfl⟩ := h
  have n6 := fit.ok.n6
  have hul : ∀ g : List Int, (unb W g p).length ≤ 5000 := fun g => by
    have : (unb W g p).length ≤ W.n := Nat.le_trans (List.length_filter_le _ _) (by simp)
    omega
  refine gss_cons (Mid := fun Γ => ∃ q : List Int, q.length = W.n ∧ Γ = [.sh W.D, .sh (hpD h), .sh (.int p), .sh (hpD q), .no, .no, .no, .no])
    (gs_setX (i := 3) rfl (.inl rfl) (gx_call (ds := [W.D, hpD h, .int p]) F1 (Nat.le_of_ble_eq_true rfl) rfl (ga_cons (v 0 rfl) (ga_cons (v 1 rfl) (ga_cons (v 2 rfl) ga_nil (fun _ => rfl)) (fun _ => rfl)) (fun _ => rfl)) ⟨W, h, p, fit, hl, sm, hp, dk, rfl⟩ rfl (fun _ => rfl) (fun _ => rfl)) (Nat.le_of_ble_eq_true rfl)
      (fun s hs => by obtain ⟨r, rfl, hr⟩ := hs; obtain ⟨q, hq, rfl⟩ := hr W h p rfl; exact ⟨rfl, q, hq, rfl⟩) (fun _ _ => rfl)) ?_
  rintro Γ ⟨fr, lf, rfl⟩
  refine gss_cons (Mid := fun Γ => ∃ g q, PaidOk W p (given W h fr) g q ∧ Γ = [.sh W.D, .sh (hpD h), .sh (.int p), .sh (hpD fr), .sh (hpD g), .sh (hpD q), .no, .no])
    (gs_asgTX (p := .tp (.cons (.nm 4) (.cons (.nm 5) .nil))) (gx_call (ds := [W.D, hpD (given W h fr), .int p]) F2 (Nat.le_of_ble_eq_true rfl) rfl (ga_cons (v 0 rfl) (ga_cons (c3 F3 (v 0 rfl) (v 1 rfl) (v 3 rfl) ⟨W, h, fr, fit.ok, by omega, by omega, rfl, rfl⟩ (Nat.le_of_ble_eq_true rfl) rfl rfl (fun _ => rfl) (fun _ => rfl) (fun _ => rfl) (fun _ => rfl)) (ga_cons (v 2 rfl) ga_nil (fun _ => rfl)) (fun _ => rfl)) (fun _ => rfl)) ⟨W, _, p, fit, given_len hl, hp, rfl⟩ rfl (fun _ => rfl) (fun _ => rfl))
      (pg_tp (pgs_cn (pg_nm rfl (.inl rfl)) (pgs_cn (pg_nm rfl (.inl rfl)) pgs_nl (fun _ => rfl)) (fun _ => rfl)) (fun _ => rfl) (fun _ => rfl))
      (fun s hs => by
        obtain ⟨r, rfl, V, k, p', g, q, e, hok, rfl⟩ := hs
        obtain ⟨rfl, rfl, rfl⟩ := args_inj e
        exact ⟨_, _, rfl, rfl, g, q, hok, rfl⟩) (fun _ _ => rfl) (fun _ _ => rfl) (fun _ => rfl)) ?_
  rintro Γ ⟨g, q, ⟨lg, lq, eg, nn⟩, rfl⟩
  have eg' : Eqv W h g := eqv_trans hl ⟨fr, lf, rfl⟩ eg
  refine seq (asg 5 (c3 F4 (v 5 rfl) (v 3 rfl) ge_int ⟨q, fr, 1, by omega, by omega, rfl, rfl⟩ (Nat.le_of_ble_eq_true rfl) rfl rfl (fun _ => rfl) (fun _ => rfl) (fun _ => rfl) (fun _ => rfl)) rfl rfl rfl (.inl rfl) (Nat.le_of_ble_eq_true rfl) (fun _ => rfl)) ?_
  refine seq (asg 6 (c3 F5 (v 0 rfl) (v 4 rfl) (v 2 rfl) ⟨W, g, p, fit.ok, lg, hp, rfl, rfl⟩ (Nat.le_of_ble_eq_true rfl) rfl rfl (fun _ => rfl) (fun _ => rfl) (fun _ => rfl) (fun _ => rfl)) rfl rfl rfl (.inl rfl) (Nat.le_of_ble_eq_true rfl) (fun _ => rfl)) ?_
  refine gss_cons (Mid := fun Γ => ∃ g q s7, Red W p g ∧ Eqv W h g ∧ Γ = [.sh W.D, .sh (hpD h), .sh (.int p), .sh (hpD fr), .sh (hpD g), .sh (hpD q), .sh (lstD (unb W g p)), s7])
    (gs_while (I := fun M Γ => ∃ g q s7, (g.length = W.n ∧ q.length = W.n ∧ Eqv W h g ∧ ∀ i, i < W.n → i ≠ p → 0 ≤ g.getD i 0) ∧ M = (pot W φ g).toNat ∧ Γ = [.sh W.D, .sh (hpD h), .sh (.int p), .sh (hpD fr), .sh (hpD g), .sh (hpD q), .sh (lstD (unb W g p)), s7]) ⟨_, g, _, .no, ⟨lg, zipP_len lq lf, eg', nn⟩, rfl, rfl⟩ ?_) ?_
  · rintro M Γ ⟨g, q, s7, ⟨lg, lq, eg, nn⟩, rfl, rfl⟩
    refine ⟨!decide (unb W g p = []), _, by rw [← eqv_nil]; exact gt_cmp (v 6 rfl) l0 (og_neL .sh .ol (pl_shaped pl_lst (by decide)) (pl_shaped pl_nil (by decide))) rfl, fun hk => ?_, fun hk => ?_⟩
    · have hne : unb W g p ≠ [] := by simpa using hk
      have hro : (rowOf W.n (unb W g p)).length = W.n := rowOf_len
      refine seq (asg 7 (c2 F6 (v 0 rfl) (v 6 rfl) ⟨W, unb W g p, by omega, hul g, rfl, rfl⟩ (Nat.le_of_ble_eq_true rfl) rfl rfl (fun _ => rfl) (fun _ => rfl) (fun _ => rfl)) rfl rfl rfl (.inl rfl) (Nat.le_of_ble_eq_true rfl) (fun _ => rfl)) ?_
      refine seq (gs_par2 (i := 4) (j := 5) rfl rfl (by decide) (.inl rfl) (.inl rfl) (ga_cons (c3 F3 (v 0 rfl) (v 4 rfl) (v 7 rfl) ⟨W, g, _, fit.ok, by omega, by omega, rfl, rfl⟩ (Nat.le_of_ble_eq_true rfl) rfl rfl (fun _ => rfl) (fun _ => rfl) (fun _ => rfl) (fun _ => rfl)) (ga_cons (c3 F4 (v 5 rfl) (v 7 rfl) ge_int ⟨q, _, 1, by omega, by omega, rfl, rfl⟩ (Nat.le_of_ble_eq_true rfl) rfl rfl (fun _ => rfl) (fun _ => rfl) (fun _ => rfl) (fun _ => rfl)) ga_nil (fun _ => rfl)) (fun _ => rfl)) rfl rfl (Nat.le_of_ble_eq_true rfl) (Nat.le_of_ble_eq_true rfl) rfl (.inl ⟨rfl, rfl, sw_at rfl⟩)) ?_
      refine seq (asg 6 (c3 F5 (v 0 rfl) (v 4 rfl) (v 2 rfl) ⟨W, _, p, fit.ok, given_len lg, hp, rfl, rfl⟩ (Nat.le_of_ble_eq_true rfl) rfl rfl (fun _ => rfl) (fun _ => rfl) (fun _ => rfl) (fun _ => rfl)) rfl rfl rfl (.inl rfl) (Nat.le_of_ble_eq_true rfl) (fun _ => rfl)) (gss_nil ?_)
      refine ⟨_, ?_, given W g (rowOf W.n (unb W g p)), _, _, ⟨given_len lg, zipP_len lq hro, eqv_step hl hro eg, unb_fire fit.ok lg hp nn⟩, rfl, rfl⟩
      have h1 := unb_pot lg hp pt hne
      have h2 := pot_nn pt (unb_fire fit.ok lg hp nn)
      omega
    · exact ⟨g, q, s7, ⟨lg, nn, by simpa using hk⟩, eg, rfl⟩
  · rintro Γ ⟨g, q, s7, rd, eg, rfl⟩
    exact ret (t2 (v 4 rfl) (v 5 rfl) (fun _ => rfl) (fun _ => rfl)) ⟨_, .sh, W, h, p, g, q, rfl, rd, eg, rfl⟩
theorem sc_red_by : FnScope ["web", "heap", "place"] ["web", "heap", "place"] (defScope (top 36)) := ⟨rfl, rfl, rfl, by decide +kernel, rfl, by decide +kernel, by decide +kernel⟩
theorem ok_red_by (uniq : ∀ (W : Wb) (p : Nat) (h g g' : List Int), W.Fit → p < W.n → h.length = W.n → Red W p g → Red W p g' → Eqv W h g → Eqv W h g' → g = g') (facts : ∀ (W : Wb) (p : Nat), W.Fit → p < W.n → DetOk W p ∧ ∃ φ, Pot W p φ)
    (F : Fun K "reduced_by" "reduced_by" (top 36) f fd) (F1 : FnX P w K mg base "reduced_with" 4 preRedWith postRedWith) : FnOk P w K mg base CX0 5 f fd ["web", "heap", "place"] (pureSp pReducedBy) := by
  refine fn_sole (Pre := preRedWith) (Post := fun ds r => ∃ (W : Wb) (h : List Int) (p : Nat) (g : List Int), ds = [W.D, hpD h, .int p] ∧ Red W p g ∧ Eqv W h g ∧ r = hpD g) ?_ ?_
  · refine fn_rel F sc_red_by (fun ds h => by obtain ⟨_, _, _, _, _, _, _, _, _, rfl⟩ := h; rfl) fun ds h => ?_
    obtain ⟨W, h, p, fit, hl, sm, hp, dk, pt, rfl⟩ := h
    refine gss_last (gs_retX (gx_ixT (P' := fun s => ∃ g, s = .sh (hpD g) ∧ Red W p g ∧ Eqv W h g) (gx_call (ds := [W.D, hpD h, .int p]) F1 (Nat.le_of_ble_eq_true rfl) rfl (ga_cons (v 0 rfl) (ga_cons (v 1 rfl) (ga_cons (v 2 rfl) ga_nil (fun _ => rfl)) (fun _ => rfl)) (fun _ => rfl)) ⟨W, h, p, fit, hl, sm, hp, dk, pt, rfl⟩ rfl (fun _ => rfl) (fun _ => rfl))
      (fun s hs => ge_int) (fun s hs => by
        obtain ⟨r, rfl, V, k, p', g, q, e, rd, eg, rfl⟩ := hs
        obtain ⟨rfl, rfl, rfl⟩ := args_inj e
        exact ⟨_, _, rfl, atI_at (k := 0) rfl, g, rfl, rd, eg⟩) (pix (fun _ _ => rfl))) fun s hs => ?_)
    obtain ⟨g, rfl, rd, eg⟩ := hs
    exact ⟨_, .sh, W, h, p, g, rfl, rd, eg, rfl⟩
  · rintro ds r ⟨W, h, p, g, fit, hl, sm, hp, rd, eg, rfl, rfl⟩
    obtain ⟨dk, pt⟩ := facts W p fit hp
    refine ⟨⟨W, h, p, fit, hl, sm, hp, dk, pt, rfl⟩, ?_⟩
    rintro r' ⟨V, k, p', g', e, rd', eg', rfl⟩
    obtain ⟨rfl, rfl, rfl⟩ := args_inj e
    rw [uniq W p h g' g fit hp hl rd' rd eg' eg]
end K79
set_option maxHeartbeats 4000000
namespace K79
open PySem L2 Evl Lf
variable {P : Program} {w : World} {K : PySem.W.Frag} {mg : Str → Option Value} {base : Heap} {f : Addr} {fd : FuncData}
/-! ### is_tie -/
def pIsTie (ds : List D) (r : D) : Prop := ∃ (n : Nat) (t : Nat × Nat), t.1 < t.2 ∧ t.2 < n ∧ ds = [.int n, tieD t] ∧ r = .bool true
theorem sc_is_tie : FnScope ["places", "thing", "item"] ["places", "thing"] (defScope (top 14)) := ⟨rfl, rfl, rfl, by decide +kernel, rfl, by decide +kernel, by decide +kernel⟩
theorem ok_is_tie (T : Txt mg) (F : Fun K "is_tie" "is_tie" (top 14) f fd) (F1 : FnG P w K mg base "is_number" 1 pIsNumber) : FnOk P w K mg base CX0 2 f fd ["places", "thing"] (pureSp pIsTie) := by
  refine fn_pure F sc_is_tie (fun ds r h => by obtain ⟨_, _, _, _, rfl, _⟩ := h; rfl) fun ds r h => ?_
  obtain ⟨n, t, h1, h2, rfl, rfl⟩ := h
  refine noif (gt_bool (gw_or (k := false) (gt_not (k := true) (gt_val (ge_isi rfl T.isi rfl T.tuple (by decide +kernel) (v 1 rfl) (kit_tup _) (fun _ => rfl) (by decide) (by decide)) (fun _ _ => rfl))) fun _ => gw_or (k := false) (geq_t (gt_cmp (ge_len rfl T.len (v 1 rfl) (.t .sh) (fun _ => rfl)) ge_int og_neI rfl) rfl) fun _ =>
    gw_or1 (gt_not (k := true) (gt_val (geq (ge_all (L := [t.1, t.2]) (g := fun _ => .bool true) (k := fun _ => true) rfl T.all (lcA (xs := [t.1, t.2]) (rep := fun i => .int (i : Nat)) (g := fun _ => .bool true) (own := [("item", 2)]) (p := .nm 2)
      (lok (ig_tup (L := [.int (t.1 : Nat), .int (t.2 : Nat)]) (v 1 rfl)) (pg_nm rfl (.inl rfl)) rfl rfl rfl (fun _ _ => rfl)) (fun x hx => ⟨_, rfl, c1 F1 (v 2 rfl) ⟨_, rfl, rfl⟩ (Nat.le_of_ble_eq_true rfl) rfl rfl (fun _ => rfl)⟩) (by simp) (ni_of rfl)) .ol (fun _ => rfl) (fun _ => rfl)) (by simp)) (fun _ _ => rfl))))) ?_
  refine ret (ge_chain3 ge_int (ge_ixT (v 1 rfl) ge_int .sh (d := .int (t.1 : Nat)) rfl (pix (fun _ _ => rfl))) (fun τ => og_le) (fun _ => ⟨ge_ixT (v 1 rfl) ge_int .sh (d := .int (t.2 : Nat)) rfl (pix (fun _ _ => rfl)), fun τ => og_lt⟩) (fun _ _ => ⟨v 0 rfl, og_lt⟩) rfl) (retS ?_)
  simp
  omega
/-! ### hangs_together -/
structure HInv (W : Wb) (B L : List Nat) : Prop where
  nd : B.Nodup
  lt : ∀ i, i ∈ B → i < W.n
  z : 0 ∈ B
  sub : ∀ i, i ∈ L → i ∈ B
  cl : ∀ x, x ∈ B → x ∉ L → ∀ t, t ∈ W.ts → (t.1 = x → t.2 ∈ B) ∧ (t.2 = x → t.1 ∈ B)
  lb : L.length ≤ B.length
/-- within the walk over the ties, x being looked at -/
structure HIn (W : Wb) (x : Nat) (B0 L0 : List Nat) (k : Nat) (B L : List Nat) : Prop where
  nd : B.Nodup
  lt : ∀ i, i ∈ B → i < W.n
  z : 0 ∈ B
  sub : ∀ i, i ∈ L → i ∈ B
  xB : x ∈ B
  cl : ∀ y, y ∈ B → y ∉ L → y ≠ x → ∀ t, t ∈ W.ts → (t.1 = y → t.2 ∈ B) ∧ (t.2 = y → t.1 ∈ B)
  dn : ∀ t, t ∈ W.ts.take k → (t.1 = x → t.2 ∈ B) ∧ (t.2 = x → t.1 ∈ B)
  len : L.length + B0.length = L0.length + B.length
  le : B0.length ≤ B.length
def pHangs (ds : List D) (r : D) : Prop := ∃ W : Wb, W.Good ∧ ds = [.int W.n, .tuple (W.ts.map tieD)] ∧ r = .bool true
theorem sc_hangs : FnScope ["places", "ties", "found", "line", "here", "a", "b", "far"] ["places", "ties"] (defScope (top 13)) := ⟨rfl, rfl, rfl, by decide +kernel, rfl, by decide +kernel, by decide +kernel⟩
theorem ok_hangs (T : Txt mg) (F : Fun K "hangs_together" "hangs_together" (top 13) f fd) : FnOk P w K mg base CX0 1 f fd ["places", "ties"] (pureSp pHangs) := by
  refine fn_pure F sc_hangs (fun ds r h => by obtain ⟨_, _, rfl, _⟩ := h; rfl) fun ds r h => ?_
  obtain ⟨W, g, rfl, rfl⟩ := h
  have n6 := g.ok.n6
  have n1 := g.ok.n1
  refine seq (gs_par2 (i := 2) (j := 3) rfl rfl (by decide) (.inl rfl) (.inl rfl) (ga_cons (ge_disp1 ge_int ge_bl (.int _)) (ga_cons (l1 ge_int (fun _ => rfl)) ga_nil (fun _ => rfl)) (fun _ => rfl)) rfl rfl (Nat.le_of_ble_eq_true rfl) (Nat.le_of_ble_eq_true rfl) rfl (.inl ⟨rfl, rfl, sw_at rfl⟩)) ?_
  refine gss_cons (Mid := fun Γ => ∃ B s4 s5 s6 s7, HInv W B [] ∧ Γ = [.sh (.int W.n), .sh (.tuple (W.ts.map tieD)), .od (kvB B), .ol [], s4, s5, s6, s7])
    (gs_while (I := fun M Γ => ∃ B L s4 s5 s6 s7, HInv W B L ∧ M = 2 * (W.n - B.length) + L.length ∧ Γ = [.sh (.int W.n), .sh (.tuple (W.ts.map tieD)), .od (kvB B), .ol (natsD L), s4, s5, s6, s7]) ⟨_, [0], [0], .no, .no, .no, .no, ⟨by simp, by simp; omega, by simp, by simp, fun x h1 h2 => absurd h1 h2, by simp⟩, rfl, rfl⟩ ?_) ?_
  · rintro M Γ ⟨B, L, s4, s5, s6, s7, hv, rfl, rfl⟩
    refine ⟨!decide (L = []), _, by rw [← eqv_nil]; exact gt_cmp (bo 3 rfl) l0 (og_neL (.bo rfl) .ol (pl_shaped pl_lst (by decide)) (pl_shaped pl_nil (by decide))) rfl, fun hk => ?_, fun hk => ?_⟩
    · have hne : L ≠ [] := by simpa using hk
      obtain ⟨L0, x, rfl⟩ : ∃ L0 x, L = L0 ++ [x] := ⟨L.dropLast, L.getLast hne, (List.dropLast_concat_getLast hne).symm⟩
      have hBn := nodup_le _ _ hv.nd hv.lt
      have hxB : x ∈ B := hv.sub x (by simp)
      have eL : natsD (L0 ++ [x]) = natsD L0 ++ [.int (x : Nat)] := by unfold natsD; rw [List.map_append]; rfl
      rw [eL]
      refine seq (asg 4 (ge_pop (bo 3 rfl) rfl (ni_of rfl) (fun _ _ => rfl) rfl) rfl rfl rfl (.inl rfl) (Nat.le_of_ble_eq_true rfl) (fun _ => rfl)) ?_
      refine gss_cons (Mid := fun Γ => ∃ B1 L1 s5 s6 s7, HIn W x B L0 W.ts.length B1 L1 ∧ Γ = [.sh (.int W.n), .sh (.tuple (W.ts.map tieD)), .od (kvB B1), .ol (natsD L1), .sh (.int x), s5, s6, s7])
        (gs_for (L := W.ts.map tieD) (p := .tp (.cons (.nm 5) (.cons (.nm 6) .nil))) (I := fun k Γ => ∃ B1 L1 s5 s6 s7, HIn W x B L0 k B1 L1 ∧ Γ = [.sh (.int W.n), .sh (.tuple (W.ts.map tieD)), .od (kvB B1), .ol (natsD L1), .sh (.int x), s5, s6, s7])
        (ig_tup (v 1 rfl)) (pg_tp (pgs_cn (pg_nm rfl (.inl rfl)) (pgs_cn (pg_nm rfl (.inl rfl)) pgs_nl (fun _ => rfl)) (fun _ => rfl)) (fun _ => rfl) (fun _ => rfl)) ⟨B, L0, s5, s6, s7, ?_, rfl⟩ ?_ ?_ (fun _ _ => rfl)) ?_
      · refine ⟨hv.nd, hv.lt, hv.z, fun i hi => hv.sub i (by simp [hi]), hxB, fun y h1 h2 h3 => hv.cl y h1 (by simp; exact ⟨h2, h3⟩), fun t ht => by simp at ht, by omega, by omega⟩
      · rintro k Γ d ⟨B1, L1, s5, s6, s7, hi, rfl⟩ hd
        rw [List.getElem?_map] at hd
        cases ht' : W.ts[k]? with
        | none => rw [ht'] at hd; cases hd
        | some t =>
          rw [ht'] at hd
          cases hd
          obtain ⟨a, b⟩ := t
          obtain ⟨hab, hbn⟩ := g.ok.lt _ (List.mem_of_getElem? ht')
          have hab : a < b := hab
          have hbn : b < W.n := hbn
          have hB1 := nodup_le _ _ hi.nd hi.lt
          refine ⟨_, rfl, ?_⟩
          refine gss_cons (Mid := fun Γ => ∃ B1 L1 s5 s6 s7, HIn W x B L0 (k + 1) B1 L1 ∧ Γ = [.sh (.int W.n), .sh (.tuple (W.ts.map tieD)), .od (kvB B1), .ol (natsD L1), .sh (.int x), s5, s6, s7])
            (gs_if (k := onT x (a, b)) (by rw [← onT_any, ← any_nat]; exact gt_cmp (v 4 rfl) (t2 (v 5 rfl) (v 6 rfl) (fun _ => rfl) (fun _ => rfl)) (og_in (dss := natsD [a, b]) (.t .sh) (pl_all (k := 0) pl_nats) rfl (by simp [PyData.depth])) rfl) (fun hon => ?_) (fun hon => ?_)) (fun Γ h => gss_nil h)
          · have hor : a = x ∨ b = x := by unfold onT at hon; simpa using hon
            generalize hfar : (if a = x then b else a) = far
            have hfe : (a : Int) + (b : Int) - (x : Int) = (far : Int) := by
              rw [← hfar]
              split <;> omega
            have hfn : far < W.n := by rw [← hfar]; split <;> omega
            refine seq (asg 7 (geq (ge_bin (ge_bin (v 5 rfl) (v 6 rfl) og_add) (v 4 rfl) og_sub) (congrArg PyData.int hfe)) rfl rfl rfl (.inl rfl) (Nat.le_of_ble_eq_true rfl) (fun _ => rfl)) ?_
            refine gss_cons (Mid := fun Γ => ∃ B1 L1 s5 s6 s7, HIn W x B L0 (k + 1) B1 L1 ∧ Γ = [.sh (.int W.n), .sh (.tuple (W.ts.map tieD)), .od (kvB B1), .ol (natsD L1), .sh (.int x), s5, s6, s7])
              (gs_if (k := !B1.contains far) (by rw [← kvB_val]; exact gt_notInD (v 7 rfl) (bo 2 rfl) (.int _) rfl rfl) (fun hc => ?_) (fun hc => ?_)) (fun Γ h => gss_nil h)
            · have hnc : B1.contains far = false := by simpa using hc
              have hnm : far ∉ B1 := by simpa using hnc
              refine seq (gs_dput ge_bl (fun τ => bo 2 rfl) (fun τ => v 7 rfl) (.int _) rfl (by unfold kvB; rw [List.length_map]; omega) rfl (fun _ _ => rfl)) ?_
              refine seq (gs_app (ds0 := natsD L1) (bo 3 rfl) rfl (v 7 rfl) rfl ?_ rfl (fun _ _ => rfl) rfl (fun _ => rfl)) (gss_nil ⟨B1 ++ [far], L1 ++ [far], .sh (.int a), .sh (.int b), .sh (.int far), ?_, ?_⟩)
              · have h1 := hi.len
                have h2 := hv.lb
                rw [natsD_len]
                simp at h2
                omega
              · refine ⟨List.nodup_append.mpr ⟨hi.nd, by simp, fun y hy z hz e => by simp at hz; subst hz; subst e; exact hnm hy⟩, fun i h => ?_, List.mem_append_left _ hi.z, fun i h => ?_, List.mem_append_left _ hi.xB, fun y h1 h2 h3 t ht => ?_, fun t ht => ?_, ?_, ?_⟩
                · rcases List.mem_append.mp h with z | z
                  · exact hi.lt i z
                  · simp at z; omega
                · rcases List.mem_append.mp h with z | z
                  · exact List.mem_append_left _ (hi.sub i z)
                  · exact List.mem_append_right _ z
                · rw [List.mem_append, not_or] at h2
                  rcases List.mem_append.mp h1 with z | z
                  · obtain ⟨c1, c2⟩ := hi.cl y z h2.1 h3 t ht
                    exact ⟨fun e => List.mem_append_left _ (c1 e), fun e => List.mem_append_left _ (c2 e)⟩
                  · exact absurd z h2.2
                · rw [List.take_succ, ht', List.mem_append] at ht
                  rcases ht with z | z
                  · obtain ⟨c1, c2⟩ := hi.dn t z
                    exact ⟨fun e => List.mem_append_left _ (c1 e), fun e => List.mem_append_left _ (c2 e)⟩
                  · simp at z
                    subst z
                    refine ⟨fun e => List.mem_append_right _ ?_, fun e => List.mem_append_right _ ?_⟩
                    · have e : a = x := e
                      rw [← hfar, if_pos e]; simp
                    · have e : b = x := e
                      rw [← hfar, if_neg (by omega)]; simp
                · have := hi.len
                  simp
                  omega
                · have := hi.le
                  simp
                  omega
              · rw [← kvB_put _ _ hnc]
                unfold natsD
                rw [List.map_append]
                rfl
            · have hmem : far ∈ B1 := by simpa using hc
              refine gss_nil ⟨B1, L1, .sh (.int a), .sh (.int b), .sh (.int far), ?_, rfl⟩
              refine ⟨hi.nd, hi.lt, hi.z, hi.sub, hi.xB, hi.cl, fun t ht => ?_, hi.len, hi.le⟩
              rw [List.take_succ, ht', List.mem_append] at ht
              rcases ht with z | z
              · exact hi.dn t z
              · simp at z
                subst z
                refine ⟨fun e => ?_, fun e => ?_⟩
                · have e : a = x := e
                  rw [← hfar, if_pos e] at hmem; exact hmem
                · have e : b = x := e
                  rw [← hfar, if_neg (by omega)] at hmem; exact hmem
          · have hnor : ¬ a = x ∧ ¬ b = x := by unfold onT at hon; simpa using hon
            refine gss_nil ⟨B1, L1, .sh (.int a), .sh (.int b), s7, ?_, rfl⟩
            refine ⟨hi.nd, hi.lt, hi.z, hi.sub, hi.xB, hi.cl, fun t ht => ?_, hi.len, hi.le⟩
            rw [List.take_succ, ht', List.mem_append] at ht
            rcases ht with z | z
            · exact hi.dn t z
            · simp at z
              subst z
              exact ⟨fun e => absurd e hnor.1, fun e => absurd e hnor.2⟩
      · rintro Γ ⟨B1, L1, s5, s6, s7, hi, rfl⟩
        rw [List.length_map] at hi
        exact ⟨B1, L1, s5, s6, s7, hi, rfl⟩
      · rintro Γ ⟨B1, L1, s5, s6, s7, hi, rfl⟩
        have hB1 := nodup_le _ _ hi.nd hi.lt
        have h1 := hi.len
        have h2 := hi.le
        have h3 := hv.lb
        rw [List.length_append] at h3
        simp at h3
        refine gss_nil ⟨_, ?_, B1, L1, _, s5, s6, s7, ⟨hi.nd, hi.lt, hi.z, hi.sub, fun y hy hyl t ht => ?_, by omega⟩, rfl, rfl⟩
        · rw [List.length_append]
          simp
          omega
        · by_cases e : y = x
          · subst e
            exact hi.dn t (by rw [List.take_length]; exact ht)
          · exact hi.cl y hy hyl e t ht
    · have : L = [] := by simpa using hk
      subst this
      exact ⟨B, s4, s5, s6, s7, hv, rfl⟩
  · rintro Γ ⟨B, s4, s5, s6, s7, hv, rfl⟩
    refine ret (ge_cmp (ge_lenD rfl T.len (bo 2 rfl) rfl (fun _ => rfl)) (v 0 rfl) og_eqN rfl) (retS ?_)
    have hB := nodup_le _ _ hv.nd hv.lt
    have all := g.con (fun i => i ∈ B) hv.z fun t ht => ⟨fun z => (hv.cl t.1 z (by simp) t ht).1 rfl, fun z => (hv.cl t.2 z (by simp) t ht).2 rfl⟩
    have := late_ne.nodup_sub (W := W) (p := 0) (k := 0) W.n B all
    have e : (kvB B).length = W.n := by unfold kvB; rw [List.length_map]; omega
    rw [e]
    simp
end K79
set_option maxHeartbeats 4000000
namespace K79
open PySem L2 Evl Lf
variable {P : Program} {w : World} {K : PySem.W.Frag} {mg : Str → Option Value} {base : Heap} {f : Addr} {fd : FuncData}
theorem alike_ties (A : List (Nat × Nat)) : PySem.W.AllAlike (A.map tieD) := fun d hd d' hd' => by
  obtain ⟨a, _, rfl⟩ := List.mem_map.mp hd
  obtain ⟨b, _, rfl⟩ := List.mem_map.mp hd'
  simp [tieD, PySem.W.alike, PySem.W.alikeAll]
theorem sortable_ties (A : List (Nat × Nat)) : PySem.W.Sortable (A.map tieD) := .inl fun d hd => by
  obtain ⟨a, _, rfl⟩ := List.mem_map.mp hd
  exact ⟨_, _, rfl⟩
theorem pl_ties {A : List (Nat × Nat)} {k : Nat} : ∀ d, d ∈ A.map tieD → Pl (k + 1) d := fun d hd => by
  obtain ⟨a, _, rfl⟩ := List.mem_map.mp hd
  exact pl_tie
theorem depth_ties (A : List (Nat × Nat)) : ∀ d, d ∈ A.map tieD → d.depth ≤ 40 := fun d hd => Nat.le_trans (pl_lay (pl_ties (k := 0) d hd)).2 (by decide)
theorem pl_tiesL (A : List (Nat × Nat)) : Pl 2 (.list (A.map tieD)) := fun d hd => pl_ties (k := 0) d hd
/-- the module's two numbers -/
structure Nums (mg : Str → Option Value) : Prop where
  mp : ∃ t, mg "MOST_PLACES" = some (.int 6 t)
  mt : ∃ t, mg "MOST_TIES" = some (.int 12 t)
theorem sc_is_web_of : FnScope ["thing", "places", "ties", "tie"] ["thing"] (defScope (top 15)) := ⟨rfl, rfl, rfl, by decide +kernel, rfl, by decide +kernel, by decide +kernel⟩
theorem ok_is_web_of (T : Txt mg) (N : Nums mg) (F : Fun K "is_web_of" "is_web_of" (top 15) f fd) (F1 : FnG P w K mg base "is_number" 1 pIsNumber) (F2 : FnG P w K mg base "is_tie" 2 pIsTie) (F3 : FnG P w K mg base "hangs_together" 1 pHangs) : FnOk P w K mg base CX0 5 f fd ["thing"] (pureSp pIsWebOf) := by
  refine fn_pure F sc_is_web_of (fun ds r h => by obtain ⟨_, _, rfl, _⟩ := h; rfl) fun ds r h => ?_
  obtain ⟨W, g, rfl, rfl⟩ := h
  have n6 := g.ok.n6
  have n1 := g.ok.n1
  have hm := g.ok.m
  refine noif (gt_bool (gw_or (k := false) (gt_not (k := true) (gt_val (ge_isi (d := W.D) rfl T.isi rfl T.tuple (by decide +kernel) (v 0 rfl) (kit_tup _) (fun _ => rfl) (by decide) (by decide)) (fun _ _ => rfl))) fun _ => gw_or (k := false) (geq_t (gt_cmp (ge_len rfl T.len (v 0 rfl) (.t .sh) (fun _ => rfl)) ge_int og_neI rfl) rfl) fun _ =>
    gw_or (k := false) (gt_not (k := true) (gt_val (c1 F1 (ge_ixT (v 0 rfl) ge_int .sh (d := .int W.n) rfl (pix (fun _ _ => rfl))) ⟨_, rfl, rfl⟩ (Nat.le_of_ble_eq_true rfl) rfl rfl (fun _ => rfl)) (fun _ _ => rfl))) fun _ => gw_or1 (gt_not (k := true) (geq_t (gt_chain ge_int (ge_ixT (v 0 rfl) ge_int .sh (d := .int W.n) rfl (pix (fun _ _ => rfl))) (fun τ => og_le) (fun _ => ⟨ge_globI rfl N.mp rfl, og_le⟩) rfl) ?_)))) ?_
  · simp
    omega
  refine seq (gs_asgT (v 0 rfl) (tg_tup (tz_cons (tg_nm (i := 1) (d := .int W.n) rfl (.inr ⟨rfl, rfl⟩) (Nat.le_of_ble_eq_true rfl)) (tz_cons (tg_nm (i := 2) (d := .tuple (W.ts.map tieD)) rfl (.inl rfl) (Nat.le_of_ble_eq_true rfl)) tz_nil (fun _ => rfl)) (fun _ => rfl)) rfl (fun _ => rfl) (fun _ => rfl)) rfl (fun _ _ => rfl) (fun _ _ => rfl) (fun _ => rfl)) ?_
  refine noif (gt_bool (gw_or (k := false) (gt_not (k := true) (gt_val (ge_isi rfl T.isi rfl T.tuple (by decide +kernel) (v 2 rfl) (kit_tup _) (fun _ => rfl) (by decide) (by decide)) (fun _ _ => rfl))) fun _ => gw_or (k := false) (geq_t (gt_cmp (ge_len rfl T.len (v 2 rfl) (.t .sh) (fun _ => rfl)) (ge_globI rfl N.mt rfl) og_gt rfl) ?_) fun _ =>
    gw_or1 (gt_not (k := true) (gt_val (geq (ge_all (L := W.ts) (g := fun _ => .bool true) (k := fun _ => true) rfl T.all (lcA (xs := W.ts) (rep := tieD) (g := fun _ => .bool true) (own := [("tie", 3)]) (p := .nm 3)
      (lok (ig_tup (v 2 rfl)) (pg_nm rfl (.inl rfl)) rfl rfl rfl (fun _ _ => rfl)) (fun t ht => ⟨_, rfl, c2 F2 (vc 1 rfl) (v 3 rfl) ⟨W.n, t, (g.ok.lt t ht).1, (g.ok.lt t ht).2, rfl, rfl⟩ (Nat.le_of_ble_eq_true rfl) rfl rfl (fun _ => rfl) (fun _ => rfl) (fun _ => rfl)⟩) (by omega) (ni_of rfl)) .ol (fun _ => rfl) (fun _ => rfl)) (by simp)) (fun _ _ => rfl))))) ?_
  · simp
    omega
  refine ret (ge_and (k := true) (l := true) (geq (ge_cmp (ge_list rfl T.list (v 2 rfl) (.t .sh) (fun _ => rfl)) (ge_sorted rfl T.sorted (v 2 rfl) (.t .sh) (alike_ties _) (sortable_ties _) (depth_ties _) (fun _ => rfl)) (og_eqL .ol .ol (pl_shaped (k := 2) (fun d hd => pl_ties (k := 0) d hd) (by decide)) (by rw [g.srt]; exact pl_shaped (k := 2) (fun d hd => pl_ties (k := 0) d hd) (by decide))) rfl) ?_) fun _ => ge_one (c2 F3 (vc 1 rfl) (v 2 rfl) ⟨W, g, rfl, rfl⟩ (Nat.le_of_ble_eq_true rfl) rfl rfl (fun _ => rfl) (fun _ => rfl) (fun _ => rfl))) .sh
  rw [g.srt]
  exact congrArg PyData.bool ((pl_eqv (pl_tiesL W.ts) (pl_tiesL W.ts)).mpr rfl)
end K79
set_option maxHeartbeats 4000000
namespace K79
open PySem L2 Evl Lf
variable {P : Program} {w : World} {K : PySem.W.Frag} {mg : Str → Option Value} {base : Heap} {f : Addr} {fd : FuncData}
/-! ### _law_near_to -/
def oth (p : Nat) (t : Nat × Nat) : Nat := if t.1 = p then t.2 else t.1
def nearL (ts : List (Nat × Nat)) (p : Nat) : List Nat := (ts.filter (onT p)).map (oth p)
theorem near_len (ts : List (Nat × Nat)) (p : Nat) : (nearL ts p).length = deg ts p := by
  unfold nearL deg
  rw [List.length_map, List.countP_eq_length_filter]
def pNear (ds : List D) (r : D) : Prop := ∃ (W : Wb) (p : Nat), W.Ok ∧ ds = [W.D, .int p] ∧ r = lstD (nearL W.ts p)
theorem sc_near : FnScope ["web", "place", "tie"] ["web", "place"] (defScope (top 63)) := ⟨rfl, rfl, rfl, by decide +kernel, rfl, by decide +kernel, by decide +kernel⟩
theorem ok_near (F : Fun K "_law_near_to" "_law_near_to" (top 63) f fd) : FnOk P w K mg base CX0 1 f fd ["web", "place"] (pureSp pNear) := by
  refine fn_pure F sc_near (fun ds r h => by obtain ⟨_, _, _, rfl, _⟩ := h; rfl) fun ds r h => ?_
  obtain ⟨W, p, ok, rfl, rfl⟩ := h
  have hm := ok.m
  have e : (W.ts.filter (onT p)).map (fun t => PyData.int ((t.1 : Int) + (t.2 : Int) - (p : Int))) = natsD (nearL W.ts p) := by
    unfold natsD nearL
    rw [List.map_map]
    refine List.map_congr_left fun t ht => ?_
    have hon := (List.mem_filter.mp ht).2
    have hlt := ok.lt t (List.mem_filter.mp ht).1
    unfold onT at hon
    show PyData.int _ = .int ((oth p t : Nat) : Int)
    congr 1
    unfold oth
    simp at hon
    split <;> omega
  refine ret (lc (xs := W.ts) (rep := tieD) (kf := onT p) (g := fun t => .int ((t.1 : Int) + (t.2 : Int) - (p : Int))) (own := [("tie", 2)]) (p := .nm 2)
    (lok (ig_tup (ge_ixT (v 0 rfl) ge_int .sh (d := .tuple (W.ts.map tieD)) rfl (pix (fun _ _ => rfl)))) (pg_nm rfl (.inl rfl)) rfl rfl rfl (fun _ _ => rfl))
    (fun t ht => ⟨_, rfl, gts_one ?_, fun _ => ge_bin (ge_bin (ge_ixT (v 2 rfl) ge_int .sh (d := .int (t.1 : Nat)) rfl (pix (fun _ _ => rfl))) (ge_ixT (v 2 rfl) ge_int .sh (d := .int (t.2 : Nat)) rfl (pix (fun _ _ => rfl))) og_add) (vc 1 rfl) og_sub⟩) (by omega) (ni_of rfl)) ?_
  · rw [← onT_any, ← any_nat]
    exact gt_cmp (vc 1 rfl) (v 2 rfl) (og_in (dss := natsD [t.1, t.2]) (.t .sh) (pl_all (k := 0) pl_nats) rfl (by simp [PyData.depth])) rfl
  · rw [e]
    exact .own .ol
/-! ### _law_given -/
def giveK (ts : List (Nat × Nat)) (n : Nat) (h r : List Int) : List Int := (List.range n).map fun i => h.getD i 0 - sumN n fun j => r.getD j 0 * tab ts i j
theorem giveK_eq {W : Wb} {h r : List Int} (hl : h.length = W.n) (hr : r.length = W.n) : giveK W.ts W.n h r = given W h r :=
  list_ext (n := W.n) (by simp [giveK]) (given_len hl) fun i hi => by rw [given_at hl hr hi]; unfold giveK; rw [getD_map hi]
theorem tab_app (a b : Nat) : ∀ (ts : List (Nat × Nat)) (i j : Nat), tab (ts ++ [(a, b)]) i j = tab ts i j + tab [(a, b)] i j
  | [], i, j => by rw [tab_nil, List.nil_append]; omega
  | (c, d) :: ts, i, j => by rw [List.cons_append, tab_cons, tab_app a b ts, tab_cons c d ts]; omega
theorem giveK_at {ts : List (Nat × Nat)} {n : Nat} {h r : List Int} {a b i : Nat} (hab : a ≠ b) (ha : a < n) (hb : b < n) (hi : i < n) :
    (giveK (ts ++ [(a, b)]) n h r).getD i 0 = (giveK ts n h r).getD i 0 + (if a = i then r.getD b 0 - r.getD a 0 else 0) + (if b = i then r.getD a 0 - r.getD b 0 else 0) := by
  unfold giveK
  rw [getD_map hi, getD_map hi]
  rw [sumN_congr (f := fun j => r.getD j 0 * tab (ts ++ [(a, b)]) i j) (g := fun j => r.getD j 0 * tab ts i j + ((if a = i then (if a = j then r.getD a 0 else 0) - (if b = j then r.getD b 0 else 0) else 0) + (if b = i then (if b = j then r.getD b 0 else 0) - (if a = j then r.getD a 0 else 0) else 0))) fun j hj => by
    rw [tab_app, tab_one hab, Int.mul_add]
    congr 1
    by_cases h1 : a = i <;> by_cases h2 : b = i <;> by_cases h3 : a = j <;> by_cases h4 : b = j <;> simp_all]
  rw [sumN_add, sumN_add, sumN_ite, sumN_ite, sumN_sub, sumN_sub, sumN_one ha, sumN_one hb]
  split <;> split <;> omega
def pLGiven (ds : List D) (r : D) : Prop := ∃ (W : Wb) (h q : List Int), W.Ok ∧ h.length = W.n ∧ q.length = W.n ∧ ds = [W.D, .list (h.map .int), .list (q.map .int)] ∧ r = hpD (given W h q)
theorem sc_lgiven : FnScope ["web", "heap", "row", "found", "a", "b"] ["web", "heap", "row"] (defScope (top 65)) := ⟨rfl, rfl, rfl, by decide +kernel, rfl, by decide +kernel, by decide +kernel⟩
theorem set2_eq {ts : List (Nat × Nat)} {n : Nat} {h r : List Int} {a b : Nat} (hab : a ≠ b) (ha : a < n) (hb : b < n) :
    (((giveK ts n h r).map PyData.int).set a (.int ((giveK ts n h r).getD a 0 - r.getD a 0 + r.getD b 0))).set b (.int ((giveK ts n h r).getD b 0 - r.getD b 0 + r.getD a 0)) = (giveK (ts ++ [(a, b)]) n h r).map .int := by
  have hl : ∀ ts, (giveK ts n h r).length = n := fun ts => by simp [giveK]
  rw [← List.map_set, ← List.map_set]
  congr 1
  refine list_ext (n := n) (by simp [hl]) (hl _) fun i hi => ?_
  rw [giveK_at hab ha hb hi]
  by_cases h2 : b = i
  · subst h2
    rw [List.getD_eq_getElem?_getD, List.getElem?_set_self (by simp [hl]; exact hb), if_neg hab, if_pos rfl]
    simp only [Option.getD_some]
    omega
  · rw [List.getD_eq_getElem?_getD, List.getElem?_set_ne h2]
    by_cases h1 : a = i
    · subst h1
      rw [List.getElem?_set_self (by simp [hl]; exact ha), if_pos rfl, if_neg h2]
      simp only [Option.getD_some]
      omega
    · rw [List.getElem?_set_ne h1, if_neg h1, if_neg h2, ← List.getD_eq_getElem?_getD]
      omega
theorem ok_lgiven (T : Txt mg) (F : Fun K "_law_given" "_law_given" (top 65) f fd) : FnOk P w K mg base CX0 1 f fd ["web", "heap", "row"] (pureSp pLGiven) := by
  refine fn_pure F sc_lgiven (fun ds r h => by obtain ⟨_, _, _, _, _, _, rfl, _⟩ := h; rfl) fun ds r h => ?_
  obtain ⟨W, h, q, ok, hl, hq, rfl, rfl⟩ := h
  have hgl : ∀ ts, (giveK ts W.n h q).length = W.n := fun ts => by simp [giveK]
  refine seq (asg 3 (ge_list rfl T.list (v 1 rfl) (.l .sh) (fun _ => rfl)) rfl rfl rfl (.inl rfl) (Nat.le_of_ble_eq_true rfl) (fun _ => rfl)) ?_
  refine gss_cons (Mid := fun Γ => ∃ sa sb, Γ = [.sh W.D, .sh (.list (h.map .int)), .sh (.list (q.map .int)), .ol ((giveK W.ts W.n h q).map .int), sa, sb])
    (gs_for (L := W.ts.map tieD) (p := .tp (.cons (.nm 4) (.cons (.nm 5) .nil))) (I := fun k Γ => ∃ sa sb, Γ = [.sh W.D, .sh (.list (h.map .int)), .sh (.list (q.map .int)), .ol ((giveK (W.ts.take k) W.n h q).map .int), sa, sb])
      (ig_tup (ge_ixT (v 0 rfl) ge_int .sh (d := .tuple (W.ts.map tieD)) rfl (pix (fun _ _ => rfl)))) (pg_tp (pgs_cn (pg_nm rfl (.inl rfl)) (pgs_cn (pg_nm rfl (.inl rfl)) pgs_nl (fun _ => rfl)) (fun _ => rfl)) (fun _ => rfl) (fun _ => rfl)) ⟨.no, .no, ?_⟩ ?_ ?_ (fun _ _ => rfl)) ?_
  · have : giveK [] W.n h q = h := list_ext (n := W.n) (hgl _) hl fun i hi => by
      unfold giveK
      rw [getD_map hi, sumN_congr (g := fun _ => 0) fun j _ => by rw [tab_nil]; simp, sumN_zero]
      omega
    rw [List.take_zero, this]
    rfl
  · rintro k Γ d ⟨sa, sb, rfl⟩ hd
    rw [List.getElem?_map] at hd
    cases ht : W.ts[k]? with
    | none => rw [ht] at hd; cases hd
    | some t =>
      rw [ht] at hd
      cases hd
      obtain ⟨a, b⟩ := t
      obtain ⟨hab, hbn⟩ := ok.lt _ (List.mem_of_getElem? ht)
      have hab : a < b := hab
      have hbn : b < W.n := hbn
      have han : a < W.n := by omega
      refine ⟨_, rfl, ?_⟩
      refine seq (gs_asgT (t2 (ge_bin (ge_bin (ge_ixL (bo 3 rfl) (v 4 rfl) (.bo rfl) (at_ints (by rw [hgl]; exact han)) (pix (fun _ _ => rfl))) (ge_ixL (v 2 rfl) (v 4 rfl) .sh (at_ints (by rw [hq]; exact han)) (pix (fun _ _ => rfl))) og_sub) (ge_ixL (v 2 rfl) (v 5 rfl) .sh (at_ints (by rw [hq]; exact hbn)) (pix (fun _ _ => rfl))) og_add)
        (ge_bin (ge_bin (ge_ixL (bo 3 rfl) (v 5 rfl) (.bo rfl) (at_ints (by rw [hgl]; exact hbn)) (pix (fun _ _ => rfl))) (ge_ixL (v 2 rfl) (v 5 rfl) .sh (at_ints (by rw [hq]; exact hbn)) (pix (fun _ _ => rfl))) og_sub) (ge_ixL (v 2 rfl) (v 4 rfl) .sh (at_ints (by rw [hq]; exact han)) (pix (fun _ _ => rfl))) og_add) (fun _ => rfl) (fun _ => rfl))
        (tg_tup (tz_cons (tg_sub (kn := a) (fun τ => bo 3 rfl) (fun τ => v 4 rfl) rfl (ixN_at (by simp [hgl]; exact han)) (fun _ _ => rfl)) (tz_cons (tg_sub (kn := b) (fun τ => bo 3 rfl) (fun τ => v 5 rfl) rfl (ixN_at (by simp [hgl]; exact hbn)) (fun _ _ => rfl)) tz_nil (fun _ => rfl)) (fun _ => rfl)) rfl (fun _ => rfl) (fun _ => rfl)) rfl (fun _ _ => rfl) (fun X _ => sw_sub2 X.env) (fun _ => rfl)) (gss_nil ⟨.sh (.int a), .sh (.int b), ?_⟩)
      rw [List.take_succ, ht]
      show _ = [_, _, _, Sl.ol ((giveK (W.ts.take k ++ [(a, b)]) W.n h q).map PyData.int), _, _]
      rw [← set2_eq (by omega) han hbn]
      rfl
  · rintro Γ ⟨sa, sb, rfl⟩
    refine ⟨sa, sb, ?_⟩
    rw [List.length_map, List.take_length]
  · rintro Γ ⟨sa, sb, rfl⟩
    exact ret (ge_tuple rfl T.tuple (bo 3 rfl) (.bo rfl) (fun _ => rfl)) (retS (by rw [giveK_eq hl hq]; rfl))
end K79
set_option maxHeartbeats 4000000
namespace K79
open PySem L2 Evl Lf
variable {P : Program} {w : World} {K : PySem.W.Frag} {mg : Str → Option Value} {base : Heap} {f : Addr} {fd : FuncData}
/-! ### _law_rounds -/
theorem adj_cons (t : Nat × Nat) (ts : List (Nat × Nat)) (i j : Nat) : adj (t :: ts) i j = adj [t] i j + adj ts i j := by
  unfold adj
  rw [List.countP_cons, List.countP_cons, List.countP_nil]
  omega
theorem adj_one {t : Nat × Nat} (h : t.1 ≠ t.2) (s far : Nat) (hsf : s ≠ far) : adj [t] s far = if onT s t = true ∧ oth s t = far then 1 else 0 := by
  obtain ⟨a, b⟩ := t
  unfold adj onT oth
  rw [List.countP_cons, List.countP_nil]
  have h : a ≠ b := h
  by_cases h1 : a = s <;> by_cases h2 : b = s <;> by_cases h3 : a = far <;> by_cases h4 : b = far <;> simp_all
theorem ind_sum {B : List Nat} (hB : B.Nodup) (x : Nat) : ((B.map fun far => if x = far then (1 : Int) else 0).sum) = if B.contains x then 1 else 0 := by
  induction B with
  | nil => rfl
  | cons a B ih =>
    obtain ⟨h1, h2⟩ := List.nodup_cons.mp hB
    rw [List.map_cons, List.sum_cons, ih h2]
    by_cases e : x = a
    · subst e
      simp [h1]
    · simp [e]
theorem map_sum_add {B : List Nat} {f g : Nat → Int} : (B.map fun i => f i + g i).sum = (B.map f).sum + (B.map g).sum := by
  induction B with
  | nil => rfl
  | cons a B ih => simp only [List.map_cons, List.sum_cons]; rw [ih]; omega
theorem map_sum_congr {B : List Nat} {f g : Nat → Int} (h : ∀ b, b ∈ B → f b = g b) : (B.map f).sum = (B.map g).sum := by
  rw [List.map_congr_left h]
theorem near_cnt {B : List Nat} (hB : B.Nodup) {s : Nat} (hs : s ∉ B) : ∀ {ts : List (Nat × Nat)}, (∀ t, t ∈ ts → t.1 < t.2) → ((((nearL ts s).filter fun far => B.contains far).length : Nat) : Int) = (B.map fun far => (adj ts s far : Int)).sum
  | [], _ => by
    have : (B.map fun far => (adj [] s far : Int)) = B.map fun _ => 0 := rfl
    rw [this, sum_zero fun _ _ => rfl]
    rfl
  | t :: ts, h => by
    have ih := near_cnt hB hs (ts := ts) fun u hu => h u (by simp [hu])
    have ht := h t (by simp)
    rw [map_sum_congr (f := fun far => (adj (t :: ts) s far : Int)) (g := fun far => (if onT s t = true ∧ oth s t = far then (1 : Int) else 0) + (adj ts s far : Int)) fun far hf => by
      rw [adj_cons, adj_one (by omega) s far fun z => hs (z ▸ hf)]
      split <;> omega, map_sum_add, ← ih]
    unfold nearL
    rw [List.filter_cons]
    cases hon : onT s t with
    | false =>
      simp only [Bool.false_eq_true, false_and, if_false]
      rw [sum_zero fun _ _ => rfl]
      omega
    | true =>
      rw [if_pos rfl, List.map_cons, List.filter_cons]
      simp only [true_and]
      rw [ind_sum hB]
      split
      · rw [List.length_cons]
        omega
      · omega
theorem ties_cnt {W : Wb} (ok : W.Ok) {B : List Nat} (hB : B.Nodup) {s : Nat} (hs : s ∉ B) : ((((nearL W.ts s).filter fun far => B.contains far).length : Nat) : Int) = tiesB W B s := by
  rw [near_cnt hB hs fun t ht => (ok.lt t ht).1]
  unfold tiesB
  rw [← sum_negmap]
  refine map_sum_congr fun far hf => ?_
  unfold tab
  have hne : ¬ s = far := fun z => hs (z ▸ hf)
  rw [if_neg hne]
  omega
def lfound (W : Wb) (h : List Int) (p : Nat) : Nat → List (List Nat)
  | 0 => [[p]]
  | k + 1 => if lateK W h p k = [] then lfound W h p k else lfound W h p k ++ [lateK W h p k]
theorem lfound_flat {W : Wb} {h : List Int} {p : Nat} : ∀ k, (lfound W h p k).flatten = burnB W h p k
  | 0 => rfl
  | k + 1 => by
    have ih := lfound_flat (W := W) (h := h) (p := p) k
    show (if lateK W h p k = [] then lfound W h p k else lfound W h p k ++ [lateK W h p k]).flatten = burnB W h p k ++ lateK W h p k
    split
    · rename_i e
      rw [e, List.append_nil, ih]
    · rw [List.flatten_append, ih]
      simp
theorem lfound_len {W : Wb} {h : List Int} {p : Nat} : ∀ k, (lfound W h p k).length ≤ k + 1
  | 0 => by simp [lfound]
  | k + 1 => by
    have := lfound_len (W := W) (h := h) (p := p) k
    unfold lfound
    split
    · omega
    · rw [List.length_append]; simp; omega
def pLRounds (ds : List D) (r : D) : Prop := ∃ (W : Wb) (h : List Int) (p : Nat), W.Ok ∧ h.length = W.n ∧ p < W.n ∧ ds = [W.D, .list (h.map .int), .int p] ∧ r = .list ((lfound W h p W.n).map lstD)
theorem sc_lrounds : FnScope ["web", "heap", "place", "found", "burning", "lap", "late", "far", "spot"] ["web", "heap", "place"] (defScope (top 66)) := ⟨rfl, rfl, rfl, by decide +kernel, rfl, by decide +kernel, by decide +kernel⟩
theorem ok_lrounds (T : Txt mg) (F : Fun K "_law_rounds" "_law_rounds" (top 66) f fd) (F1 : FnG P w K mg base "_law_near_to" 1 pNear) : FnOk P w K mg base CX0 2 f fd ["web", "heap", "place"] (pureSp pLRounds) := by
  refine fn_pure F sc_lrounds (fun ds r h => by obtain ⟨_, _, _, _, _, _, rfl, _⟩ := h; rfl) fun ds r h => ?_
  obtain ⟨W, h, p, ok, hl, hp, rfl, rfl⟩ := h
  have n6 := ok.n6
  have hm := ok.m
  refine seq (gs_par2 (i := 3) (j := 4) rfl rfl (by decide) (.inl rfl) (.inr ⟨rfl, rfl⟩) (ga_cons (l1 (ge_frz (l1 (v 2 rfl) (fun _ => rfl))) (fun _ => rfl)) (ga_cons (l1 (v 2 rfl) (fun _ => rfl)) ga_nil (fun _ => rfl)) (fun _ => rfl)) rfl rfl (Nat.le_of_ble_eq_true rfl) (Nat.le_of_ble_eq_true rfl) rfl (.inr (sw_at rfl))) ?_
  refine gss_cons (Mid := fun Γ => ∃ sl sm, Γ = [.sh W.D, .sh (.list (h.map .int)), .sh (.int p), .ol ((lfound W h p W.n).map lstD), .ol (natsD (burnB W h p W.n)), sl, sm, .no, .no])
    (gs_for (L := (List.range W.n).map fun i => .int (i : Nat)) (p := .nm 5) (I := fun k Γ => ∃ sl sm, Γ = [.sh W.D, .sh (.list (h.map .int)), .sh (.int p), .ol ((lfound W h p k).map lstD), .ol (natsD (burnB W h p k)), sl, sm, .no, .no])
      (IG.of (rg1_eq W.n) (ig_rg1 rfl T.range (ge_ixT (vc 0 rfl) ge_int .sh (d := .int W.n) rfl (pix (fun _ _ => rfl))) (by omega) (fun _ => rfl))) (pg_nm rfl (.inl rfl)) ⟨.no, .no, rfl⟩ ?_ ?_ (fun _ _ => rfl)) ?_
  · rintro k Γ d ⟨sl, sm, rfl⟩ hd
    rw [List.getElem?_map] at hd
    by_cases hk : k < W.n
    · rw [List.getElem?_range hk] at hd
      cases hd
      obtain ⟨b1, b2⟩ := burn_lt (h := h) hp k
      have hbl := nodup_le _ _ b1 b2
      refine ⟨_, rfl, ?_⟩
      refine seq (asgL (xs := List.range W.n) (rep := fun i => .int (i : Nat)) (kf := ctch W h (burnB W h p k)) (g := fun i => .int (i : Nat)) (own := [("spot", 8)]) (p := .nm 8) 6
        (lok (IG.of (rg1_eq W.n) (ig_rg1 rfl T.range (ge_ixT (vc 0 rfl) ge_int .sh (d := .int W.n) rfl (pix (fun _ _ => rfl))) (by omega) (fun _ => rfl))) (pg_nm rfl (.inl rfl)) rfl rfl rfl (fun _ _ => rfl))
        (fun s hs => ⟨_, rfl, gts_one ?_, fun _ => v 8 rfl⟩) (rl n6) rfl rfl rfl (Nat.le_of_ble_eq_true rfl) rfl rfl) ?_
      · have hs' := List.mem_range.mp hs
        have hc : ctch W h (burnB W h p k) s = (!(burnB W h p k).contains s && decide (h.getD s 0 < ((((nearL W.ts s).filter fun far => (burnB W h p k).contains far).length : Nat) : Int))) := by
          unfold ctch
          cases hb : (burnB W h p k).contains s with
          | true => rfl
          | false => rw [ties_cnt ok b1 (by simpa using hb)]
        rw [hc]
        refine gt_bool (gw_and ?_ fun _ => gw_and1 (gt_cmp (geq (ge_len rfl T.len (lc (xs := nearL W.ts s) (rep := fun i => .int (i : Nat)) (kf := fun far => (burnB W h p k).contains far) (g := fun i => .int (i : Nat)) (own := [("far", 7)]) (p := .nm 7)
          (lok (ig_list (c2 F1 (vc 0 rfl) (v 8 rfl) ⟨W, s, ok, rfl, rfl⟩ (Nat.le_of_ble_eq_true rfl) rfl rfl (fun _ => rfl) (fun _ => rfl) (fun _ => rfl))) (pg_nm rfl (.inl rfl)) rfl rfl rfl (fun _ _ => rfl)) (fun far hf => ⟨_, rfl, gts_one ?_, fun _ => v 7 rfl⟩) (by rw [near_len]; have := @cnt_le W.ts s; omega) (ni_of rfl)) (.l .ol) (fun _ => rfl))
          (d' := .int ((((nearL W.ts s).filter fun far => (burnB W h p k).contains far).length : Nat) : Int)) (by rw [List.length_map])) (ge_ixL (vc 1 rfl) (v 8 rfl) .sh (at_ints (by rw [hl]; exact hs')) (pix (fun _ _ => rfl))) og_gt rfl))
        · rw [← any_nat]
          exact gt_cmp (v 8 rfl) (boc 4 rfl) (og_notIn (.l (.bo rfl)) (pl_all (k := 0) pl_nats) rfl (by simp [PyData.depth])) rfl
        · rw [← any_nat]
          exact gt_cmp (v 7 rfl) (boc 4 rfl) (og_in (.l (.bo rfl)) (pl_all (k := 0) pl_nats) rfl (by simp [PyData.depth])) rfl
      · have hll := lateOf_len (W := W) (h := h) (B := burnB W h p k)
        have hfl := lfound_len (W := W) (h := h) (p := p) k
        refine gss_one (Γ1 := [.sh W.D, .sh (.list (h.map .int)), .sh (.int p), .ol ((lfound W h p (k + 1)).map lstD), .ol (natsD (burnB W h p (k + 1))), .sh (.int k), if lateK W h p k = [] then .ol [] else .sh (lstD (lateK W h p k)), .no, .no])
          (gs_if (k := !decide (lateK W h p k = [])) (by rw [← eqv_nil]; exact gt_cmp (bo 6 rfl) l0 (og_neL (.bo rfl) .ol (pl_shaped pl_lst (by decide)) (pl_shaped pl_nil (by decide))) rfl) (fun hz => ?_) (fun hz => ?_)) (gss_nil ⟨_, _, rfl⟩)
        · have hz' : ¬ lateK W h p k = [] := by simpa using hz
          refine seq (gs_par2 (i := 3) (j := 4) rfl rfl (by decide) (.inl rfl) (.inr ⟨rfl, rfl⟩) (ga_cons (ge_bin (bo 3 rfl) (l1 (ge_frzB (bo 6 rfl) rfl .ol (by simp)) (fun _ => rfl)) (og_catL (.bo rfl) .ol ?_)) (ga_cons (ge_bin (boc 4 rfl) (v 6 rfl) (og_catL (.bo rfl) .sh ?_)) ga_nil (fun _ => rfl)) (fun _ => rfl)) rfl rfl (Nat.le_of_ble_eq_true rfl) (Nat.le_of_ble_eq_true rfl) rfl (.inr (sw_at rfl))) (gss_nil ?_)
          · rw [List.length_map]
            simp
            omega
          · show (natsD (burnB W h p k)).length + (natsD (lateK W h p k)).length ≤ 100000
            rw [natsD_len, natsD_len]
            unfold lateK
            omega
          · have e1 : lfound W h p (k + 1) = lfound W h p k ++ [lateK W h p k] := if_neg hz'
            rw [if_neg hz', e1, List.map_append]
            show _ = [_, _, _, _, Sl.ol (natsD (burnB W h p k ++ lateK W h p k)), _, _, _, _]
            unfold natsD
            rw [List.map_append]
            rfl
        · have hz' : lateK W h p k = [] := by simpa using hz
          have e1 : lfound W h p (k + 1) = lfound W h p k := if_pos hz'
          have e2 : burnB W h p (k + 1) = burnB W h p k := by
            show burnB W h p k ++ lateK W h p k = _
            rw [hz', List.append_nil]
          refine gss_nil ?_
          rw [if_pos hz', e1, e2]
          show [_, _, _, _, _, _, Sl.ol (natsD (lateK W h p k)), _, _] = _
          rw [hz']
          rfl
    · rw [List.getElem?_eq_none (by simp; omega)] at hd
      cases hd
  · rintro Γ ⟨sl, sm, rfl⟩
    refine ⟨sl, sm, ?_⟩
    rw [List.length_map, List.length_range]
  · rintro Γ ⟨sl, sm, rfl⟩
    exact ret (bo 3 rfl) (.bo rfl .ol)
end K79
set_option maxHeartbeats 4000000
namespace K79
open PySem L2 Evl Lf
variable {P : Program} {w : World} {K : PySem.W.Frag} {mg : Str → Option Value} {base : Heap} {f : Addr} {fd : FuncData}
/-! ### _law_many_trees -/
/-- rows told as data that isn't changed -/
def rwD (m : Nat) (e : Nat → Nat → Int) : List D := (List.range m).map fun i => .list ((rowE m e i).map .int)
def ltE (k : Nat) (last : Int) (e : Nat → Nat → Int) : Nat → Nat → Int := fun s t => if k < s then (e k k * e s t - e s k * e k t).fdiv last else e s t
def ltS (m : Nat) (e : Nat → Nat → Int) : Nat → (Nat → Nat → Int) × Int
  | 0 => (e, 1)
  | k + 1 => (ltE k (ltS m e k).2 (ltS m e k).1, (ltS m e k).1 k k)
def treeE (W : Wb) : Nat → Nat → Int := fun s t => tab W.ts (s + 1) (t + 1)
structure LtOk (W : Wb) : Prop where
  nz : ∀ k, k < W.n - 1 → (ltS (W.n - 1) (treeE W) k).2 ≠ 0 ∧ (ltS (W.n - 1) (treeE W) k).2.natAbs < 1073741824
  bd : ∀ k, k < W.n - 1 → Bnd (2 ^ 64) (W.n - 1) (ltS (W.n - 1) (treeE W) k).1
def treesL (W : Wb) : Int := (ltS (W.n - 1) (treeE W) (W.n - 1)).2
def pTrees (ds : List D) (r : D) : Prop := ∃ W : Wb, W.Ok ∧ 2 ≤ W.n ∧ LtOk W ∧ ds = [W.D] ∧ r = .int (treesL W)
theorem sc_trees : FnScope ["web", "size", "last", "rows", "at", "spot", "head", "one", "other", "own", "top"] ["web"] (defScope (top 68)) := ⟨rfl, rfl, rfl, by decide +kernel, rfl, by decide +kernel, by decide +kernel⟩
theorem rw_congr {m : Nat} {e e' : Nat → Nat → Int} (h : ∀ s t, s < m → t < m → e s t = e' s t) : rwD m e = rwD m e' := by
  unfold rwD rowE
  refine List.map_congr_left fun i hi => ?_
  rw [List.map_congr_left fun j hj => h i j (List.mem_range.mp hi) (List.mem_range.mp hj)]
theorem rw_at {m : Nat} {e : Nat → Nat → Int} {s : Nat} (hs : s < m) : atI (rwD m e) (s : Int) = some (.list ((rowE m e s).map .int)) := at_range hs
theorem rowE_at {m : Nat} {e : Nat → Nat → Int} {s t : Nat} (ht : t < m) : atI ((rowE m e s).map PyData.int) (t : Int) = some (.int (e s t)) := by
  unfold rowE
  rw [List.map_map]
  exact at_range (g := fun t => PyData.int (e s t)) ht
theorem near_count {W : Wb} (ok : W.Ok) {s t : Nat} (hst : s ≠ t) : (nearL W.ts s).count t = adj W.ts s t := by
  have key : ∀ ts : List (Nat × Nat), (∀ u, u ∈ ts → u.1 < u.2) → (nearL ts s).count t = adj ts s t := by
    intro ts
    induction ts with
    | nil => intro _; rfl
    | cons u ts ih =>
      intro h
      have ih := ih fun u hu => h u (by simp [hu])
      have hu := h u (by simp)
      rw [adj_cons, adj_one (by omega) s t hst, ← ih]
      unfold nearL
      rw [List.filter_cons]
      cases hon : onT s u with
      | false => simp
      | true =>
        rw [if_pos rfl, List.map_cons, List.count_cons]
        simp only [true_and]
        by_cases e : oth s u = t <;> simp [e] <;> omega
  exact key W.ts fun u hu => (ok.lt u hu).1
theorem rng1n (n : Nat) (h : 1 ≤ n) : rgD 1 1 (Int.toNat ((n : Int) - 1)) = (List.range (n - 1)).map fun i => .int ((i + 1 : Nat) : Int) := by
  unfold rgD
  rw [show Int.toNat ((n : Int) - 1) = n - 1 by omega]
  refine List.map_congr_left fun i _ => ?_
  congr 1
  omega
theorem natsD_ints (A : List Nat) : natsD A = (A.map fun (i : Nat) => (i : Int)).map .int := by unfold natsD; rw [List.map_map]; rfl
theorem count_ints (A : List Nat) (t : Nat) : (A.map fun (i : Nat) => (i : Int)).count (t : Int) = A.count t := by
  induction A with
  | nil => rfl
  | cons a A ih =>
    rw [List.map_cons, List.count_cons, List.count_cons, ih]
    by_cases h : a = t
    · simp [h]
    · have : ¬ (a : Int) = (t : Int) := by omega
      simp [h, this]
theorem ok_trees (T : Txt mg) (F : Fun K "_law_many_trees" "_law_many_trees" (top 68) f fd) (F1 : FnG P w K mg base "_law_near_to" 1 pNear) : FnOk P w K mg base CX0 2 f fd ["web"] (pureSp pTrees) := by
  refine fn_pure F sc_trees (fun ds r h => by obtain ⟨_, _, _, _, rfl, _⟩ := h; rfl) fun ds r h => ?_
  obtain ⟨W, ok, n2, lt, rfl, rfl⟩ := h
  have n6 := ok.n6
  have e0 : ((W.n : Int) - 1) = ((W.n - 1 : Nat) : Int) := by omega
  generalize hm : W.n - 1 = m at lt e0
  refine seq (gs_par2 (i := 1) (j := 2) rfl rfl (by decide) (.inl rfl) (.inr ⟨rfl, rfl⟩) (ga_cons (geq (ge_bin (ge_ixT (vc 0 rfl) ge_int .sh (d := .int W.n) rfl (pix (fun _ _ => rfl))) ge_int og_sub) (congrArg PyData.int e0)) (ga_cons ge_int ga_nil (fun _ => rfl)) (fun _ => rfl)) rfl rfl (Nat.le_of_ble_eq_true rfl) (Nat.le_of_ble_eq_true rfl) rfl (.inr (sw_at rfl))) ?_
  have hrl : (List.range m).length < 100000 := by rw [List.length_range]; omega
  have hr1 : rgD 1 1 (Int.toNat ((W.n : Int) - 1)) = (List.range m).map fun i => .int ((i + 1 : Nat) : Int) := by rw [← hm]; exact rng1n W.n (by omega)
  refine seq (asgC 3 (lcA (xs := List.range m) (rep := fun i => .int ((i + 1 : Nat) : Int)) (g := fun s => .list ((rowE m (treeE W) s).map .int)) (own := [("one", 7)]) (p := .nm 7)
    (lok (IG.of hr1 (ig_rg2 rfl T.range ge_int (ge_ixT (vc 0 rfl) ge_int .sh (d := .int W.n) rfl (pix (fun _ _ => rfl))) (by omega) (fun _ => rfl) (fun _ => rfl))) (pg_nm rfl (.inr ⟨rfl, rfl⟩)) rfl rfl rfl (fun _ _ => rfl))
    (fun s hs => ⟨_, rfl, geq (ge_frz (lcA (xs := List.range m) (rep := fun i => .int ((i + 1 : Nat) : Int)) (g := fun t => .int (treeE W s t)) (own := [("other", 8)]) (p := .nm 8)
      (lok (IG.of hr1 (ig_rg2 rfl T.range ge_int (ge_ixT (vc 0 rfl) ge_int .sh (d := .int W.n) rfl (pix (fun _ _ => rfl))) (by omega) (fun _ => rfl) (fun _ => rfl))) (pg_nm rfl (.inl rfl)) rfl rfl rfl (fun _ _ => rfl))
      (fun t ht => ⟨_, rfl, geq (ge_ifI (i := (deg W.ts (s + 1) : Int)) (j := -(adj W.ts (s + 1) (t + 1) : Int)) (gt_cmp (vc 7 rfl) (v 8 rfl) og_eqN rfl)
        (fun _ => geq (ge_len rfl T.len (c2 F1 (vc 0 rfl) (vc 7 rfl) ⟨W, s + 1, ok, rfl, rfl⟩ (Nat.le_of_ble_eq_true rfl) rfl rfl (fun _ => rfl) (fun _ => rfl) (fun _ => rfl)) (.l .sh) (fun _ => rfl)) (by rw [natsD_len, near_len]))
        (fun hk => geq (ge_bin ge_int (ge_count (ns := (nearL W.ts (s + 1)).map fun (i : Nat) => (i : Int)) (geq (c2 F1 (vc 0 rfl) (vc 7 rfl) ⟨W, s + 1, ok, rfl, rfl⟩ (Nat.le_of_ble_eq_true rfl) rfl rfl (fun _ => rfl) (fun _ => rfl) (fun _ => rfl)) (by rw [← natsD_ints]; rfl)) (v 8 rfl) (fun _ _ => rfl) rfl (fun _ => rfl)) og_sub) (by have hne : s + 1 ≠ t + 1 := of_decide_eq_false hk; rw [count_ints, near_count ok hne]; simp))) ?_⟩) hrl (ni_of rfl))) ?_⟩) hrl (ni_of rfl)) rfl rfl rfl rfl rfl (Nat.le_of_ble_eq_true rfl)) ?_
  · unfold treeE tab
    by_cases h : s + 1 = t + 1 <;> simp [h]
  · unfold rowE
    rw [List.map_map]
    rfl
  · have eI : (List.range m).map (fun s => PyData.list ((rowE m (treeE W) s).map .int)) = rwD m (ltS m (treeE W) 0).1 := rfl
    rw [eI]
    refine gss_cons (Mid := fun Γ => ∃ s4 s5 s6, Γ = [.sh W.D, .sh (.int m), .sh (.int (ltS m (treeE W) m).2), .ol (rwD m (ltS m (treeE W) m).1), s4, s5, s6, .no, .no, .no, .no])
      (gs_for (L := (List.range m).map fun i => .int (i : Nat)) (p := .nm 4) (I := fun k Γ => ∃ s4 s5 s6, Γ = [.sh W.D, .sh (.int m), .sh (.int (ltS m (treeE W) k).2), .ol (rwD m (ltS m (treeE W) k).1), s4, s5, s6, .no, .no, .no, .no])
        (IG.of (rg1_eq m) (ig_rg1 rfl T.range (v 1 rfl) (by omega) (fun _ => rfl))) (pg_nm rfl (.inr ⟨rfl, rfl⟩)) ⟨.no, .no, .no, rfl⟩ ?_ ?_ (fun _ _ => rfl)) ?_
    · rintro k Γ d ⟨s4, s5, s6, rfl⟩ hd
      rw [List.getElem?_map] at hd
      by_cases hk : k < m
      · rw [List.getElem?_range hk] at hd
        cases hd
        obtain ⟨hz1, hz2⟩ := lt.nz k (by rw [hm]; exact hk)
        have hb := lt.bd k (by rw [hm]; exact hk)
        rw [hm] at hz1 hz2 hb
        have hS : ltS m (treeE W) (k + 1) = (ltE k (ltS m (treeE W) k).2 (ltS m (treeE W) k).1, (ltS m (treeE W) k).1 k k) := rfl
        rw [hS]
        generalize ltS m (treeE W) k = st at hz1 hz2 hb
        obtain ⟨e, last⟩ := st
        have hnat : ∀ x : Nat, ((x : Int) + 1) = ((x + 1 : Nat) : Int) := fun x => by omega
        have hrw : ∀ e, (rwD m e).length = m := fun e => by unfold rwD; simp
        let pr : Nat → Nat → Nat → Int := fun j s t => if k < s ∧ s < k + 1 + j then (e k k * e s t - e s k * e k t).fdiv last else e s t
        refine ⟨_, rfl, ?_⟩
        refine gss_cons (Mid := fun Γ => ∃ s5 s6, Γ = [.sh W.D, .sh (.int m), .sh (.int last), .ol (rwD m (ltE k last e)), .sh (.int k), s5, s6, .no, .no, .no, .no])
          (gs_for (L := (rngF (k + 1) m).map fun i => .int (i : Nat)) (p := .nm 5) (I := fun j Γ => ∃ s5 s6, Γ = [.sh W.D, .sh (.int m), .sh (.int last), .ol (rwD m (pr j)), .sh (.int k), s5, s6, .no, .no, .no, .no])
            (IG.of (rng2_eq (k + 1) m (by omega)) (ig_rg2 rfl T.range (geq (d' := .int ((k + 1 : Nat) : Int)) (ge_bin (vc 4 rfl) ge_int og_add) (congrArg PyData.int (hnat k))) (v 1 rfl) (by omega) (fun _ => rfl) (fun _ => rfl))) (pg_nm rfl (.inl rfl)) ⟨s5, s6, ?_⟩ ?_ ?_ (fun _ _ => rfl)) ?_
        · rw [rw_congr (e := pr 0) (e' := e) fun s t _ _ => by show (if _ then _ else _) = _; rw [if_neg (by omega)]]
          rfl
        · rintro j Γ d ⟨s5, s6, rfl⟩ hd
          unfold rngF at hd
          rw [List.getElem?_map, List.getElem?_map] at hd
          by_cases hj : j < m - (k + 1)
          · rw [List.getElem?_range hj] at hd
            cases hd
            have hjm : k + 1 + j < m := by omega
            have q1 : ∀ t, pr j k t = e k t := fun t => if_neg (by omega)
            have q2 : ∀ t, pr j (k + 1 + j) t = e (k + 1 + j) t := fun t => if_neg (by omega)
            refine ⟨_, rfl, ?_⟩
            refine seq (asgC 6 (geq (ge_ixL (ge_ixL (boc 3 rfl) (v 5 rfl) (.bo rfl) (rw_at hjm) (pix (fun _ _ => rfl))) (vc 4 rfl) .sh (rowE_at hk) (pix (fun _ _ => rfl))) (congrArg PyData.int (q2 k))) rfl rfl rfl rfl rfl (Nat.le_of_ble_eq_true rfl)) ?_
            refine seq (gs_asgT (geq (d' := .list ((rowE m (pr (j + 1)) (k + 1 + j)).map .int)) (ge_frz (lcA (xs := (rowE m (pr j) (k + 1 + j)).zip (rowE m (pr j) k)) (rep := fun x => .tuple [.int x.1, .int x.2]) (g := fun x => .int ((e k k * x.1 - e (k + 1 + j) k * x.2).fdiv last)) (own := [("own", 9), ("top", 10)]) (p := .tp (.cons (.nm 9) (.cons (.nm 10) .nil)))
              (lok (IG.of (zp_ints _ _) (ig_zpL rfl T.zip (ge_ixL (boc 3 rfl) (v 5 rfl) (.bo rfl) (rw_at hjm) (pix (fun _ _ => rfl))) (ge_ixL (boc 3 rfl) (vc 4 rfl) (.bo rfl) (rw_at hk) (pix (fun _ _ => rfl))) (fun _ => rfl) (fun _ => rfl))) (pg_tp (pgs_cn (pg_nm rfl (.inl rfl)) (pgs_cn (pg_nm rfl (.inl rfl)) pgs_nl (fun _ => rfl)) (fun _ => rfl)) (fun _ => rfl) (fun _ => rfl)) rfl rfl rfl (fun _ _ => rfl))
              (fun x hx => ⟨_, rfl, ge_bin (ge_bin (ge_bin (geq (ge_ixL (ge_ixL (boc 3 rfl) (vc 4 rfl) (.bo rfl) (rw_at hk) (pix (fun _ _ => rfl))) (vc 4 rfl) .sh (rowE_at hk) (pix (fun _ _ => rfl))) (congrArg PyData.int (q1 k))) (v 9 rfl) (og_mul (.inl (hb k k hk hk)))) (ge_bin (vc 6 rfl) (v 10 rfl) (og_mul (.inl (hb _ _ hjm hk)))) og_sub) (vc 2 rfl) (og_fdiv ⟨hz1, hz2⟩)⟩) (by unfold rowE; simp; omega) (ni_of rfl))) ?_)
              (tg_sub (kn := k + 1 + j) (fun τ => boc 3 rfl) (fun τ => v 5 rfl) rfl (ixN_at (by rw [hrw]; exact hjm)) (fun _ _ => rfl)) rfl (fun _ _ => rfl) (fun _ _ => rfl) (fun _ => rfl)) (gss_nil ⟨.sh (.int ((k + 1 + j : Nat) : Int)), .sh (.int (e (k + 1 + j) k)), ?_⟩)
            · congr 1
              unfold rowE
              rw [List.map_map]
              refine List.ext_getElem? fun t => ?_
              by_cases ht : t < m
              · rw [List.getElem?_map, List.getElem?_map, List.getElem?_range ht, List.getElem?_eq_getElem (by simp; omega)]
                simp only [List.getElem_zip, List.getElem_map, List.getElem_range, Option.map_some]
                show some (PyData.int _) = some (PyData.int (if _ then _ else _))
                rw [q1, q2, if_pos (by omega)]
              · rw [List.getElem?_eq_none (by simp; omega), List.getElem?_eq_none (by simp; omega)]
            · have e1 : (rwD m (pr j)).set (k + 1 + j) (.list ((rowE m (pr (j + 1)) (k + 1 + j)).map .int)) = rwD m (pr (j + 1)) := by
                refine List.ext_getElem? fun s => ?_
                by_cases h1 : k + 1 + j = s
                · subst h1
                  rw [List.getElem?_set_self (by rw [hrw]; exact hjm)]
                  unfold rwD
                  rw [List.getElem?_map, List.getElem?_range hjm]
                  rfl
                · rw [List.getElem?_set_ne h1]
                  unfold rwD
                  rw [List.getElem?_map, List.getElem?_map]
                  cases hs : (List.range m)[s]? with
                  | none => rfl
                  | some s' =>
                    obtain ⟨h2, h3⟩ := List.getElem?_eq_some_iff.mp hs
                    simp at h3
                    subst h3
                    show some (PyData.list _) = some (PyData.list _)
                    congr 3
                    unfold rowE
                    refine List.map_congr_left fun t _ => ?_
                    show (if _ then _ else _) = (if _ then _ else _)
                    by_cases h4 : k < s ∧ s < k + 1 + j
                    · rw [if_pos h4, if_pos (by omega)]
                    · rw [if_neg h4, if_neg (by omega)]
              rw [← e1]
              rfl
          · rw [List.getElem?_eq_none (by simp; omega)] at hd
            cases hd
        · rintro Γ ⟨s5, s6, rfl⟩
          refine ⟨s5, s6, ?_⟩
          unfold rngF
          rw [List.length_map, List.length_map, List.length_range, rw_congr (e := pr (m - (k + 1))) (e' := ltE k last e) fun s t hs ht => by
            show (if _ then _ else _) = (if _ then _ else _)
            by_cases h4 : k < s
            · rw [if_pos (by omega), if_pos h4]
            · rw [if_neg (by omega), if_neg h4]]
        · rintro Γ ⟨s5, s6, rfl⟩
          have q1 : ltE k last e k k = e k k := if_neg (by omega)
          exact seq (asgC 2 (geq (ge_ixL (ge_ixL (boc 3 rfl) (vc 4 rfl) (.bo rfl) (rw_at hk) (pix (fun _ _ => rfl))) (vc 4 rfl) .sh (rowE_at hk) (pix (fun _ _ => rfl))) (congrArg PyData.int q1)) rfl rfl rfl rfl rfl (Nat.le_of_ble_eq_true rfl)) (gss_nil ⟨_, s5, s6, rfl⟩)
      · rw [List.getElem?_eq_none (by simp; omega)] at hd
        cases hd
    · rintro Γ ⟨s4, s5, s6, rfl⟩
      refine ⟨s4, s5, s6, ?_⟩
      rw [List.length_map, List.length_range]
    · rintro Γ ⟨s4, s5, s6, rfl⟩
      refine ret (vc 2 rfl) (retS ?_)
      unfold treesL
      rw [hm]
end K79
set_option maxHeartbeats 4000000
namespace K79
open PySem L2 Evl Lf
variable {P : Program} {w : World} {K : PySem.W.Frag} {mg : Str → Option Value} {base : Heap} {f : Addr} {fd : FuncData}
/-! ### _law_reduced, _law_alike -/
def pLUnburnt (ds : List D) (r : D) : Prop := ∃ (W : Wb) (h : List Int) (p : Nat), W.Ok ∧ h.length = W.n ∧ p < W.n ∧ ds = [W.D, .list (h.map .int), .int p] ∧ r = lstD (unb W h p)
def modF (W : Wb) (h : List Int) : List Int := h.map fun x => x.fmod (treesL W)
def startF (W : Wb) (h : List Int) (p : Nat) : List Int := (modF W h).set p (h.sum - (modF W h).sum + (modF W h).getD p 0)
structure LawOk (W : Wb) (p : Nat) : Prop where
  lt : LtOk W
  pos : 0 < treesL W
  pt : ∃ φ, Pot W p φ
def preLRed (ds : List D) : Prop := ∃ (W : Wb) (h : List Int) (p : Nat), W.Fit ∧ h.length = W.n ∧ p < W.n ∧ LawOk W p ∧ ds = [W.D, hpD h, .int p]
def postLRed (ds : List D) (r : D) : Prop := ∃ (W : Wb) (h : List Int) (p : Nat) (g : List Int), ds = [W.D, hpD h, .int p] ∧ Red W p g ∧ Eqv W (startF W h p) g ∧ r = hpD g
def pLRed (ds : List D) (r : D) : Prop := ∃ (W : Wb) (h : List Int) (p : Nat) (g : List Int), W.Fit ∧ h.length = W.n ∧ p < W.n ∧ LawOk W p ∧ Red W p g ∧ Eqv W (startF W h p) g ∧ ds = [W.D, hpD h, .int p] ∧ r = hpD g
theorem sc_lred : FnScope ["web", "heap", "place", "many", "found", "lot", "number", "spot"] ["web", "heap", "place"] (defScope (top 69)) := ⟨rfl, rfl, rfl, by decide +kernel, rfl, by decide +kernel, by decide +kernel⟩
theorem startF_len {W : Wb} {h : List Int} {p : Nat} (hl : h.length = W.n) : (startF W h p).length = W.n := by unfold startF modF; simp [hl]
theorem startF_nn {W : Wb} {h : List Int} {p : Nat} (hl : h.length = W.n) (hpos : 0 < treesL W) : ∀ i, i < W.n → i ≠ p → 0 ≤ (startF W h p).getD i 0 := fun i hi hip => by
  unfold startF
  rw [List.getD_eq_getElem?_getD, List.getElem?_set_ne (Ne.symm hip)]
  unfold modF
  rw [List.getElem?_map, List.getElem?_eq_getElem (by omega)]
  exact Int.fmod_nonneg_of_pos _ hpos
theorem ok_lred (T : Txt mg) (F : Fun K "_law_reduced" "_law_reduced" (top 69) f fd) (F1 : FnG P w K mg base "_law_many_trees" 2 pTrees) (F2 : FnG P w K mg base "_law_unburnt" 3 pLUnburnt) (F3 : FnG P w K mg base "_law_given" 1 pLGiven) : FnOk P w K mg base CX0 4 f fd ["web", "heap", "place"] (relSp preLRed postLRed) := by
  refine fn_rel F sc_lred (fun ds h => by obtain ⟨_, _, _, _, _, _, _, rfl⟩ := h; rfl) fun ds h => ?_
  obtain ⟨W, h, p, fit, hl, hp, lw, rfl⟩ := h
  obtain ⟨φ, pt⟩ := lw.pt
  have n6 := fit.ok.n6
  have hml : (modF W h).length = W.n := by unfold modF; simp [hl]
  refine seq (asgC 3 (c1 F1 (v 0 rfl) ⟨W, fit.ok, fit.n2, lw.lt, rfl, rfl⟩ (Nat.le_of_ble_eq_true rfl) rfl rfl (fun _ => rfl)) rfl rfl rfl rfl rfl (Nat.le_of_ble_eq_true rfl)) ?_
  refine seq (asgA (xs := h) (rep := .int) (g := fun x => .int (x.fmod (treesL W))) (own := [("number", 6)]) (p := .nm 6) 4
    (lok (ig_tup (v 1 rfl)) (pg_nm rfl (.inl rfl)) rfl rfl rfl (fun _ _ => rfl)) (fun x hx => ⟨_, rfl, ge_bin (ge_intI rfl T.int (v 6 rfl) (fun _ => rfl)) (vc 3 rfl) (og_mod (by have := lw.pos; omega))⟩) (by omega) rfl rfl rfl (Nat.le_of_ble_eq_true rfl) rfl rfl) ?_
  have e0 : h.map (fun x => PyData.int (x.fmod (treesL W))) = (modF W h).map .int := by unfold modF; rw [List.map_map]; rfl
  rw [e0]
  refine seq (gs_asgT (ge_bin (ge_bin (ge_sumH rfl T.sum (v 1 rfl) (.t .sh) (fun _ => rfl)) (ge_sumH rfl T.sum (bo 4 rfl) (.l (.bo rfl)) (fun _ => rfl)) og_sub) (ge_ixL (bo 4 rfl) (v 2 rfl) (.bo rfl) (at_ints (by rw [hml]; exact hp)) (pix (fun _ _ => rfl))) og_add) (tg_sub (kn := p) (fun τ => bo 4 rfl) (fun τ => v 2 rfl) rfl (ixN_at (by simp [hml]; exact hp)) (fun _ _ => rfl)) rfl (fun _ _ => rfl) (fun _ _ => rfl) (fun _ => rfl)) ?_
  have e1 : ((modF W h).map PyData.int).set p (.int (h.sum - (modF W h).sum + (modF W h).getD p 0)) = (startF W h p).map .int := by unfold startF; rw [List.map_set]
  rw [e1]
  have hsl := startF_len (p := p) hl
  refine seq (asgC 5 (c3 F2 (v 0 rfl) (ge_frzB (bo 4 rfl) rfl .ol (by simp [sto])) (v 2 rfl) ⟨W, startF W h p, p, fit.ok, hsl, hp, rfl, rfl⟩ (Nat.le_of_ble_eq_true rfl) rfl rfl (fun _ => rfl) (fun _ => rfl) (fun _ => rfl) (fun _ => rfl)) rfl rfl rfl rfl rfl (Nat.le_of_ble_eq_true rfl)) ?_
  refine gss_cons (Mid := fun Γ => ∃ g : List Int, Red W p g ∧ Eqv W (startF W h p) g ∧ Γ = [.sh W.D, .sh (hpD h), .sh (.int p), .sh (.int (treesL W)), .sh (.list (g.map .int)), .sh (lstD (unb W g p)), .no, .no])
    (gs_while (I := fun M Γ => ∃ g : List Int, (g.length = W.n ∧ Eqv W (startF W h p) g ∧ ∀ i, i < W.n → i ≠ p → 0 ≤ g.getD i 0) ∧ M = (pot W φ g).toNat ∧ Γ = [.sh W.D, .sh (hpD h), .sh (.int p), .sh (.int (treesL W)), .sh (.list (g.map .int)), .sh (lstD (unb W g p)), .no, .no]) ⟨_, startF W h p, ⟨hsl, eqv_refl hsl, startF_nn hl lw.pos⟩, rfl, rfl⟩ ?_) ?_
  · rintro M Γ ⟨g, ⟨lg, eg, nn⟩, rfl, rfl⟩
    refine ⟨!decide (unb W g p = []), _, by rw [← eqv_nil]; exact gt_cmp (vc 5 rfl) l0 (og_neL .sh .ol (pl_shaped pl_lst (by decide)) (pl_shaped pl_nil (by decide))) rfl, fun hk => ?_, fun hk => ?_⟩
    · have hne : unb W g p ≠ [] := by simpa using hk
      have hro : (rowOf W.n (unb W g p)).length = W.n := rowOf_len
      refine seq (asg 4 (ge_list rfl T.list (c3 F3 (v 0 rfl) (v 4 rfl) (geq (d' := .list ((rowOf W.n (unb W g p)).map .int)) (ge_frz (lcA (xs := List.range W.n) (rep := fun i => .int (i : Nat)) (g := fun i => .int (if (unb W g p).contains i then 1 else 0)) (own := [("spot", 7)]) (p := .nm 7)
        (lok (IG.of (rg1_eq W.n) (ig_rg1 rfl T.range (ge_ixT (v 0 rfl) ge_int .sh (d := .int W.n) rfl (pix (fun _ _ => rfl))) (by omega) (fun _ => rfl))) (pg_nm rfl (.inl rfl)) rfl rfl rfl (fun _ _ => rfl)) (fun x hx => ⟨_, rfl, ?_⟩) (rl n6) (ni_of rfl))) ?_) ⟨W, g, _, fit.ok, lg, hro, rfl, rfl⟩ (Nat.le_of_ble_eq_true rfl) rfl rfl (fun _ => rfl) (fun _ => rfl) (fun _ => rfl) (fun _ => rfl)) (.t .sh) (fun _ => rfl)) rfl rfl rfl (.inl rfl) (Nat.le_of_ble_eq_true rfl) (fun _ => rfl)) ?_
      · rw [← any_nat]
        exact ge_intB rfl T.int (ge_cmp (v 7 rfl) (vc 5 rfl) (og_in (dss := natsD (unb W g p)) (.l .sh) (pl_all (k := 0) pl_nats) rfl (by simp [PyData.depth])) rfl) (fun _ => rfl)
      · unfold rowOf
        rw [List.map_map]
        rfl
      · refine seq (asgC 5 (c3 F2 (v 0 rfl) (ge_frzB (bo 4 rfl) rfl .ol (by simp [sto])) (v 2 rfl) ⟨W, given W g (rowOf W.n (unb W g p)), p, fit.ok, given_len lg, hp, rfl, rfl⟩ (Nat.le_of_ble_eq_true rfl) rfl rfl (fun _ => rfl) (fun _ => rfl) (fun _ => rfl) (fun _ => rfl)) rfl rfl rfl rfl rfl (Nat.le_of_ble_eq_true rfl)) (gss_nil ?_)
        refine ⟨_, ?_, given W g (rowOf W.n (unb W g p)), ⟨given_len lg, eqv_step hsl hro eg, unb_fire fit.ok lg hp nn⟩, rfl, rfl⟩
        have h1 := unb_pot lg hp pt hne
        have h2 := pot_nn pt (unb_fire fit.ok lg hp nn)
        omega
    · exact ⟨g, ⟨lg, nn, by simpa using hk⟩, eg, rfl⟩
  · rintro Γ ⟨g, rd, eg, rfl⟩
    exact ret (ge_tuple rfl T.tuple (v 4 rfl) .sh (fun _ => rfl)) ⟨_, .sh, W, h, p, g, rfl, rd, eg, rfl⟩
theorem ok_lred_sole (uniq : ∀ (W : Wb) (p : Nat) (h g g' : List Int), W.Fit → p < W.n → h.length = W.n → Red W p g → Red W p g' → Eqv W h g → Eqv W h g' → g = g') (F : FnOk P w K mg base CX0 4 f fd ["web", "heap", "place"] (relSp preLRed postLRed)) : FnOk P w K mg base CX0 4 f fd ["web", "heap", "place"] (pureSp pLRed) := by
  refine fn_sole F ?_
  rintro ds r ⟨W, h, p, g, fit, hl, hp, lw, rd, eg, rfl, rfl⟩
  refine ⟨⟨W, h, p, fit, hl, hp, lw, rfl⟩, ?_⟩
  rintro r' ⟨V, k, p', g', e, rd', eg', rfl⟩
  obtain ⟨rfl, rfl, rfl⟩ := args_inj e
  rw [uniq W p _ g' g fit hp (startF_len hl) rd' rd eg' eg]
def pLAlike (ds : List D) (r : D) : Prop := ∃ (W : Wb) (a b g : List Int), W.Fit ∧ a.length = W.n ∧ b.length = W.n ∧ a.sum = b.sum ∧ LawOk W 0 ∧ Red W 0 g ∧ Eqv W (startF W a 0) g ∧ Eqv W (startF W b 0) g ∧ ds = [W.D, hpD a, hpD b] ∧ r = .bool true
end K79
set_option maxHeartbeats 4000000
namespace K79
/-! ### sorted lists -/
theorem leH_perm {A B : List (List Int)} (h : A.Perm B) : A.mergeSort leH = B.mergeSort leH := by
  have tr : ∀ a b c : List Int, leH a b → leH b c → leH a c := fun a b c h1 h2 => by
    unfold leH at *
    exact decide_eq_true (List.le_trans (of_decide_eq_true h1) (of_decide_eq_true h2))
  have to : ∀ a b : List Int, leH a b || leH b a := fun a b => by
    unfold leH
    rcases List.le_total a b with z | z <;> simp [z]
  refine List.Perm.eq_of_pairwise (le := fun a b => leH a b = true) (fun a b _ _ h1 h2 => ?_) (List.pairwise_mergeSort tr to A) (List.pairwise_mergeSort tr to B) ?_
  · unfold leH at *
    exact List.le_antisymm (of_decide_eq_true h1) (of_decide_eq_true h2)
  · exact (List.mergeSort_perm A leH).trans (h.trans (List.mergeSort_perm B leH).symm)
/-- two lists with nothing twice and the same things in them -/
theorem perm_nodup {α : Type} [DecidableEq α] : ∀ {A B : List α}, A.Nodup → B.Nodup → (∀ x, x ∈ A ↔ x ∈ B) → A.Perm B := by
  intro A B ha hb h
  rw [List.perm_iff_count]
  intro x
  by_cases z : x ∈ A
  · have h1 := List.nodup_iff_count.mp ha x
    have h2 := List.nodup_iff_count.mp hb x
    have h3 := List.count_pos_iff.mpr z
    have h4 := List.count_pos_iff.mpr ((h x).mp z)
    omega
  · rw [List.count_eq_zero_of_not_mem z, List.count_eq_zero_of_not_mem fun y => z ((h x).mpr y)]
theorem leH_nodup {A B : List (List Int)} (ha : A.Nodup) (hb : B.Nodup) (h : ∀ x, x ∈ A ↔ x ∈ B) : A.mergeSort leH = B.mergeSort leH := leH_perm (perm_nodup ha hb h)
/-- a list of n things out of n, none twice, holds them all -/
theorem mem_all {α : Type} [DecidableEq α] {A B : List α} (ha : A.Nodup) (hab : ∀ x, x ∈ A → x ∈ B) (hl : B.length ≤ A.length) : ∀ x, x ∈ B → x ∈ A := by
  induction A generalizing B with
  | nil =>
    intro x hx
    cases B with
    | nil => cases hx
    | cons _ _ => simp at hl
  | cons a A ih =>
    intro x hx
    by_cases e : x = a
    · exact e ▸ List.mem_cons_self
    · rw [List.nodup_cons] at ha
      have hB := hab a List.mem_cons_self
      have := ih (B := B.erase a) ha.2 (fun y hy => (List.mem_erase_of_ne (by rintro rfl; exact ha.1 hy)).mpr (hab y (List.mem_cons_of_mem _ hy))) (by rw [List.length_erase_of_mem hB]; simp at hl; omega) x ((List.mem_erase_of_ne e).mpr hx)
      exact List.mem_cons_of_mem _ this
end K79
set_option maxHeartbeats 4000000
namespace K79
/-! ### one reduced heap a class -/
theorem bound_ex (r : Nat → Int) (a : Int) : ∀ n, ∃ d : Nat, ∀ i, i < n → r i ≤ a + d
  | 0 => ⟨0, fun i h => by omega⟩
  | n + 1 => by
    obtain ⟨d, h⟩ := bound_ex r a n
    refine ⟨d + (r n - a).toNat, fun i hi => ?_⟩
    by_cases e : i = n
    · subst e; omega
    · have := h i (by omega); omega
theorem burn_below {W : Wb} (ok : W.Ok) {p : Nat} (hp : p < W.n) {g r : List Int} {M : Int} (hg : g.length = W.n) (hr : r.length = W.n) (hn : ∀ i, i < W.n → i ≠ p → 0 ≤ (given W g r).getD i 0) (hM : ∀ i, i < W.n → r.getD i 0 ≤ M) (hpM : r.getD p 0 < M) : ∀ k, ∀ i, i ∈ burnB W g p k → r.getD i 0 < M
  | 0, i, h => by
    have : i = p := by simpa [burnB] using h
    exact this ▸ hpM
  | k + 1, s, h => by
    have ih := burn_below ok hp hg hr hn hM hpM k
    unfold burnB at h
    rcases List.mem_append.mp h with z | z
    · exact ih s z
    · have hs := late_lt z
      obtain ⟨b1, b2⟩ := burn_lt (h := g) hp k
      have hc : ctch W g (burnB W g p k) s = true := (List.mem_filter.mp z).2
      unfold ctch tiesB at hc
      rw [Bool.and_eq_true] at hc
      have h1 := of_decide_eq_true hc.2
      have hsn : s < W.n := by have := (List.mem_filter.mp z).1; simpa using this
      have hsB : s ∉ burnB W g p k := by have := hc.1; simpa using this
      have hsp : s ≠ p := fun e => hsB (e ▸ burn_p k)
      have h2 := hn s hsn hsp
      rw [given_at hg hr hsn] at h2
      rw [← row_sum b1 b2] at h1
      refine Decidable.byContradiction fun e => ?_
      have e : r.getD s 0 = M := by have := hM s hsn; omega
      have h3 : sumN W.n (fun j => (rowOf W.n (burnB W g p k)).getD j 0 * tab W.ts s j) ≥ sumN W.n (fun j => -1 * ((r.getD j 0 - M) * tab W.ts s j)) := by
        refine sumN_le fun j hj => ?_
        unfold rowOf
        rw [getD_map hj]
        by_cases ej : j = s
        · subst ej
          rw [e]
          simp [hsB]
        · have ht := tab_np (ts := W.ts) (i := s) (j := j) (fun z => ej z.symm)
          have hj2 := hM j hj
          by_cases hb : j ∈ burnB W g p k
          · have hj3 := ih j hb
            have : 0 ≤ (M - r.getD j 0 - 1) * -(tab W.ts s j) := Int.mul_nonneg (by omega) (by omega)
            have e2 : (M - r.getD j 0 - 1) * -(tab W.ts s j) = (r.getD j 0 - M) * tab W.ts s j + tab W.ts s j := by grind
            rw [if_pos (show (burnB W g p k).contains j = true by simpa using hb)]
            omega
          · have : 0 ≤ (M - r.getD j 0) * -(tab W.ts s j) := Int.mul_nonneg (by omega) (by omega)
            have e2 : (M - r.getD j 0) * -(tab W.ts s j) = (r.getD j 0 - M) * tab W.ts s j := by grind
            rw [if_neg (show ¬ (burnB W g p k).contains j = true by simpa using hb)]
            omega
      rw [sumN_mul, sumN_congr (f := fun j => (r.getD j 0 - M) * tab W.ts s j) (g := fun j => r.getD j 0 * tab W.ts s j - M * tab W.ts s j) fun j _ => by rw [Int.sub_mul], sumN_sub, sumN_mul, tab_sum ok.lt s] at h3
      omega
theorem row_below {W : Wb} (ok : W.Ok) {p : Nat} (hp : p < W.n) {g r : List Int} (rd : Red W p g) (hr : r.length = W.n) (hn : ∀ i, i < W.n → i ≠ p → 0 ≤ (given W g r).getD i 0) : ∀ i, i < W.n → r.getD i 0 ≤ r.getD p 0 := by
  obtain ⟨d, hd⟩ := bound_ex (fun i => r.getD i 0) (r.getD p 0) W.n
  induction d with
  | zero => intro i hi; have := hd i hi; omega
  | succ d ih =>
    refine ih fun i hi => ?_
    have := burn_below ok hp rd.len hr hn hd (by omega) W.n i (by
      refine Decidable.byContradiction fun z => ?_
      have : i ∈ unb W g p := unb_mem.mpr ⟨hi, z⟩
      rw [rd.fire] at this
      cases this)
    omega
theorem red_uniq {W : Wb} (ok : W.Ok) {p : Nat} (hp : p < W.n) {g g' : List Int} (rd : Red W p g) (rd' : Red W p g') (e : Eqv W g g') : g = g' := by
  obtain ⟨r, hr, e⟩ := e
  have h1 := row_below ok hp rd hr (by rw [← e]; exact rd'.nn)
  have hng : ∀ i, i < W.n → ((List.range W.n).map fun j => -(r.getD j 0)).getD i 0 = -(r.getD i 0) := fun i hi => getD_map hi
  have hl : ((List.range W.n).map fun j => -(r.getD j 0)).length = W.n := by simp
  have hback : given W g' ((List.range W.n).map fun j => -(r.getD j 0)) = g := by
    refine list_ext (n := W.n) (by unfold given rowsL; simp [rd'.len]) rd.len fun i hi => ?_
    rw [given_at rd'.len hl hi, e, given_at rd.len hr hi, sumN_congr (f := fun j => ((List.range W.n).map fun j => -(r.getD j 0)).getD j 0 * tab W.ts i j) (g := fun j => -1 * (r.getD j 0 * tab W.ts i j)) fun j hj => by rw [hng j hj]; grind, sumN_mul]
    omega
  have h2 := row_below ok hp rd' hl (by rw [hback]; exact rd.nn)
  have hc : ∀ i, i < W.n → r.getD i 0 = r.getD p 0 := fun i hi => by
    have a := h1 i hi
    have b := h2 i hi
    rw [hng i hi, hng p hp] at b
    omega
  refine list_ext rd.len rd'.len fun i hi => ?_
  rw [e, given_at rd.len hr hi, sumN_congr (g := fun j => r.getD p 0 * tab W.ts i j) fun j hj => by rw [hc j hj], sumN_mul, tab_sum ok.lt i]
  omega
theorem uniq_fit : ∀ (W : Wb) (p : Nat) (h g g' : List Int), W.Fit → p < W.n → h.length = W.n → Red W p g → Red W p g' → Eqv W h g → Eqv W h g' → g = g' :=
  fun W p h g g' fit hp hl rd rd' e e' => red_uniq fit.ok hp rd rd' (eqv_trans (eqv_len hl e) (eqv_sym hl e) e')
end K79
set_option maxHeartbeats 4000000
namespace K79
/-! ### lasting heaps -/
theorem sumN_off {n p : Nat} {f g : Nat → Int} (hp : p < n) (h : ∀ i, i < n → i ≠ p → f i = g i) (hs : sumN n f = sumN n g) : f p = g p := by
  have h1 : sumN n (fun i => f i - g i) = sumN n fun i => if p = i then f p - g p else 0 := sumN_congr fun i hi => by
    by_cases e : p = i
    · subst e; rw [if_pos rfl]
    · rw [if_neg e, h i hi fun z => e z.symm]; omega
  rw [sumN_sub, sumN_one hp] at h1
  omega
theorem ext_off {a b : List Int} {n p : Nat} (hp : p < n) (ha : a.length = n) (hb : b.length = n) (h : ∀ i, i < n → i ≠ p → a.getD i 0 = b.getD i 0) (hs : a.sum = b.sum) : a = b := by
  rw [sum_list ha, sum_list hb] at hs
  have hpp := sumN_off hp h hs
  refine list_ext ha hb fun i hi => ?_
  by_cases e : i = p
  · subst e; exact hpp
  · exact h i hi e
theorem given_sum {W : Wb} (ok : W.Ok) {h r : List Int} (hl : h.length = W.n) (hr : r.length = W.n) : (given W h r).sum = h.sum := by
  rw [sum_list (given_len hl), sum_list hl, sumN_congr fun i hi => given_at hl hr hi, sumN_sub, sumN_swap]
  rw [sumN_congr (f := fun j => sumN W.n fun i => r.getD j 0 * tab W.ts i j) (g := fun _ => 0) fun j hj => by
    rw [sumN_mul, sumN_congr (g := tab W.ts j) fun i _ => tab_comm _ _ _, tab_sum ok.lt j, Int.mul_zero], sumN_zero]
  omega
theorem eqv_sum {W : Wb} (ok : W.Ok) {h g : List Int} (hl : h.length = W.n) (e : Eqv W h g) : g.sum = h.sum := by
  obtain ⟨r, hr, rfl⟩ := e
  exact given_sum ok hl hr
theorem turn0_at {W : Wb} {h : List Int} {i : Nat} (hi : i < h.length) : (turn0 W h).getD i 0 = (deg W.ts i : Int) - 1 - h.getD i 0 := by
  unfold turn0
  rw [List.getD_eq_getElem?_getD, List.getElem?_map, List.getElem?_zipIdx, List.getElem?_eq_getElem hi, List.getD_eq_getElem?_getD, List.getElem?_eq_getElem hi]
  simp
theorem turned_at {W : Wb} {h : List Int} {p : Nat} {m : Int} {i : Nat} (hi : i < h.length) (e : i ≠ p) : (turned W h p m).getD i 0 = (deg W.ts i : Int) - 1 - h.getD i 0 := by
  unfold turned
  rw [List.getD_eq_getElem?_getD, List.getElem?_set_ne (fun z => e z.symm), ← List.getD_eq_getElem?_getD, turn0_at hi]
theorem set_sum {a : List Int} {p n : Nat} {x : Int} (hp : p < n) (ha : a.length = n) : (a.set p x).sum = a.sum - a.getD p 0 + x := by
  rw [sum_list (show (a.set p x).length = n by simpa using ha), sum_list ha]
  rw [sumN_congr (g := fun i => a.getD i 0 + if p = i then x - a.getD p 0 else 0) fun i hi => by
    by_cases e : p = i
    · subst e
      rw [if_pos rfl, List.getD_eq_getElem?_getD, List.getElem?_set_self (by omega)]
      simp; omega
    · rw [if_neg e, List.getD_eq_getElem?_getD, List.getElem?_set_ne e, ← List.getD_eq_getElem?_getD]; omega, sumN_add, sumN_one hp]
  omega
theorem turned_sum {W : Wb} {h : List Int} {p : Nat} {m : Int} (hl : h.length = W.n) (hp : p < W.n) : (turned W h p m).sum = m := by
  unfold turned
  rw [set_sum hp (by unfold turn0; simp [hl])]
  omega
theorem turned_eqv {W : Wb} (ok : W.Ok) {h g : List Int} {p : Nat} {m : Int} (hp : p < W.n) (hl : h.length = W.n) (e : Eqv W h g) : Eqv W (turned W h p m) (turned W g p m) := by
  obtain ⟨r, hr, rfl⟩ := e
  have hl' : (given W h r).length = W.n := given_len hl
  have ht : (turned W h p m).length = W.n := turned_len.trans hl
  have hq : (r.map fun x => -x).length = W.n := by simp [hr]
  have hng : ∀ i, i < W.n → (r.map fun x => -x).getD i 0 = -(r.getD i 0) := fun i hi => by
    rw [List.getD_eq_getElem?_getD, List.getElem?_map, List.getD_eq_getElem?_getD, List.getElem?_eq_getElem (by omega)]
    simp
  refine ⟨r.map fun x => -x, hq, ext_off hp (turned_len.trans hl') (given_len ht) (fun i hi hip => ?_) ?_⟩
  · rw [turned_at (by omega) hip, given_at hl hr hi, given_at ht hq hi, turned_at (by omega) hip, sumN_congr (f := fun j => (r.map fun x => -x).getD j 0 * tab W.ts i j) (g := fun j => -1 * (r.getD j 0 * tab W.ts i j)) fun j hj => by rw [hng j hj]; grind, sumN_mul]
    omega
  · rw [turned_sum hl' hp, given_sum ok ht hq, turned_sum hl hp]
theorem last_iff {W : Wb} {h : List Int} {p : Nat} (hl : h.length = W.n) : isLast W h p = true ↔ (∀ i, i < W.n → i ≠ p → 0 ≤ h.getD i 0) ∧ Red W p (turned W h p 0) := by
  unfold isLast
  rw [Bool.and_eq_true, List.all_eq_true, decide_eq_true_eq, List.length_eq_zero_iff]
  have hm : ∀ i, i ∈ spotsOf W p ↔ i < W.n ∧ i ≠ p := fun i => by unfold spotsOf; rw [List.mem_filter, List.mem_range]; simp
  constructor
  · rintro ⟨h1, h2⟩
    refine ⟨fun i hi hip => ?_, turned_len.trans hl, fun i hi hip => ?_, h2⟩
    · have := h1 i ((hm i).mpr ⟨hi, hip⟩)
      rw [Bool.and_eq_true] at this
      exact of_decide_eq_true this.1
    · have := h1 i ((hm i).mpr ⟨hi, hip⟩)
      rw [Bool.and_eq_true] at this
      exact of_decide_eq_true this.2
  · rintro ⟨h1, rd⟩
    refine ⟨fun i hi => ?_, rd.fire⟩
    obtain ⟨h3, h4⟩ := (hm i).mp hi
    rw [Bool.and_eq_true]
    exact ⟨decide_eq_true (h1 i h3 h4), decide_eq_true (rd.nn i h3 h4)⟩
/-- one lasting heap a class -/
theorem last_uniq {W : Wb} (ok : W.Ok) {h g : List Int} {p : Nat} (hp : p < W.n) (hl : h.length = W.n) (h1 : isLast W h p = true) (h2 : isLast W g p = true) (e : Eqv W h g) : h = g := by
  have hg := eqv_len hl e
  have := red_uniq ok hp ((last_iff hl).mp h1).2 ((last_iff hg).mp h2).2 (turned_eqv ok hp hl e)
  refine ext_off hp hl hg (fun i hi hip => ?_) (eqv_sum ok hl e).symm
  have h3 := turned_at (W := W) (h := h) (p := p) (m := 0) (i := i) (by omega) hip
  have h4 := turned_at (W := W) (h := g) (p := p) (m := 0) (i := i) (by omega) hip
  rw [this] at h3
  omega
end K79
set_option maxHeartbeats 4000000
namespace K79
/-! ### the lists of all -/
theorem getD_app {l : List Int} {x : Int} {i : Nat} : (l ++ [x]).getD i 0 = if i < l.length then l.getD i 0 else if i = l.length then x else 0 := by
  rw [List.getD_eq_getElem?_getD, List.getElem?_append, List.getD_eq_getElem?_getD]
  split
  · rfl
  · split
    · have : i - l.length = 0 := by omega
      rw [this]; rfl
    · rw [List.getElem?_eq_none (by simp; omega)]; rfl
theorem mem_lots {W : Wb} {p : Nat} : ∀ k l, l ∈ lotsK W p k ↔ l.length = k ∧ ∀ i, i < k → 0 ≤ l.getD i 0 ∧ l.getD i 0 < (mostOf W p i : Int)
  | 0, l => by
    simp only [lotsK, List.mem_singleton]
    constructor
    · rintro rfl; exact ⟨rfl, fun i hi => by omega⟩
    · rintro ⟨h, _⟩; exact List.eq_nil_of_length_eq_zero h
  | k + 1, l => by
    unfold lotsK
    rw [List.mem_flatMap]
    constructor
    · rintro ⟨l', h1, h2⟩
      obtain ⟨m, hm, rfl⟩ := List.mem_map.mp h2
      rw [List.mem_range] at hm
      obtain ⟨h3, h4⟩ := (mem_lots k l').mp h1
      refine ⟨by simp [h3], fun i hi => ?_⟩
      rw [getD_app, h3]
      by_cases e : i < k
      · rw [if_pos e]; exact h4 i e
      · have : i = k := by omega
        subst this
        rw [if_neg e, if_pos rfl]
        omega
    · rintro ⟨hl, h4⟩
      have hk := h4 k (by omega)
      refine ⟨l.take k, (mem_lots k _).mpr ⟨by simp [hl], fun i hi => ?_⟩, List.mem_map.mpr ⟨(l.getD k 0).toNat, List.mem_range.mpr (by omega), ?_⟩⟩
      · rw [List.getD_eq_getElem?_getD, List.getElem?_take_of_lt hi, ← List.getD_eq_getElem?_getD]
        exact h4 i (by omega)
      · refine list_ext (n := k + 1) (by simp [hl]) hl fun i hi => ?_
        have hlen : (l.take k).length = k := by simp [hl]
        rw [getD_app, hlen]
        by_cases e : i < k
        · rw [if_pos e, List.getD_eq_getElem?_getD, List.getElem?_take_of_lt e, ← List.getD_eq_getElem?_getD]
        · have : i = k := by omega
          subst this
          rw [if_neg e, if_pos rfl]
          omega
theorem map_nodup {α β : Type} {g : α → β} : ∀ {L : List α}, L.Nodup → (∀ a b, a ∈ L → b ∈ L → g a = g b → a = b) → (L.map g).Nodup
  | [], _, _ => List.nodup_nil
  | a :: L, h, q => by
    rw [List.nodup_cons] at h
    rw [List.map_cons, List.nodup_cons]
    refine ⟨fun z => ?_, map_nodup h.2 fun x y hx hy => q x y (by simp [hx]) (by simp [hy])⟩
    obtain ⟨b, hb, e⟩ := List.mem_map.mp z
    have := q b a (by simp [hb]) (by simp) e
    exact h.1 (this ▸ hb)
theorem flat_nodup {α β : Type} {g : α → List β} : ∀ {L : List α}, L.Nodup → (∀ a, a ∈ L → (g a).Nodup) → (∀ a b x, a ∈ L → b ∈ L → x ∈ g a → x ∈ g b → a = b) → (L.flatMap g).Nodup
  | [], _, _, _ => List.nodup_nil
  | a :: L, h, q, r => by
    rw [List.nodup_cons] at h
    rw [List.flatMap_cons, List.nodup_append]
    refine ⟨q a (by simp), flat_nodup h.2 (fun b hb => q b (by simp [hb])) fun x y z hx hy => r x y z (by simp [hx]) (by simp [hy]), fun x hx y hy e => ?_⟩
    subst e
    obtain ⟨b, hb, hxb⟩ := List.mem_flatMap.mp hy
    have := r a b x (by simp) (by simp [hb]) hx hxb
    exact h.1 (this ▸ hb)
theorem lots_nodup {W : Wb} {p : Nat} : ∀ k, (lotsK W p k).Nodup
  | 0 => by simp [lotsK]
  | k + 1 => by
    unfold lotsK
    refine flat_nodup (lots_nodup k) (fun l hl => map_nodup List.nodup_range fun a b _ _ e => ?_) fun a b x _ _ h1 h2 => ?_
    · have := List.append_cancel_left e
      simp only [List.cons.injEq, and_true] at this
      omega
    · obtain ⟨m, _, rfl⟩ := List.mem_map.mp h1
      obtain ⟨m', _, e⟩ := List.mem_map.mp h2
      exact (List.append_inj_left' e rfl).symm
/-- what is reduced is below the ties -/
theorem red_deg {W : Wb} (ok : W.Ok) {p : Nat} (hp : p < W.n) {g : List Int} (rd : Red W p g) {i : Nat} (hi : i < W.n) (hip : i ≠ p) : g.getD i 0 < (deg W.ts i : Int) := by
  have hb : i ∈ burnB W g p W.n := by
    refine Decidable.byContradiction fun z => ?_
    have : i ∈ unb W g p := unb_mem.mpr ⟨hi, z⟩
    rw [rd.fire] at this
    cases this
  have key : ∀ k, i ∈ burnB W g p k → g.getD i 0 < (deg W.ts i : Int) := fun k => by
    induction k with
    | zero => intro h; exact absurd (by simpa [burnB] using h) hip
    | succ k ih =>
      intro h
      unfold burnB at h
      rcases List.mem_append.mp h with z | z
      · exact ih z
      · have hc : ctch W g (burnB W g p k) i = true := (List.mem_filter.mp z).2
        unfold ctch tiesB at hc
        rw [Bool.and_eq_true] at hc
        have h1 := of_decide_eq_true hc.2
        obtain ⟨b1, b2⟩ := burn_lt (h := g) hp k
        rw [← row_sum b1 b2] at h1
        have hni : i ∉ burnB W g p k := by have := hc.1; simpa using this
        have h2 : sumN W.n (fun j => (rowOf W.n (burnB W g p k)).getD j 0 * tab W.ts i j) ≥ sumN W.n fun j => tab W.ts i j - if i = j then tab W.ts i i else 0 := by
          refine sumN_le fun j hj => ?_
          unfold rowOf
          rw [getD_map hj]
          by_cases e : i = j
          · subst e
            rw [if_pos rfl, if_neg (by simpa using hni)]
            omega
          · have := tab_np (ts := W.ts) e
            rw [if_neg e]
            split <;> omega
        rw [sumN_sub, tab_sum ok.lt i, sumN_one hi] at h2
        have h3 : tab W.ts i i = (deg W.ts i : Int) := if_pos rfl
        omega
  exact key _ hb
theorem mem_allBy {W : Wb} (ok : W.Ok) {p : Nat} (hp : p < W.n) {num : Int} {h : List Int} : h ∈ allBy W p num ↔ Red W p h ∧ h.sum = num := by
  unfold allBy allU
  rw [List.mem_mergeSort, List.mem_filter, decide_eq_true_eq, List.mem_map]
  constructor
  · rintro ⟨⟨l, hl, rfl⟩, hu⟩
    obtain ⟨h1, h2⟩ := (mem_lots _ _).mp hl
    have hz : l.getD p 0 = 0 := by have := h2 p hp; unfold mostOf at this; rw [if_pos rfl] at this; omega
    refine ⟨⟨by unfold fill; simp [h1], fun i hi hip => ?_, hu⟩, ?_⟩
    · unfold fill
      rw [List.getD_eq_getElem?_getD, List.getElem?_set_ne (fun z => hip z.symm), ← List.getD_eq_getElem?_getD]
      exact (h2 i hi).1
    · unfold fill
      rw [set_sum hp h1, hz]
      omega
  · rintro ⟨rd, hs⟩
    refine ⟨⟨h.set p 0, (mem_lots _ _).mpr ⟨by simp [rd.len], fun i hi => ?_⟩, ?_⟩, rd.fire⟩
    · by_cases e : p = i
      · subst e
        rw [List.getD_eq_getElem?_getD, List.getElem?_set_self (by rw [rd.len]; exact hp)]
        unfold mostOf
        simp
      · rw [List.getD_eq_getElem?_getD, List.getElem?_set_ne e, ← List.getD_eq_getElem?_getD]
        unfold mostOf
        rw [if_neg fun z => e z.symm]
        exact ⟨rd.nn i hi fun z => e z.symm, red_deg ok hp rd hi fun z => e z.symm⟩
    · unfold fill
      refine ext_off hp (by simp [rd.len]) rd.len (fun i hi hip => ?_) ?_
      · rw [List.set_set, List.getD_eq_getElem?_getD, List.getElem?_set_ne (fun z => hip z.symm), ← List.getD_eq_getElem?_getD]
      · rw [List.set_set, set_sum hp rd.len, set_sum hp rd.len]
        omega
theorem allBy_nodup {W : Wb} {p : Nat} (hp : p < W.n) {num : Int} : (allBy W p num).Nodup := by
  unfold allBy allU
  refine (List.mergeSort_perm _ _).nodup_iff.mpr ((map_nodup (lots_nodup _) fun a b ha hb e => ?_).sublist List.filter_sublist)
  obtain ⟨h1, h2⟩ := (mem_lots _ _).mp ha
  obtain ⟨h3, h4⟩ := (mem_lots _ _).mp hb
  refine list_ext h1 h3 fun i hi => ?_
  by_cases ep : p = i
  · subst ep
    have h5 := h2 p hp
    have h6 := h4 p hp
    unfold mostOf at h5 h6
    rw [if_pos rfl] at h5 h6
    omega
  · have := congrArg (fun l : List Int => l.getD i 0) e
    unfold fill at this
    simp only [List.getD_eq_getElem?_getD, List.getElem?_set_ne ep] at this
    simpa [List.getD_eq_getElem?_getD] using this
end K79
set_option maxHeartbeats 4000000
namespace K79
theorem turned_back {W : Wb} {p : Nat} (hp : p < W.n) {g : List Int} (hl : g.length = W.n) {m num : Int} (hs : g.sum = num) : turned W (turned W g p m) p num = g := by
  refine ext_off hp (turned_len.trans (turned_len.trans hl)) hl (fun i hi hip => ?_) (by rw [turned_sum (turned_len.trans hl) hp, hs])
  rw [turned_at (by rw [turned_len, hl]; exact hi) hip, turned_at (by omega) hip]
  omega
theorem last_of_red {W : Wb} (ok : W.Ok) {p : Nat} (hp : p < W.n) {g : List Int} {num : Int} (rd : Red W p g) (hs : g.sum = 0) : isLast W (turned W g p num) p = true := by
  rw [last_iff (turned_len.trans rd.len), turned_back hp rd.len hs]
  refine ⟨fun i hi hip => ?_, rd⟩
  rw [turned_at (by rw [rd.len]; exact hi) hip]
  have := red_deg ok hp rd hi hip
  omega
theorem mem_lastL {W : Wb} (ok : W.Ok) {p : Nat} (hp : p < W.n) {num : Int} {h : List Int} : h ∈ lastL W p num ↔ h.length = W.n ∧ isLast W h p = true ∧ h.sum = num := by
  unfold lastL
  rw [List.mem_mergeSort, List.mem_map]
  constructor
  · rintro ⟨g, hg, rfl⟩
    obtain ⟨rd, hs⟩ := (mem_allBy ok hp).mp hg
    exact ⟨turned_len.trans rd.len, last_of_red ok hp rd hs, turned_sum rd.len hp⟩
  · rintro ⟨hl, h1, hs⟩
    exact ⟨turned W h p 0, (mem_allBy ok hp).mpr ⟨((last_iff hl).mp h1).2, turned_sum hl hp⟩, turned_back hp hl hs⟩
theorem lastL_nodup {W : Wb} (ok : W.Ok) {p : Nat} (hp : p < W.n) {num : Int} : (lastL W p num).Nodup := by
  unfold lastL
  refine (List.mergeSort_perm _ _).nodup_iff.mpr (map_nodup (allBy_nodup hp) fun a b ha hb e => ?_)
  obtain ⟨r1, s1⟩ := (mem_allBy ok hp).mp ha
  obtain ⟨r2, s2⟩ := (mem_allBy ok hp).mp hb
  rw [← turned_back hp r1.len s1 (m := num), e, turned_back hp r2.len s2]
theorem lastL_len {W : Wb} {p : Nat} {num : Int} : (lastL W p num).length = (allBy W p 0).length := by unfold lastL; rw [List.length_mergeSort, List.length_map]
/-- each class has a reduced heap -/
theorem red_down {W : Wb} (ok : W.Ok) {p : Nat} (hp : p < W.n) {φ : Nat → Int} (pt : Pot W p φ) : ∀ (m : Nat) (h : List Int), h.length = W.n → (∀ i, i < W.n → i ≠ p → 0 ≤ h.getD i 0) → pot W φ h ≤ m → ∃ g, Red W p g ∧ Eqv W h g := fun m => by
  induction m with
  | zero =>
    intro h hl hn hm
    by_cases e : unb W h p = []
    · exact ⟨h, ⟨hl, hn, e⟩, eqv_refl hl⟩
    · have h1 := unb_pot hl hp pt e
      have h2 := pot_nn pt (unb_fire ok hl hp hn)
      omega
  | succ m ih =>
    intro h hl hn hm
    by_cases e : unb W h p = []
    · exact ⟨h, ⟨hl, hn, e⟩, eqv_refl hl⟩
    · have h1 := unb_pot hl hp pt e
      obtain ⟨g, rd, eg⟩ := ih _ (given_len hl) (unb_fire ok hl hp hn) (by omega)
      exact ⟨g, rd, eqv_trans hl (eqv_step hl rowOf_len (eqv_refl hl)) eg⟩
theorem red_ex {W : Wb} (ok : W.Ok) {p : Nat} (hp : p < W.n) {φ : Nat → Int} (pt : Pot W p φ) {h : List Int} (hl : h.length = W.n) : ∃ g, Red W p g ∧ Eqv W h g := by
  obtain ⟨d, hd⟩ := bound_ex (fun i => -(h.getD i 0)) 0 W.n
  have hq : ((List.range W.n).map fun j => -(d : Int) * φ j).length = W.n := by simp
  have hn : ∀ i, i < W.n → i ≠ p → 0 ≤ (given W h ((List.range W.n).map fun j => -(d : Int) * φ j)).getD i 0 := fun i hi hip => by
    rw [given_at hl hq hi, sumN_congr (f := fun j => ((List.range W.n).map fun j => -(d : Int) * φ j).getD j 0 * tab W.ts i j) (g := fun j => -(d : Int) * (φ j * tab W.ts j i)) fun j hj => by rw [getD_map hj, tab_comm W.ts i j, Int.mul_assoc], sumN_mul]
    have h1 := pt.drop i hi hip
    have h2 : 0 ≤ (d : Int) * ((sumN W.n fun j => φ j * tab W.ts j i) - 1) := Int.mul_nonneg (by omega) (by omega)
    rw [Int.mul_sub] at h2
    have h3 := hd i hi
    rw [Int.neg_mul]
    omega
  obtain ⟨g, rd, eg⟩ := red_down ok hp pt (pot W φ (given W h ((List.range W.n).map fun j => -(d : Int) * φ j))).toNat _ (given_len hl) hn (by omega)
  exact ⟨g, rd, eqv_trans hl (eqv_step hl hq (eqv_refl hl)) eg⟩
/-- each class has a lasting heap -/
theorem last_ex {W : Wb} (ok : W.Ok) {p : Nat} (hp : p < W.n) {φ : Nat → Int} (pt : Pot W p φ) {h : List Int} (hl : h.length = W.n) : ∃ g, g.length = W.n ∧ isLast W g p = true ∧ Eqv W h g := by
  obtain ⟨k, rd, ek⟩ := red_ex ok hp pt (h := turned W h p 0) (turned_len.trans hl)
  have hs : k.sum = 0 := by rw [eqv_sum ok (turned_len.trans hl) ek, turned_sum hl hp]
  refine ⟨turned W k p h.sum, turned_len.trans rd.len, last_of_red ok hp rd hs, ?_⟩
  have := turned_eqv ok (m := h.sum) hp (turned_len.trans hl) ek
  rwa [turned_back hp hl rfl] at this
end K79
set_option maxHeartbeats 4000000
namespace K79
/-! ### a potential for each web: by the burning of the zero heap -/
def z0 (W : Wb) : List Int := List.replicate W.n 0
theorem z0_at {W : Wb} {i : Nat} : (z0 W).getD i 0 = 0 := by
  unfold z0
  rw [List.getD_eq_getElem?_getD, List.getElem?_replicate]
  split <;> rfl
def BK (W : Wb) (p k : Nat) : List Nat := burnB W (z0 W) p k
theorem BK_succ {W : Wb} {p k i : Nat} : i ∈ BK W p (k + 1) ↔ i ∈ BK W p k ∨ (i < W.n ∧ i ∉ BK W p k ∧ 0 < tiesB W (BK W p k) i) := by
  unfold BK
  show i ∈ burnB W (z0 W) p k ++ lateOf W (z0 W) (burnB W (z0 W) p k) ↔ _
  rw [List.mem_append]
  unfold lateOf
  rw [List.mem_filter, List.mem_range]
  unfold ctch
  rw [Bool.and_eq_true, decide_eq_true_eq, z0_at]
  simp
def cK (W : Wb) (p k j : Nat) : Int := if j ∈ BK W p k then 0 else 1
def SK (W : Wb) (p i k : Nat) : Int := sumN W.n fun j => cK W p k j * tab W.ts i j
theorem SK_ties {W : Wb} (ok : W.Ok) {p i k : Nat} (hp : p < W.n) : SK W p i k = tiesB W (BK W p k) i := by
  obtain ⟨b1, b2⟩ := burn_lt (h := z0 W) hp k
  unfold SK tiesB BK
  rw [← row_sum b1 b2, sumN_congr (g := fun j => tab W.ts i j - (rowOf W.n (burnB W (z0 W) p k)).getD j 0 * tab W.ts i j) fun j hj => by
    unfold rowOf cK BK
    rw [getD_map hj]
    by_cases e : j ∈ burnB W (z0 W) p k
    · rw [if_pos e, if_pos (by simpa using e)]; omega
    · rw [if_neg e, if_neg (by simpa using e)]; omega, sumN_sub, tab_sum ok.lt i]
  omega
theorem SK_out {W : Wb} {p i k : Nat} (h : i ∉ BK W p k) (ok : W.Ok) (hp : p < W.n) : 0 ≤ SK W p i k := by
  rw [SK_ties ok hp]
  unfold tiesB
  have := sum_np (A := BK W p k) (f := tab W.ts i) fun b hb => tab_np fun z => h (z ▸ hb)
  omega
theorem SK_next {W : Wb} {p i k : Nat} (h : i ∉ BK W p k) (h' : i ∈ BK W p (k + 1)) (ok : W.Ok) (hp : p < W.n) : 1 ≤ SK W p i k := by
  rw [SK_ties ok hp]
  rcases BK_succ.mp h' with z | z
  · exact absurd z h
  · have := z.2.2; omega
theorem SK_low {W : Wb} {p i k : Nat} (ok : W.Ok) (hi : i < W.n) : -12 ≤ SK W p i k := by
  have h2 : sumN W.n (fun j => tab W.ts i j - if i = j then tab W.ts i i else 0) ≤ SK W p i k := by
    refine sumN_le fun j hj => ?_
    unfold cK
    by_cases e : i = j
    · subst e
      have h3 : tab W.ts i i = (deg W.ts i : Int) := if_pos rfl
      rw [if_pos rfl, h3]
      split <;> omega
    · have := tab_np (ts := W.ts) e
      rw [if_neg e]
      split <;> omega
  have h3 : tab W.ts i i = (deg W.ts i : Int) := if_pos rfl
  rw [sumN_sub, tab_sum ok.lt i, sumN_one hi] at h2
  have := @cnt_le W.ts i
  have := ok.m
  omega
theorem near_in {W : Wb} (ok : W.Ok) {p i j k : Nat} (hp : p < W.n) (h : i ∈ BK W p k) (hj : j < W.n) (ht : tab W.ts j i < 0) : j ∈ BK W p (k + 1) := by
  by_cases e : j ∈ BK W p k
  · exact BK_succ.mpr (.inl e)
  · refine BK_succ.mpr (.inr ⟨hj, e, ?_⟩)
    obtain ⟨b1, b2⟩ := burn_lt (h := z0 W) hp k
    have hil : i < W.n := b2 i h
    unfold tiesB
    rw [show (BK W p k) = burnB W (z0 W) p k from rfl, ← row_sum b1 b2]
    have h2 : sumN W.n (fun a => (rowOf W.n (burnB W (z0 W) p k)).getD a 0 * tab W.ts j a) ≤ sumN W.n fun a => if i = a then tab W.ts j i else 0 := by
      refine sumN_le fun a ha => ?_
      unfold rowOf
      rw [getD_map ha]
      by_cases ea : i = a
      · subst ea
        rw [if_pos rfl, if_pos (show (burnB W (z0 W) p k).contains i = true by have : i ∈ burnB W (z0 W) p k := h; simpa using this)]
        omega
      · rw [if_neg ea]
        by_cases hb : a ∈ burnB W (z0 W) p k
        · have := tab_np (ts := W.ts) (i := j) (j := a) fun z => e (z ▸ hb)
          rw [if_pos (by simpa using hb)]
          omega
        · rw [if_neg (by simpa using hb)]
          omega
    rw [sumN_one hil] at h2
    omega
theorem SK_deep {W : Wb} (ok : W.Ok) {p i k : Nat} (hp : p < W.n) (hi : i < W.n) (h : i ∈ BK W p k) : SK W p i (k + 1) = 0 := by
  unfold SK
  rw [sumN_congr (g := fun _ => 0) fun j hj => ?_, sumN_zero]
  unfold cK
  by_cases e : j ∈ BK W p (k + 1)
  · rw [if_pos e]; omega
  · rw [if_neg e]
    have hne : i ≠ j := fun z => e (BK_succ.mpr (.inl (z ▸ h)))
    have h1 := tab_np (ts := W.ts) hne
    have h2 : ¬ tab W.ts j i < 0 := fun z => e (near_in ok hp h hj z)
    rw [tab_comm] at h2
    omega
theorem all_in {W : Wb} (g : W.Good) {p i : Nat} (hp : p < W.n) (hi : i < W.n) : i ∈ BK W p W.n := by
  have st : ∀ j, j ∈ BK W p (W.n + 1) → j ∈ BK W p W.n := fun j hj => by
    have h1 := burn_last (h := z0 W) hp
    have : BK W p (W.n + 1) = BK W p W.n ++ lateOf W (z0 W) (burnB W (z0 W) p W.n) := rfl
    rw [this, h1, List.append_nil] at hj
    exact hj
  have ad : ∀ t, t ∈ W.ts → tab W.ts t.1 t.2 < 0 := fun t ht => by
    have h1 := (g.ok.lt t ht).1
    unfold tab
    rw [if_neg (by omega)]
    have : 0 < adj W.ts t.1 t.2 := List.countP_pos_iff.mpr ⟨t, ht, by simp⟩
    omega
  have key := g.con (fun j => j ∈ BK W p W.n ↔ 0 ∈ BK W p W.n) Iff.rfl fun t ht => by
    have h1 := ad t ht
    have h2 := (g.ok.lt t ht)
    have : t.1 ∈ BK W p W.n ↔ t.2 ∈ BK W p W.n := ⟨fun h => st _ (near_in g.ok hp h h2.2 (by rw [tab_comm]; exact h1)), fun h => st _ (near_in g.ok hp h (by omega) h1)⟩
    rw [this]
  exact (key i hi).mpr ((key p hp).mp (burn_p _))
def wK (n k : Nat) : Int := (13 : Int) ^ (n - 1 - k)
theorem wK_pos {n k : Nat} : 1 ≤ wK n k := by
  unfold wK
  have : (0 : Int) < (13 : Int) ^ (n - 1 - k) := Int.pow_pos (by omega)
  omega
def phiK (W : Wb) (p j : Nat) : Int := sumN W.n fun k => wK W.n k * cK W p k j
theorem phi_sum {W : Wb} {p i : Nat} : (sumN W.n fun j => phiK W p j * tab W.ts j i) = sumN W.n fun k => wK W.n k * SK W p i k := by
  rw [sumN_congr (g := fun j => sumN W.n fun k => wK W.n k * cK W p k j * tab W.ts i j) fun j hj => by
    unfold phiK
    rw [tab_comm W.ts j i, ← sumN_mulR], sumN_swap]
  refine sumN_congr fun k hk => ?_
  unfold SK
  rw [← sumN_mul]
  exact sumN_congr fun j hj => by rw [Int.mul_assoc]
theorem phi_step {W : Wb} (g : W.Good) {p i : Nat} (hp : p < W.n) (hi : i < W.n) (hip : i ≠ p) : ∀ m, m ≤ W.n → (i ∉ BK W p m ∧ 0 ≤ sumN m fun k => wK W.n k * SK W p i k) ∨ (i ∈ BK W p m ∧ (13 : Int) ^ (W.n - m) ≤ sumN m fun k => wK W.n k * SK W p i k) ∨ (∃ q, m = q + 1 ∧ i ∈ BK W p q ∧ 1 ≤ sumN m fun k => wK W.n k * SK W p i k)
  | 0, _ => by
    refine .inl ⟨fun z => ?_, Int.le_refl _⟩
    unfold BK at z
    exact hip (by simpa [burnB] using z)
  | m + 1, hm => by
    have hw := @wK_pos W.n m
    rw [sumN_succ]
    rcases phi_step g hp hi hip m (by omega) with ⟨h1, h2⟩ | ⟨h1, h2⟩ | ⟨q, rfl, h1, h2⟩
    · by_cases e : i ∈ BK W p (m + 1)
      · refine .inr (.inl ⟨e, ?_⟩)
        have h3 := SK_next h1 e g.ok hp
        have h4 : 0 ≤ wK W.n m * (SK W p i m - 1) := Int.mul_nonneg (by omega) (by omega)
        rw [Int.mul_sub] at h4
        have h5 : (13 : Int) ^ (W.n - (m + 1)) = wK W.n m := by unfold wK; rw [show W.n - (m + 1) = W.n - 1 - m by omega]
        omega
      · have h3 := SK_out h1 g.ok hp
        have h4 := Int.mul_nonneg (show 0 ≤ wK W.n m by omega) h3
        exact .inl ⟨e, by omega⟩
    · refine .inr (.inr ⟨m, rfl, h1, ?_⟩)
      have h3 := SK_low (p := p) (k := m) g.ok hi
      have h4 : 0 ≤ wK W.n m * (SK W p i m + 12) := Int.mul_nonneg (by omega) (by omega)
      rw [Int.mul_add] at h4
      have h5 : (13 : Int) ^ (W.n - m) = wK W.n m * 13 := by unfold wK; rw [show W.n - m = (W.n - 1 - m) + 1 by omega, Int.pow_succ]
      omega
    · refine .inr (.inr ⟨q + 1, rfl, BK_succ.mpr (.inl h1), ?_⟩)
      rw [SK_deep g.ok hp hi h1]
      omega
theorem pot_ex {W : Wb} (g : W.Good) {p : Nat} (hp : p < W.n) : ∃ φ, Pot W p φ := by
  refine ⟨phiK W p, ?_, fun i => ?_, fun i hi hip => ?_⟩
  · unfold phiK
    rw [sumN_congr (g := fun _ => 0) fun k hk => by unfold cK; rw [if_pos (show p ∈ BK W p k from burn_p k), Int.mul_zero], sumN_zero]
  · unfold phiK
    refine sumN_nn fun k hk => ?_
    have := @wK_pos W.n k
    unfold cK
    split <;> omega
  · rw [phi_sum]
    have hin := all_in g hp hi
    rcases phi_step g hp hi hip W.n (Nat.le_refl _) with ⟨h1, _⟩ | ⟨_, h2⟩ | ⟨_, _, _, h2⟩
    · exact absurd hin h1
    · rw [Nat.sub_self] at h2
      exact h2
    · exact h2
end K79
set_option maxHeartbeats 4000000
namespace K79
/-! ### toppling ends -/
theorem foldl_max : ∀ (xs : List Int) (x : Int), xs.foldl max x ≤ 0 ↔ x ≤ 0 ∧ ∀ y, y ∈ xs → y ≤ 0
  | [], x => by simp
  | z :: xs, x => by
    rw [List.foldl_cons, foldl_max xs]
    constructor
    · rintro ⟨h1, h2⟩
      refine ⟨by omega, fun y hy => ?_⟩
      rcases List.mem_cons.mp hy with rfl | hy
      · omega
      · exact h2 y hy
    · rintro ⟨h1, h2⟩
      have := h2 z (by simp)
      exact ⟨by omega, fun y hy => h2 y (by simp [hy])⟩
theorem maxL_le (l : List Int) : maxL l ≤ 0 ↔ ∀ y, y ∈ l → y ≤ 0 := by
  cases l with
  | nil => simp [maxL]
  | cons x xs =>
    unfold maxL
    rw [foldl_max]
    simp
theorem topRow_len {W : Wb} {h : List Int} {p : Nat} : (topRow W h p).length = W.n := by unfold topRow; simp
theorem topRow_at {W : Wb} {h : List Int} {p i : Nat} (hi : i < W.n) : (topRow W h p).getD i 0 = if i = p then 0 else (h.getD i 0).fdiv (deg W.ts i) := by unfold topRow; rw [getD_map hi]
theorem topRow_nn {W : Wb} {h : List Int} {p : Nat} (hn : ∀ i, i < W.n → i ≠ p → 0 ≤ h.getD i 0) : ∀ i, i < W.n → 0 ≤ (topRow W h p).getD i 0 := fun i hi => by
  rw [topRow_at hi]
  split
  · omega
  · rename_i e
    exact Int.fdiv_nonneg (hn i hi e) (by omega)
theorem top_nn {W : Wb} {h : List Int} {p : Nat} (hl : h.length = W.n) (hd : ∀ i, i < W.n → 0 < deg W.ts i) (hn : ∀ i, i < W.n → i ≠ p → 0 ≤ h.getD i 0) : ∀ i, i < W.n → i ≠ p → 0 ≤ (given W h (topRow W h p)).getD i 0 := fun i hi hip => by
  rw [given_at hl topRow_len hi]
  have h1 : sumN W.n (fun j => (topRow W h p).getD j 0 * tab W.ts i j) ≤ sumN W.n fun j => if i = j then (topRow W h p).getD i 0 * tab W.ts i i else 0 := by
    refine sumN_le fun j hj => ?_
    by_cases e : i = j
    · subst e
      rw [if_pos rfl]
      exact Int.le_refl _
    · rw [if_neg e]
      have h2 := tab_np (ts := W.ts) e
      have h3 := topRow_nn hn j hj
      have := Int.mul_nonneg h3 (show 0 ≤ -(tab W.ts i j) by omega)
      rw [Int.mul_neg] at this
      omega
  rw [sumN_one hi, topRow_at hi, if_neg hip, show tab W.ts i i = (deg W.ts i : Int) from if_pos rfl] at h1
  have h4 := hd i hi
  have h5 := Int.mul_fdiv_add_fmod (h.getD i 0) (deg W.ts i)
  have h6 := Int.fmod_nonneg_of_pos (h.getD i 0) (show (0 : Int) < deg W.ts i by omega)
  rw [Int.mul_comm] at h5
  omega
theorem top_pot {W : Wb} {h : List Int} {p : Nat} (hl : h.length = W.n) {φ : Nat → Int} (pt : Pot W p φ) (hn : ∀ i, i < W.n → i ≠ p → 0 ≤ h.getD i 0) (he : ¬ maxL (topRow W h p) ≤ 0) : pot W φ (given W h (topRow W h p)) < pot W φ h := by
  rw [pot_given hl topRow_len]
  rw [maxL_le] at he
  have ⟨i, hi, h1⟩ : ∃ i, i < W.n ∧ 0 < (topRow W h p).getD i 0 := by
    refine Decidable.byContradiction fun z => he fun y hy => ?_
    obtain ⟨i, hi, rfl⟩ := List.mem_iff_getElem.mp hy
    rw [topRow_len] at hi
    refine Int.not_lt.mp fun z' => z ⟨i, hi, ?_⟩
    rw [List.getD_eq_getElem?_getD, List.getElem?_eq_getElem (by rw [topRow_len]; exact hi)]
    exact z'
  have hp0 : ∀ j, j < W.n → 0 ≤ (topRow W h p).getD j 0 * sumN W.n fun i => φ i * tab W.ts i j := fun j hj => by
    by_cases e : j = p
    · rw [topRow_at hj, if_pos e]; omega
    · have := pt.drop j hj e
      exact Int.mul_nonneg (topRow_nn hn j hj) (by omega)
  have h2 := sumN_ge hp0 hi
  have hip : i ≠ p := fun e => by rw [topRow_at hi, if_pos e] at h1; omega
  have h3 := pt.drop i hi hip
  have h4 := Int.mul_nonneg (show 0 ≤ (topRow W h p).getD i 0 by omega) (show 0 ≤ (sumN W.n fun j => φ j * tab W.ts j i) - 1 by omega)
  rw [Int.mul_sub] at h4
  omega
theorem top_shift {W : Wb} {p : Nat} {h : List Int} : ∀ k, (topIt W p h (k + 1)).1 = (topIt W p (given W h (topRow W h p)) k).1
  | 0 => rfl
  | k + 1 => by
    have := top_shift (W := W) (p := p) (h := h) k
    show given W (topIt W p h (k + 1)).1 (topRow W (topIt W p h (k + 1)).1 p) = _
    rw [this]
    rfl
theorem top_down {W : Wb} {p : Nat} (hd : ∀ i, i < W.n → 0 < deg W.ts i) {φ : Nat → Int} (pt : Pot W p φ) : ∀ (m : Nat) (h : List Int), h.length = W.n → (∀ i, i < W.n → i ≠ p → 0 ≤ h.getD i 0) → pot W φ h ≤ m → ∃ k, topEnd W p (topIt W p h k) ∧ ∀ j, j < k → ¬ topEnd W p (topIt W p h j) := fun m => by
  induction m with
  | zero =>
    intro h hl hn hm
    by_cases e : topEnd W p (topIt W p h 0)
    · exact ⟨0, e, fun j hj => by omega⟩
    · have h1 := top_pot hl pt hn e
      have h2 := pot_nn pt (top_nn hl hd hn)
      omega
  | succ m ih =>
    intro h hl hn hm
    by_cases e : topEnd W p (topIt W p h 0)
    · exact ⟨0, e, fun j hj => by omega⟩
    · have h1 := top_pot hl pt hn e
      obtain ⟨k, h3, h4⟩ := ih _ (given_len hl) (top_nn hl hd hn) (by omega)
      refine ⟨k + 1, ?_, fun j hj => ?_⟩
      · unfold topEnd at *
        rw [top_shift]
        exact h3
      · cases j with
        | zero => exact e
        | succ j =>
          have := h4 j (by omega)
          unfold topEnd at *
          rw [top_shift]
          exact this
theorem top_ends {W : Wb} {p : Nat} (hd : ∀ i, i < W.n → 0 < deg W.ts i) {φ : Nat → Int} (pt : Pot W p φ) {h : List Int} (hl : h.length = W.n) (hn : ∀ i, i < W.n → i ≠ p → 0 ≤ h.getD i 0) : ∃ k, topEnd W p (topIt W p h k) ∧ ∀ j, j < k → ¬ topEnd W p (topIt W p h j) :=
  top_down hd pt (pot W φ h).toNat h hl hn (by omega)
theorem top_eqv {W : Wb} {p : Nat} {h : List Int} (hl : h.length = W.n) : ∀ k, Eqv W h (topIt W p h k).1
  | 0 => eqv_refl hl
  | k + 1 => eqv_step hl topRow_len (top_eqv hl k)
end K79
set_option maxHeartbeats 4000000
namespace K79
/-! ### no forbidden set -/
def inA (W : Wb) (A : Nat → Bool) (i : Nat) : Int := sumN W.n fun j => if A j = true ∧ j ≠ i then -(tab W.ts i j) else 0
def NF (W : Wb) (p : Nat) (h : List Int) : Prop := ∀ A : Nat → Bool, A p = false → (∃ i, i < W.n ∧ A i = true) → ∃ i, i < W.n ∧ A i = true ∧ inA W A i ≤ h.getD i 0
theorem nf_mono {W : Wb} {p : Nat} {h g : List Int} (f : NF W p h) (hg : ∀ i, i < W.n → i ≠ p → h.getD i 0 ≤ g.getD i 0) : NF W p g := fun A hp he => by
  obtain ⟨i, h1, h2, h3⟩ := f A hp he
  have hip : i ≠ p := fun e => by rw [e, hp] at h2; cases h2
  exact ⟨i, h1, h2, Int.le_trans h3 (hg i h1 hip)⟩
theorem nf_top {W : Wb} {p : Nat} {h : List Int} (hl : h.length = W.n) (hd : ∀ i, i < W.n → 0 < deg W.ts i) (hn : ∀ i, i < W.n → i ≠ p → 0 ≤ h.getD i 0) (f : NF W p h) : NF W p (given W h (topRow W h p)) := fun A hp he => by
  have hr := topRow_nn hn
  by_cases e0 : ∃ i, i < W.n ∧ (A i && decide ((topRow W h p).getD i 0 = 0)) = true
  · obtain ⟨i, h1, h2, h3⟩ := f (fun i => A i && decide ((topRow W h p).getD i 0 = 0)) (by simp [hp]) e0
    rw [Bool.and_eq_true, decide_eq_true_eq] at h2
    refine ⟨i, h1, h2.1, ?_⟩
    rw [given_at hl topRow_len h1]
    have h4 : inA W A i ≤ sumN W.n fun j => (if (A j && decide ((topRow W h p).getD j 0 = 0)) = true ∧ j ≠ i then -(tab W.ts i j) else 0) - (topRow W h p).getD j 0 * tab W.ts i j := by
      refine sumN_le fun j hj => ?_
      by_cases ej : j = i
      · subst ej
        rw [if_neg (fun z => z.2 rfl), if_neg (fun z => z.2 rfl), h2.2]
        omega
      · have ht := tab_np (ts := W.ts) (i := i) (j := j) fun z => ej z.symm
        have hrj := hr j hj
        by_cases ea : A j = true
        · by_cases er : (topRow W h p).getD j 0 = 0
          · rw [if_pos ⟨ea, ej⟩, if_pos ⟨by rw [ea, decide_eq_true er]; rfl, ej⟩, er]
            omega
          · rw [if_pos ⟨ea, ej⟩, if_neg fun z => er (by have := z.1; rw [Bool.and_eq_true, decide_eq_true_eq] at this; exact this.2)]
            have := Int.mul_nonneg (show 0 ≤ (topRow W h p).getD j 0 - 1 by omega) (show 0 ≤ -(tab W.ts i j) by omega)
            rw [Int.sub_mul, Int.mul_neg] at this
            omega
        · rw [if_neg fun z => ea z.1, if_neg fun z => ea (by have := z.1; rw [Bool.and_eq_true] at this; exact this.1)]
          have := Int.mul_nonneg hrj (show 0 ≤ -(tab W.ts i j) by omega)
          rw [Int.mul_neg] at this
          omega
    rw [sumN_sub] at h4
    have h3 : (sumN W.n fun j => if (A j && decide ((topRow W h p).getD j 0 = 0)) = true ∧ j ≠ i then -(tab W.ts i j) else 0) ≤ h.getD i 0 := h3
    omega
  · obtain ⟨i, h1, h2⟩ := he
    have hip : i ≠ p := fun e => by rw [e, hp] at h2; cases h2
    refine ⟨i, h1, h2, ?_⟩
    rw [given_at hl topRow_len h1]
    have h4 : inA W A i ≤ sumN W.n fun j => (if i = j then (topRow W h p).getD i 0 * tab W.ts i i else 0) - (topRow W h p).getD j 0 * tab W.ts i j := by
      refine sumN_le fun j hj => ?_
      by_cases ej : j = i
      · subst ej
        rw [if_neg (fun z => z.2 rfl), if_pos rfl]
        omega
      · have ht := tab_np (ts := W.ts) (i := i) (j := j) fun z => ej z.symm
        have hrj := hr j hj
        rw [if_neg fun z : i = j => ej z.symm]
        by_cases ea : A j = true
        · have er : (topRow W h p).getD j 0 ≠ 0 := fun er => e0 ⟨j, hj, by rw [ea, decide_eq_true er]; rfl⟩
          rw [if_pos ⟨ea, ej⟩]
          have := Int.mul_nonneg (show 0 ≤ (topRow W h p).getD j 0 - 1 by omega) (show 0 ≤ -(tab W.ts i j) by omega)
          rw [Int.sub_mul, Int.mul_neg] at this
          omega
        · rw [if_neg fun z => ea z.1]
          have := Int.mul_nonneg hrj (show 0 ≤ -(tab W.ts i j) by omega)
          rw [Int.mul_neg] at this
          omega
    rw [sumN_sub, sumN_one h1, topRow_at h1, if_neg hip, show tab W.ts i i = (deg W.ts i : Int) from if_pos rfl] at h4
    have h5 := Int.mul_fdiv_add_fmod (h.getD i 0) (deg W.ts i)
    have h6 := Int.fmod_nonneg_of_pos (h.getD i 0) (show (0 : Int) < deg W.ts i by have := hd i h1; omega)
    rw [Int.mul_comm] at h5
    omega
theorem inA_eq {W : Wb} {A : Nat → Bool} {i : Nat} (hi : i < W.n) (ha : A i = true) : inA W A i = (deg W.ts i : Int) - sumN W.n fun j => if A j = true then tab W.ts i j else 0 := by
  unfold inA
  rw [sumN_congr (g := fun j => (if i = j then (deg W.ts i : Int) else 0) - if A j = true then tab W.ts i j else 0) fun j hj => by
    by_cases ej : i = j
    · subst ej
      rw [if_neg (fun z => z.2 rfl), if_pos rfl, if_pos ha, show tab W.ts i i = (deg W.ts i : Int) from if_pos rfl]
      omega
    · rw [if_neg ej]
      by_cases ea : A j = true
      · rw [if_pos ⟨ea, fun z => ej z.symm⟩, if_pos ea]; omega
      · rw [if_neg fun z => ea z.1, if_neg ea]; omega, sumN_sub, sumN_one hi]
theorem last_of_nf {W : Wb} (ok : W.Ok) {p : Nat} (hp : p < W.n) {h : List Int} (hl : h.length = W.n) (hn : ∀ i, i < W.n → i ≠ p → 0 ≤ h.getD i 0) (hs : ∀ i, i < W.n → i ≠ p → h.getD i 0 < (deg W.ts i : Int)) (f : NF W p h) : isLast W h p = true := by
  rw [last_iff hl]
  refine ⟨hn, turned_len.trans hl, fun i hi hip => ?_, ?_⟩
  · rw [turned_at (by omega) hip]
    have := hs i hi hip
    omega
  · refine Decidable.byContradiction fun ne => ?_
    have hlen : (turned W h p 0).length = W.n := turned_len.trans hl
    obtain ⟨i, h1, h2, h3⟩ := f (fun i => decide (i ∈ unb W (turned W h p 0) p)) (decide_eq_false fun z => (unb_mem.mp z).2 (burn_p _)) (by
      cases e : unb W (turned W h p 0) p with
      | nil => exact absurd e ne
      | cons a L => exact ⟨a, (unb_mem.mp (e ▸ List.mem_cons_self : a ∈ unb W (turned W h p 0) p)).1, by simp⟩)
    have hu : i ∈ unb W (turned W h p 0) p := of_decide_eq_true h2
    have hb := (unb_mem.mp hu).2
    have hip : i ≠ p := fun e => hb (e ▸ burn_p _)
    have hc : ctch W (turned W h p 0) (burnB W (turned W h p 0) p W.n) i = false := by
      have h1' := burn_last (h := turned W h p 0) hp
      unfold lateOf at h1'
      have := (List.filter_eq_nil_iff.mp h1') i (by simpa using h1)
      simpa using this
    unfold ctch tiesB at hc
    have hb' : (burnB W (turned W h p 0) p W.n).contains i = false := by simpa using hb
    rw [hb'] at hc
    have h4 : ¬ (turned W h p 0).getD i 0 < -((burnB W (turned W h p 0) p W.n).map (tab W.ts i)).sum := by
      intro z
      rw [decide_eq_true z] at hc
      cases hc
    have h5 := split_sum (h := turned W h p 0) hp (tab W.ts i)
    rw [tab_sum ok.lt i, ← row_sum (A := unb W (turned W h p 0) p) unb_nodup fun i hi => (unb_mem.mp hi).1] at h5
    rw [turned_at (by omega) hip] at h4
    rw [inA_eq (A := fun i => decide (i ∈ unb W (turned W h p 0) p)) h1 h2, sumN_congr (g := fun j => (rowOf W.n (unb W (turned W h p 0) p)).getD j 0 * tab W.ts i j) fun j hj => by
      unfold rowOf
      rw [getD_map hj]
      by_cases e : j ∈ unb W (turned W h p 0) p
      · rw [if_pos (decide_eq_true e), if_pos (by simpa using e)]; omega
      · rw [if_neg (by simpa using e), if_neg (by simpa using e)]; omega] at h3
    omega
end K79
set_option maxHeartbeats 4000000
namespace K79
theorem burn_out {W : Wb} (ok : W.Ok) {p : Nat} (hp : p < W.n) {h : List Int} (hl : h.length = W.n) {A : Nat → Bool} (hA : A p = false) (hf : ∀ i, i < W.n → A i = true → h.getD i 0 < inA W A i) : ∀ k, ∀ i, i ∈ burnB W (turned W h p 0) p k → A i = false
  | 0, i, h' => by
    have : i = p := by simpa [burnB] using h'
    exact this ▸ hA
  | k + 1, i, h' => by
    have ih := burn_out ok hp hl hA hf k
    unfold burnB at h'
    rcases List.mem_append.mp h' with z | z
    · exact ih i z
    · have hc : ctch W (turned W h p 0) (burnB W (turned W h p 0) p k) i = true := (List.mem_filter.mp z).2
      have hi : i < W.n := (late_lt z).1
      unfold ctch tiesB at hc
      rw [Bool.and_eq_true] at hc
      have h1 := of_decide_eq_true hc.2
      obtain ⟨b1, b2⟩ := burn_lt (h := turned W h p 0) hp k
      have hni : i ∉ burnB W (turned W h p 0) p k := by have := hc.1; simpa using this
      have hip : i ≠ p := fun e => hni (e ▸ burn_p _)
      rw [← row_sum b1 b2, turned_at (by omega) hip] at h1
      refine Bool.eq_false_iff.mpr fun ea => ?_
      have h2 := hf i hi ea
      rw [inA_eq hi ea] at h2
      have h3 : sumN W.n (fun j => tab W.ts i j) ≤ sumN W.n fun j => (rowOf W.n (burnB W (turned W h p 0) p k)).getD j 0 * tab W.ts i j + if A j = true then tab W.ts i j else 0 := by
        refine sumN_le fun j hj => ?_
        unfold rowOf
        rw [getD_map hj]
        by_cases ej : i = j
        · subst ej
          rw [if_neg (by simpa using hni), if_pos ea]
          omega
        · have ht := tab_np (ts := W.ts) ej
          by_cases hb : j ∈ burnB W (turned W h p 0) p k
          · rw [if_pos (by simpa using hb), if_neg (by rw [ih j hb]; simp)]
            omega
          · rw [if_neg (by simpa using hb)]
            split <;> omega
      rw [sumN_add, tab_sum ok.lt i] at h3
      omega
theorem nf_of_last {W : Wb} (ok : W.Ok) {p : Nat} (hp : p < W.n) {h : List Int} (hl : h.length = W.n) (h1 : isLast W h p = true) : NF W p h := fun A hA he => by
  refine Decidable.byContradiction fun z => ?_
  have hf : ∀ i, i < W.n → A i = true → h.getD i 0 < inA W A i := fun i hi ha => Int.not_le.mp fun y => z ⟨i, hi, ha, y⟩
  obtain ⟨i, hi, ha⟩ := he
  have rd := ((last_iff hl).mp h1).2
  have hb : i ∈ burnB W (turned W h p 0) p W.n := by
    refine Decidable.byContradiction fun y => ?_
    have : i ∈ unb W (turned W h p 0) p := unb_mem.mpr ⟨hi, y⟩
    rw [rd.fire] at this
    cases this
  rw [burn_out ok hp hl hA hf _ i hb] at ha
  cases ha
/-- the end of toppling is stable -/
theorem top_stable {W : Wb} {p : Nat} {g : List Int} (hd : ∀ i, i < W.n → 0 < deg W.ts i) (he : maxL (topRow W g p) ≤ 0) : ∀ i, i < W.n → i ≠ p → g.getD i 0 < (deg W.ts i : Int) := fun i hi hip => by
  have h1 := (maxL_le _).mp he ((topRow W g p).getD i 0) (by
    rw [List.getD_eq_getElem?_getD, List.getElem?_eq_getElem (by rw [topRow_len]; exact hi)]
    exact List.getElem_mem _)
  rw [topRow_at hi, if_neg hip] at h1
  have h5 := Int.mul_fdiv_add_fmod (g.getD i 0) (deg W.ts i)
  have h6 := Int.fmod_lt_of_pos (g.getD i 0) (show (0 : Int) < deg W.ts i by have := hd i hi; omega)
  have h7 := Int.mul_nonneg (show (0 : Int) ≤ deg W.ts i by omega) (show 0 ≤ -((g.getD i 0).fdiv (deg W.ts i)) by omega)
  rw [Int.mul_neg] at h7
  omega
theorem top_keep {W : Wb} {p : Nat} {h : List Int} (hl : h.length = W.n) (hd : ∀ i, i < W.n → 0 < deg W.ts i) (hn : ∀ i, i < W.n → i ≠ p → 0 ≤ h.getD i 0) (f : NF W p h) : ∀ k, (∀ i, i < W.n → i ≠ p → 0 ≤ (topIt W p h k).1.getD i 0) ∧ NF W p (topIt W p h k).1
  | 0 => ⟨hn, f⟩
  | k + 1 => by
    obtain ⟨h1, h2⟩ := top_keep hl hd hn f k
    have hl' := (topIt_len (p := p) hl k).1
    exact ⟨top_nn hl' hd h1, nf_top hl' hd h1 h2⟩
/-- a heap above a lasting one topples to a lasting one -/
theorem top_last {W : Wb} (ok : W.Ok) {p k : Nat} (hp : p < W.n) (hd : ∀ i, i < W.n → 0 < deg W.ts i) {c h : List Int} (hc : c.length = W.n) (hl : h.length = W.n) (h1 : isLast W c p = true) (hg : ∀ i, i < W.n → i ≠ p → c.getD i 0 ≤ h.getD i 0) (he : topEnd W p (topIt W p h k)) : isLast W (topIt W p h k).1 p = true := by
  have hn : ∀ i, i < W.n → i ≠ p → 0 ≤ h.getD i 0 := fun i hi hip => Int.le_trans (((last_iff hc).mp h1).1 i hi hip) (hg i hi hip)
  obtain ⟨h2, h3⟩ := top_keep hl hd hn (nf_mono (nf_of_last ok hp hc h1) hg) k
  exact last_of_nf ok hp (topIt_len (p := p) hl k).1 h2 (top_stable hd he) h3
end K79
set_option maxHeartbeats 4000000
namespace K79
theorem len_eq {α : Type} [DecidableEq α] {A B : List α} (ha : A.Nodup) (hb : B.Nodup) (h : ∀ x, x ∈ A ↔ x ∈ B) : A.length = B.length := (perm_nodup ha hb h).length_eq
/-- as many reduced heaps at one place as at another -/
theorem all_len {W : Wb} (g : W.Good) {p q : Nat} (hp : p < W.n) (hq : q < W.n) {num : Int} : (allBy W p num).length = (allBy W q num).length := by
  obtain ⟨φ, pt⟩ := pot_ex g hp
  obtain ⟨ψ, qt⟩ := pot_ex g hq
  have key : ∀ h : List Int, ∃ k, h.length = W.n → Red W q k ∧ Eqv W h k := fun h => by
    by_cases e : h.length = W.n
    · obtain ⟨k, h1⟩ := red_ex g.ok hq qt e
      exact ⟨k, fun _ => h1⟩
    · exact ⟨h, fun z => absurd z e⟩
  let r : List Int → List Int := fun h => (key h).choose
  have hr : ∀ h, h.length = W.n → Red W q (r h) ∧ Eqv W h (r h) := fun h => (key h).choose_spec
  have h1 : ((allBy W p num).map r).Nodup := map_nodup (allBy_nodup hp) fun a b ha hb e => by
    obtain ⟨r1, s1⟩ := (mem_allBy g.ok hp).mp ha
    obtain ⟨r2, s2⟩ := (mem_allBy g.ok hp).mp hb
    have e1 := (hr a r1.len).2
    rw [e] at e1
    exact red_uniq g.ok hp r1 r2 (eqv_trans r1.len e1 (eqv_sym r2.len (hr b r2.len).2))
  rw [← List.length_map (f := r) (as := allBy W p num)]
  refine len_eq h1 (allBy_nodup hq) fun x => ?_
  rw [List.mem_map, mem_allBy g.ok hq]
  constructor
  · rintro ⟨h, hh, rfl⟩
    obtain ⟨r1, s1⟩ := (mem_allBy g.ok hp).mp hh
    exact ⟨(hr h r1.len).1, by rw [eqv_sum g.ok r1.len (hr h r1.len).2, s1]⟩
  · rintro ⟨rd, hs⟩
    obtain ⟨k, rk, ek⟩ := red_ex g.ok hp pt rd.len
    have hks : k.sum = num := by rw [eqv_sum g.ok rd.len ek, hs]
    refine ⟨k, (mem_allBy g.ok hp).mpr ⟨rk, hks⟩, ?_⟩
    exact (red_uniq g.ok hq rd (hr k rk.len).1 (eqv_trans rd.len ek (hr k rk.len).2)).symm
end K79
set_option maxHeartbeats 4000000
namespace K79
theorem most_at {W : Wb} {i : Nat} (hi : i < W.n) : (mostL W).getD i 0 = (deg W.ts i : Int) - 1 := by unfold mostL; rw [getD_map hi]
theorem most_out {W : Wb} (ok : W.Ok) {A : Nat → Bool} (z : ∀ i, i < W.n → A i = true → (deg W.ts i : Int) - 1 < inA W A i) {i j : Nat} (hi : i < W.n) (hj : j < W.n) (ha : A i = true) (ht : tab W.ts i j < 0) : A j = true := by
  refine Decidable.byContradiction fun nb => ?_
  have h1 := z i hi ha
  rw [inA_eq hi ha] at h1
  have h2 : sumN W.n (fun a => tab W.ts i a) ≤ sumN W.n fun a => (if A a = true then tab W.ts i a else 0) + if j = a then tab W.ts i j else 0 := by
    refine sumN_le fun a _ => ?_
    by_cases ej : j = a
    · subst ej
      rw [if_neg nb, if_pos rfl]
      omega
    · rw [if_neg ej]
      by_cases ea : A a = true
      · rw [if_pos ea]; omega
      · rw [if_neg ea]
        have := tab_np (ts := W.ts) (i := i) (j := a) fun y => ea (y ▸ ha)
        omega
  rw [sumN_add, sumN_one hj, tab_sum ok.lt i] at h2
  omega
theorem most_nf {W : Wb} (g : W.Good) {p : Nat} (hp : p < W.n) : NF W p (mostL W) := fun A hA he => by
  refine Decidable.byContradiction fun nz => ?_
  have z : ∀ i, i < W.n → A i = true → (deg W.ts i : Int) - 1 < inA W A i := fun i hi ha => Int.not_le.mp fun y => nz ⟨i, hi, ha, by rw [most_at hi]; exact y⟩
  have ad : ∀ t, t ∈ W.ts → tab W.ts t.1 t.2 < 0 := fun t ht => by
    have h1 := (g.ok.lt t ht).1
    unfold tab
    rw [if_neg (by omega)]
    have : 0 < adj W.ts t.1 t.2 := List.countP_pos_iff.mpr ⟨t, ht, by simp⟩
    omega
  have key := g.con (fun j => A j = true ↔ A 0 = true) Iff.rfl fun t ht => by
    have h1 := ad t ht
    have h2 := g.ok.lt t ht
    have : A t.1 = true ↔ A t.2 = true := ⟨fun h => most_out g.ok z (by omega) h2.2 h h1, fun h => most_out g.ok z h2.2 (by omega) h (by rw [tab_comm]; exact h1)⟩
    rw [this]
  obtain ⟨i, hi, ha⟩ := he
  have := (key p hp).mpr ((key i hi).mp ha)
  rw [hA] at this
  cases this
theorem most_last {W : Wb} (g : W.Good) {p : Nat} (hp : p < W.n) (hd : ∀ i, i < W.n → 0 < deg W.ts i) : isLast W (mostL W) p = true :=
  last_of_nf g.ok hp (by unfold mostL; simp) (fun i hi _ => by rw [most_at hi]; have := hd i hi; omega) (fun i hi _ => by rw [most_at hi]; omega) (most_nf g hp)
theorem deg_pos {W : Wb} (g : W.Good) (n2 : 2 ≤ W.n) : ∀ i, i < W.n → 0 < deg W.ts i := fun i hi => by
  refine Nat.pos_of_ne_zero fun e => ?_
  have hn : ∀ t, t ∈ W.ts → ¬ onT i t = true := fun t ht h => by
    have : 0 < deg W.ts i := List.countP_pos_iff.mpr ⟨t, ht, h⟩
    omega
  have key := g.con (fun j => (j = i ↔ 0 = i)) Iff.rfl fun t ht => by
    have h1 := hn t ht
    unfold onT at h1
    have h2 : t.1 ≠ i := fun z => h1 (by simp [z])
    have h3 : t.2 ≠ i := fun z => h1 (by simp [z])
    simp [h2, h3]
  have h0 : 0 = i := (key i hi).mp rfl
  subst h0
  have := (key 1 (by omega)).mpr rfl
  omega
end K79
set_option maxHeartbeats 4000000
namespace K79
/-- the burning asks nothing of the place itself -/
theorem burn_set {W : Wb} {h : List Int} {p : Nat} {x : Int} : ∀ k, burnB W (h.set p x) p k = burnB W h p k
  | 0 => rfl
  | k + 1 => by
    unfold burnB
    rw [burn_set k]
    congr 1
    unfold lateOf
    refine List.filter_congr fun s _ => ?_
    unfold ctch
    by_cases e : s = p
    · subst e
      have : (burnB W h s k).contains s = true := by simpa using burn_p (W := W) (h := h) (p := s) k
      rw [this]
      rfl
    · rw [show (h.set p x).getD s 0 = h.getD s 0 by rw [List.getD_eq_getElem?_getD, List.getElem?_set_ne (fun z => e z.symm), ← List.getD_eq_getElem?_getD]]
theorem red_set {W : Wb} {h : List Int} {p : Nat} {x : Int} (rd : Red W p h) : Red W p (h.set p x) := by
  refine ⟨by simp [rd.len], fun i hi hip => ?_, ?_⟩
  · rw [List.getD_eq_getElem?_getD, List.getElem?_set_ne (fun z => hip z.symm), ← List.getD_eq_getElem?_getD]
    exact rd.nn i hi hip
  · unfold unb
    rw [burn_set]
    exact rd.fire
/-- as many for each number -/
theorem all_num {W : Wb} (ok : W.Ok) {p : Nat} (hp : p < W.n) {a b : Int} : (allBy W p a).length = (allBy W p b).length := by
  have h1 : ((allBy W p a).map fun h => h.set p (h.getD p 0 + (b - a))).Nodup := map_nodup (allBy_nodup hp) fun x y hx hy e => by
    obtain ⟨r1, s1⟩ := (mem_allBy ok hp).mp hx
    obtain ⟨r2, s2⟩ := (mem_allBy ok hp).mp hy
    refine ext_off hp r1.len r2.len (fun i hi hip => ?_) (by rw [s1, s2])
    have := congrArg (fun l : List Int => l.getD i 0) e
    simp only [List.getD_eq_getElem?_getD, List.getElem?_set_ne (fun z : p = i => hip z.symm)] at this
    simpa [List.getD_eq_getElem?_getD] using this
  rw [← List.length_map (f := fun h : List Int => h.set p (h.getD p 0 + (b - a))) (as := allBy W p a)]
  refine len_eq h1 (allBy_nodup hp) fun x => ?_
  rw [List.mem_map, mem_allBy ok hp]
  constructor
  · rintro ⟨h, hh, rfl⟩
    obtain ⟨r1, s1⟩ := (mem_allBy ok hp).mp hh
    refine ⟨red_set r1, ?_⟩
    rw [set_sum hp r1.len]
    omega
  · rintro ⟨rd, hs⟩
    refine ⟨x.set p (x.getD p 0 - (b - a)), (mem_allBy ok hp).mpr ⟨red_set rd, by rw [set_sum hp rd.len]; omega⟩, ?_⟩
    refine ext_off hp (by simp [rd.len]) rd.len (fun i hi hip => ?_) ?_
    · rw [List.set_set, List.getD_eq_getElem?_getD, List.getElem?_set_ne (fun z => hip z.symm), ← List.getD_eq_getElem?_getD]
    · rw [List.set_set, set_sum hp rd.len, show (x.set p (x.getD p 0 - (b - a))).getD p 0 = x.getD p 0 - (b - a) by rw [List.getD_eq_getElem?_getD, List.getElem?_set_self (by rw [rd.len]; exact hp)]; rfl]
      omega
end K79
set_option maxHeartbeats 4000000
namespace K79
open PySem L2 Evl Lf
/-! ### sorted numbers -/
theorem dataLe_one (a b : Int) : PySem.W.dataLe false id (.int a) (.int b) = decide (a ≤ b) := congrFun (congrFun (PySem.W.dataLe_int (fun x : Int => x)) a) b
theorem sort_ints (A : List Int) : (A.map PyData.int).mergeSort (PySem.W.dataLe false id) = (A.mergeSort fun a b => decide (a ≤ b)).map .int :=
  (List.map_mergeSort fun a _ b _ => (dataLe_one a b).symm).symm
theorem sort_range {A : List Int} {n : Nat} (h : A.Perm ((List.range n).map fun i => ((i : Nat) : Int))) : (A.mergeSort fun a b => decide (a ≤ b)) = (List.range n).map fun i => ((i : Nat) : Int) := by
  refine List.Perm.eq_of_pairwise (le := fun a b : Int => a ≤ b) (fun a b _ _ h1 h2 => Int.le_antisymm h1 h2) ?_ ?_ ((List.mergeSort_perm A _).trans h)
  · have := List.pairwise_mergeSort (le := fun a b : Int => decide (a ≤ b)) (fun a b c h1 h2 => by simp at *; omega) (fun a b => by simp; omega) A
    exact this.imp fun h => of_decide_eq_true h
  · rw [List.pairwise_map]
    exact List.pairwise_lt_range.imp fun h => by omega
end K79
set_option maxHeartbeats 4000000
namespace K79
open PySem L2 Evl Lf
variable {P : Program} {w : World} {K : PySem.W.Frag} {mg : Str → Option Value} {base : Heap} {f : Addr} {fd : FuncData}
/-! ### _law_unburnt -/
theorem sc_lunburnt : FnScope ["web", "heap", "place", "burnt", "spot"] ["web", "heap", "place"] (defScope (top 67)) := ⟨rfl, rfl, rfl, by decide +kernel, rfl, by decide +kernel, by decide +kernel⟩
theorem nats_flat (L : List (List Nat)) : (L.map natsD).flatten = natsD L.flatten := by
  induction L with
  | nil => rfl
  | cons a L ih => rw [List.map_cons, List.flatten_cons, ih, List.flatten_cons]; unfold natsD; rw [List.map_append]
theorem lfound_ne {W : Wb} {h : List Int} {p : Nat} : ∀ k, lfound W h p k ≠ []
  | 0 => by simp [lfound]
  | k + 1 => by
    unfold lfound
    split
    · exact lfound_ne k
    · simp
theorem ok_lunburnt (T : Txt mg) (F : Fun K "_law_unburnt" "_law_unburnt" (top 67) f fd) (F1 : FnG P w K mg base "_law_rounds" 2 pLRounds) : FnOk P w K mg base CX0 3 f fd ["web", "heap", "place"] (pureSp pLUnburnt) := by
  refine fn_pure F sc_lunburnt (fun ds r h => by obtain ⟨_, _, _, _, _, _, rfl, _⟩ := h; rfl) fun ds r h => ?_
  obtain ⟨W, h, p, ok, hl, hp, rfl, rfl⟩ := h
  have n6 := ok.n6
  have hbl := nodup_le _ _ (burn_lt (h := h) hp W.n).1 (burn_lt hp W.n).2
  have e0 : lstD = fun l => PyData.list (natsD l) := rfl
  refine seq (asgC 3 (ge_sumL (dss := (lfound W h p W.n).map natsD) rfl T.sum (geq (c3 F1 (v 0 rfl) (v 1 rfl) (v 2 rfl) ⟨W, h, p, ok, hl, hp, rfl, rfl⟩ (Nat.le_of_ble_eq_true rfl) rfl rfl (fun _ => rfl) (fun _ => rfl) (fun _ => rfl) (fun _ => rfl)) (by rw [List.map_map]; rfl)) l0 (by simpa using lfound_ne W.n) (by rw [nats_flat, lfound_flat, natsD_len]; omega) (fun _ => rfl) (fun _ => rfl) (fun _ => rfl)) rfl rfl rfl rfl rfl (Nat.le_of_ble_eq_true rfl)) ?_
  rw [nats_flat, lfound_flat]
  refine ret (lc (xs := List.range W.n) (rep := fun i => .int (i : Nat)) (kf := fun s => !(burnB W h p W.n).contains s) (g := fun i => .int (i : Nat)) (own := [("spot", 4)]) (p := .nm 4)
    (lok (IG.of (rg1_eq W.n) (ig_rg1 rfl T.range (ge_ixT (v 0 rfl) ge_int .sh (d := .int W.n) rfl (pix (fun _ _ => rfl))) (by omega) (fun _ => rfl))) (pg_nm rfl (.inl rfl)) rfl rfl rfl (fun _ _ => rfl))
    (fun x hx => ⟨_, rfl, gts_one ?_, fun _ => v 4 rfl⟩) (rl n6) (ni_of rfl)) (.own .ol)
  have h := any_nat (burnB W h p W.n) x
  rw [← h]
  exact gt_cmp (v 4 rfl) (boc 3 rfl) (og_notIn (dss := natsD (burnB W _ p W.n)) (.l (.bo rfl)) (pl_all (k := 0) pl_nats) rfl (by simp [PyData.depth])) rfl
end K79
set_option maxHeartbeats 4000000
namespace K79
open PySem L2 Evl Lf
/-! ### determinants of one to three rows -/
def det1 (e : Nat → Nat → Int) : Int := e 0 0
def det2 (e : Nat → Nat → Int) : Int := e 0 0 * e 1 1 - e 0 1 * e 1 0
def det3 (e : Nat → Nat → Int) : Int := e 0 0 * (e 1 1 * e 2 2 - e 1 2 * e 2 1) - e 0 1 * (e 1 0 * e 2 2 - e 1 2 * e 2 0) + e 0 2 * (e 1 0 * e 2 1 - e 1 1 * e 2 0)

theorem rng_succ {a m : Nat} (h : a < m) : rngF a m = a :: rngF (a + 1) m := by
  unfold rngF
  obtain ⟨k, hk⟩ : ∃ k, m - a = k + 1 := ⟨m - a - 1, by omega⟩
  rw [hk, show m - (a + 1) = k by omega, List.range_succ_eq_map, List.map_cons, List.map_map]
  simp
  intro i _
  omega
theorem rng_end {a : Nat} : rngF a a = [] := by unfold rngF; simp
theorem some_nil {m : Nat} {e : Nat → Nat → Int} {a : Nat} : rngF a m = [] → someOf m e a = [] := fun h => by unfold someOf; rw [h]; rfl

theorem some_cons {e : Nat → Nat → Int} {a m : Nat} (c : Nat) (h : c < m) : (rngF c m).filter (fun s => !decide (e s a = 0)) = if e c a = 0 then (rngF (c+1) m).filter (fun s => !decide (e s a = 0)) else c :: (rngF (c+1) m).filter (fun s => !decide (e s a = 0)) := by
  rw [rng_succ h, List.filter_cons]
  by_cases z : e c a = 0 <;> simp [z]

/-- one step of the clearing -/
theorem detG_succ {m k a : Nat} {e : Nat → Nat → Int} {sg last : Int} : detG m (k+1) a e sg last = match someOf m e a with
    | [] => 0
    | i :: _ => detG m k (a + 1) (elimE a last (pvt e a i)) (if i = a then sg else -sg) (pvt e a i a a) := rfl

/-- the last step -/
theorem detG_last {m : Nat} {e : Nat → Nat → Int} {sg last : Int} : detG (m+1) 1 m e sg last = sg * e m m := by
  rw [detG_succ]
  unfold someOf
  rw [some_cons m (by omega), rng_end]
  by_cases z : e m m = 0
  · simp [z]
  · simp [z, detG, pvt]
theorem fdiv_mul' {a b : Int} (h : b ≠ 0) : (a * b).fdiv b = a := Int.mul_fdiv_cancel _ h
theorem fdiv_of {a b c : Int} (h : b ≠ 0) (e : a = c * b) : a.fdiv b = c := by rw [e]; exact Int.mul_fdiv_cancel _ h

theorem detG_two {m : Nat} {e : Nat → Nat → Int} {sg last d : Int} (hl : last ≠ 0) (hd : e m m * e (m+1) (m+1) - e m (m+1) * e (m+1) m = d * last) : detG (m+2) 2 m e sg last = sg * d := by
  rw [detG_succ]
  unfold someOf
  rw [some_cons m (by omega), some_cons (m+1) (by omega), rng_end]
  by_cases z : e m m = 0
  · by_cases z2 : e (m+1) m = 0
    · have h0 : d * last = 0 := by rw [← hd, z, z2]; simp
      rcases Int.mul_eq_zero.mp h0 with h | h
      · simp [z, z2, h]
      · exact absurd h hl
    · simp only [z, z2, if_true, if_false, List.filter_nil]
      rw [detG_last]
      have : elimE m last (pvt e m (m+1)) (m+1) (m+1) = -d := by
        unfold elimE elim1 pvt swapE
        simp
        refine fdiv_of hl ?_
        grind
      rw [this, if_neg (by omega)]
      grind
  · simp only [z, if_false]
    rw [detG_last]
    have : elimE m last (pvt e m m) (m+1) (m+1) = d := by
        unfold elimE elim1 pvt swapE
        simp
        refine fdiv_of hl ?_
        grind
    rw [this]
    simp

theorem detE_1 (e : Nat → Nat → Int) : detE 1 e = det1 e := by
  unfold detE det1
  rw [detG_last]
  omega
theorem detE_2 (e : Nat → Nat → Int) : detE 2 e = det2 e := by
  unfold detE det2
  rw [detG_two (m := 0) (d := e 0 0 * e 1 1 - e 0 1 * e 1 0) (by omega) (by simp)]
  omega
theorem detE_3 (e : Nat → Nat → Int) : detE 3 e = det3 e := by
  unfold detE
  rw [detG_succ]
  unfold someOf
  rw [some_cons 0 (by omega), some_cons 1 (by omega), some_cons 2 (by omega), rng_end]
  by_cases z : e 0 0 = 0
  · by_cases z1 : e 1 0 = 0
    · by_cases z2 : e 2 0 = 0
      · simp [z, z1, z2, det3]
      · simp only [z, z1, z2, if_true, if_false]
        rw [detG_two (m := 1) (d := - det3 e) (by simpa [pvt, swapE] using z2)]
        · simp
        · simp [elimE, elim1, pvt, swapE, det3]
          grind
    · simp only [z, z1, if_true, if_false]
      rw [detG_two (m := 1) (d := - det3 e) (by simpa [pvt, swapE] using z1)]
      · simp
      · simp [elimE, elim1, pvt, swapE, det3]
        grind
  · simp only [z, if_true, if_false]
    rw [detG_two (m := 1) (d := det3 e) (by simpa [pvt, swapE] using z)]
    · simp
    · simp [elimE, elim1, pvt, swapE, det3]
      grind

theorem cramer {m : Nat} (h1 : 1 ≤ m) (h3 : m ≤ 3) {e : Nat → Nat → Int} {g x : Nat → Int} (hg : ∀ s, s < m → g s = sumN m fun t => e s t * x t) {i : Nat} (hi : i < m) : detE m (colE e i g) = x i * detE m e := by
  match m, h1, h3 with
  | 1, _, _ =>
    have g0 := hg 0 (by omega)
    obtain rfl : i = 0 := by omega
    simp [detE_1, det1, colE, g0, sumN]
    grind
  | 2, _, _ =>
    have g0 := hg 0 (by omega)
    have g1 := hg 1 (by omega)
    obtain rfl | rfl : i = 0 ∨ i = 1 := by omega
    all_goals (simp [detE_2, det2, colE, g0, g1, sumN]; grind)
  | 3, _, _ =>
    have g0 := hg 0 (by omega)
    have g1 := hg 1 (by omega)
    have g2 := hg 2 (by omega)
    obtain rfl | rfl | rfl : i = 0 ∨ i = 1 ∨ i = 2 := by omega
    all_goals (simp [detE_3, det3, colE, g0, g1, g2, sumN]; grind)

theorem det_at {t : Nat → Nat → Int} (hs : ∀ i j, t i j = t j i) {n : Nat} (h2 : 2 ≤ n) (h4 : n ≤ 4) (hz : ∀ i, sumN n (t i) = 0) {p : Nat} (hp : p < n) : detE (n - 1) (fun i j => t (sk p i) (sk p j)) = detE (n - 1) (fun i j => t (i+1) (j+1)) := by
  match n, h2, h4 with
  | 2, _, _ =>
    have z0 := hz 0
    have z1 := hz 1
    simp only [sumN] at z0 z1
    have s1 := hs 1 0
    obtain rfl | rfl : p = 0 ∨ p = 1 := by omega
    all_goals (simp [detE_1, det1, sk])
    omega
  | 3, _, _ =>
    have z0 := hz 0
    have z1 := hz 1
    have z2 := hz 2
    simp only [sumN] at z0 z1 z2
    have s1 := hs 1 0
    have s2 := hs 2 0
    have s4 := hs 2 1
    have e0 : t 0 0 = - t 0 1 - t 0 2 := by omega
    have e1 : t 1 1 = - t 0 1 - t 1 2 := by omega
    have e2 : t 2 2 = - t 0 2 - t 1 2 := by omega
    obtain rfl | rfl | rfl : p = 0 ∨ p = 1 ∨ p = 2 := by omega
    all_goals (simp [detE_2, det2, sk])
    all_goals (simp only [s1, s2, s4, e0, e1, e2]; clear s1 s2 s4 e0 e1 e2 z0 z1 z2 hs hz; generalize t 0 1 = a; generalize t 0 2 = b; generalize t 1 2 = c; grind)
  | 4, _, _ =>
    have z0 := hz 0
    have z1 := hz 1
    have z2 := hz 2
    have z3 := hz 3
    have s1 := hs 1 0
    have s2 := hs 2 0
    have s3 := hs 3 0
    have s4 := hs 2 1
    have s5 := hs 3 1
    have s6 := hs 3 2
    simp only [sumN] at z0 z1 z2 z3
    have e0 : t 0 0 = - t 0 1 - t 0 2 - t 0 3 := by omega
    have e1 : t 1 1 = - t 0 1 - t 1 2 - t 1 3 := by omega
    have e2 : t 2 2 = - t 0 2 - t 1 2 - t 2 3 := by omega
    have e3 : t 3 3 = - t 0 3 - t 1 3 - t 2 3 := by omega
    obtain rfl | rfl | rfl | rfl : p = 0 ∨ p = 1 ∨ p = 2 ∨ p = 3 := by omega
    all_goals (simp [detE_3, det3, sk])
    all_goals (simp only [s1, s2, s3, s4, s5, s6, e0, e1, e2, e3]; clear s1 s2 s3 s4 s5 s6 e0 e1 e2 e3 z0 z1 z2 z3 hs hz; generalize t 0 1 = a; generalize t 0 2 = b; generalize t 0 3 = c; generalize t 1 2 = d; generalize t 1 3 = e; generalize t 2 3 = f; grind)
/-! ### trees of webs of two to four places -/
def T3 (a b d : Nat) : Nat := a * (b + d) + b * d
def T4 (a b c d e f : Nat) : Nat := a * ((b + d) * (c + e) + f * (b + c + d + e)) + (f * ((b + c) * (d + e)) + b * d * e + b * d * c + b * e * c + d * e * c)
def wt (W : Wb) (i j : Nat) : Nat := adj W.ts i j
def treesN (W : Wb) : Nat := match W.n with
  | 2 => wt W 0 1
  | 3 => T3 (wt W 0 1) (wt W 0 2) (wt W 1 2)
  | 4 => T4 (wt W 0 1) (wt W 0 2) (wt W 0 3) (wt W 1 2) (wt W 1 3) (wt W 2 3)
  | _ => 1
theorem wt_comm {W : Wb} {i j : Nat} : wt W i j = wt W j i := adj_comm _ _ _
theorem tab_wt {W : Wb} {i j : Nat} (h : i ≠ j) : tab W.ts i j = -(wt W i j : Int) := by unfold tab wt; rw [if_neg h]
theorem tab_deg {W : Wb} {i : Nat} : tab W.ts i i = (deg W.ts i : Int) := by unfold tab; rw [if_pos rfl]
theorem tab_z {W : Wb} (ok : W.Ok) (i : Nat) : sumN W.n (tab W.ts i) = 0 := tab_sum (fun t ht => ok.lt t ht) i
/-- the ties of a place, told by pairs -/
theorem deg_wt {W : Wb} (ok : W.Ok) {i : Nat} (hi : i < W.n) : deg W.ts i = ((List.range W.n).map fun j => if j = i then 0 else wt W i j).sum := by
  have h := tab_z ok i
  have h2 : sumN W.n (tab W.ts i) = (deg W.ts i : Int) - sumN W.n fun j => ((if j = i then 0 else wt W i j : Nat) : Int) := by
    rw [← sumN_one (n := W.n) (a := i) (x := (deg W.ts i : Int)) hi, ← sumN_sub]
    refine sumN_congr fun j hj => ?_
    by_cases e : i = j
    · subst e; simp [tab_deg]
    · rw [if_neg e, if_neg (Ne.symm e), tab_wt e]; omega
  have h3 : ((((List.range W.n).map fun j => if j = i then 0 else wt W i j).sum : Nat) : Int) = sumN W.n fun j => ((if j = i then 0 else wt W i j : Nat) : Int) := by
    rw [← sum_range]
    generalize List.range W.n = L
    induction L with
    | nil => rfl
    | cons a L ih => simp only [List.map_cons, List.sum_cons, ← ih]; omega
  omega
end K79
set_option maxHeartbeats 4000000
namespace K79
open PySem L2 Evl Lf
/-! ### the number of trees: above 0, not great -/
theorem adj_pos {ts : List (Nat × Nat)} {t : Nat × Nat} (h : t ∈ ts) : 0 < adj ts t.1 t.2 := by
  unfold adj
  rw [List.countP_pos_iff]
  exact ⟨t, h, by simp⟩
/-- a web hangs together -/
theorem cross {W : Wb} (g : W.Good) {A : Nat → Bool} {i0 j0 : Nat} (hi : i0 < W.n) (hj : j0 < W.n) (ai : A i0 = true) (aj : A j0 = false) : ∃ i j, i < W.n ∧ j < W.n ∧ A i = true ∧ A j = false ∧ 0 < wt W i j := by
  false_or_by_contra
  rename_i hno
  have key : ∀ t, t ∈ W.ts → A t.1 = A t.2 := fun t ht => by
    have hp := adj_pos ht
    obtain ⟨h1, h2⟩ := g.ok.lt t ht
    cases e1 : A t.1 <;> cases e2 : A t.2
    · rfl
    · exact absurd ⟨t.2, t.1, h2, by omega, e2, e1, by rw [wt_comm]; exact hp⟩ hno
    · exact absurd ⟨t.1, t.2, by omega, h2, e1, e2, hp⟩ hno
    · rfl
  have h0 := g.con (fun i => A i = A 0) rfl (fun t ht => by
    show A t.1 = A 0 ↔ A t.2 = A 0
    rw [key t ht])
  have h1 := h0 i0 hi
  have h2 := h0 j0 hj
  rw [ai] at h1
  rw [aj] at h2
  rw [← h1] at h2
  cases h2
theorem tabs {W : Wb} (ok : W.Ok) (i : Nat) : sumN W.n (fun j => tab W.ts i j) = 0 := tab_z ok i
theorem trees_det {W : Wb} (ok : W.Ok) (n2 : 2 ≤ W.n) (n4 : W.n ≤ 4) : (treesN W : Int) = detE (W.n - 1) (redE W 0) := by
  have hz := tabs ok
  obtain hn | hn | hn : W.n = 2 ∨ W.n = 3 ∨ W.n = 4 := by omega
  · have z1 := hz 1
    rw [hn] at z1
    simp only [sumN] at z1
    rw [tab_wt (by omega : (1 : Nat) ≠ 0), wt_comm] at z1
    rw [hn, detE_1]
    simp only [treesN, hn, det1, redE, sk]
    simp
    omega
  · have z1 := hz 1
    have z2 := hz 2
    rw [hn] at z1 z2
    simp only [sumN] at z1 z2
    rw [hn, detE_2]
    simp only [treesN, hn, det2, redE, sk]
    simp
    rw [tab_wt (by omega : (1 : Nat) ≠ 0), tab_wt (by omega : (1 : Nat) ≠ 2)] at z1
    rw [tab_wt (by omega : (2 : Nat) ≠ 0), tab_wt (by omega : (2 : Nat) ≠ 1)] at z2
    rw [tab_wt (by omega : (1 : Nat) ≠ 2), tab_wt (by omega : (2 : Nat) ≠ 1)]
    rw [wt_comm (i := 1) (j := 0)] at z1
    rw [wt_comm (i := 2) (j := 0), wt_comm (i := 2) (j := 1)] at z2
    rw [wt_comm (i := 2) (j := 1)]
    have e1 : tab W.ts 1 1 = wt W 0 1 + wt W 1 2 := by omega
    have e2 : tab W.ts 2 2 = wt W 0 2 + wt W 1 2 := by omega
    rw [e1, e2]
    unfold T3
    clear z1 z2 e1 e2 hz
    generalize wt W 0 1 = a
    generalize wt W 0 2 = b
    generalize wt W 1 2 = c
    push_cast
    grind
  · have z1 := hz 1
    have z2 := hz 2
    have z3 := hz 3
    rw [hn] at z1 z2 z3
    simp only [sumN] at z1 z2 z3
    rw [hn, detE_3]
    simp only [treesN, hn, det3, redE, sk]
    simp
    rw [tab_wt (by omega : (1 : Nat) ≠ 0), tab_wt (by omega : (1 : Nat) ≠ 2), tab_wt (by omega : (1 : Nat) ≠ 3)] at z1
    rw [tab_wt (by omega : (2 : Nat) ≠ 0), tab_wt (by omega : (2 : Nat) ≠ 1), tab_wt (by omega : (2 : Nat) ≠ 3)] at z2
    rw [tab_wt (by omega : (3 : Nat) ≠ 0), tab_wt (by omega : (3 : Nat) ≠ 1), tab_wt (by omega : (3 : Nat) ≠ 2)] at z3
    rw [tab_wt (by omega : (1 : Nat) ≠ 2), tab_wt (by omega : (1 : Nat) ≠ 3), tab_wt (by omega : (2 : Nat) ≠ 1), tab_wt (by omega : (2 : Nat) ≠ 3), tab_wt (by omega : (3 : Nat) ≠ 1), tab_wt (by omega : (3 : Nat) ≠ 2)]
    rw [wt_comm (i := 1) (j := 0)] at z1
    rw [wt_comm (i := 2) (j := 0), wt_comm (i := 2) (j := 1)] at z2
    rw [wt_comm (i := 3) (j := 0), wt_comm (i := 3) (j := 1), wt_comm (i := 3) (j := 2)] at z3
    rw [wt_comm (i := 2) (j := 1), wt_comm (i := 3) (j := 1), wt_comm (i := 3) (j := 2)]
    have e1 : tab W.ts 1 1 = wt W 0 1 + wt W 1 2 + wt W 1 3 := by omega
    have e2 : tab W.ts 2 2 = wt W 0 2 + wt W 1 2 + wt W 2 3 := by omega
    have e3 : tab W.ts 3 3 = wt W 0 3 + wt W 1 3 + wt W 2 3 := by omega
    rw [e1, e2, e3]
    unfold T4
    clear z1 z2 z3 e1 e2 e3 hz
    generalize wt W 0 1 = a
    generalize wt W 0 2 = b
    generalize wt W 0 3 = c
    generalize wt W 1 2 = d
    generalize wt W 1 3 = e
    generalize wt W 2 3 = f
    push_cast
    grind
/-! ### each pair's ties are at most the trees -/
theorem T4_a {a b c d e f : Nat} (h1 : 1 ≤ b + d + f) (h2 : 1 ≤ c + e + f) (h3 : 1 ≤ b + c + d + e) : a ≤ T4 a b c d e f := by
  have key : 1 ≤ (b + d) * (c + e) + f * (b + c + d + e) := by
    by_cases hf : 1 ≤ f
    · have := Nat.mul_le_mul hf h3
      omega
    · have hb : 1 ≤ b + d := by omega
      have hc : 1 ≤ c + e := by omega
      have := Nat.mul_le_mul hb hc
      omega
  have := Nat.mul_le_mul (Nat.le_refl a) key
  unfold T4
  omega
theorem T4_12 (a b c d e f : Nat) : T4 a b c d e f = T4 b a c d f e := by unfold T4; grind
theorem T4_13 (a b c d e f : Nat) : T4 a b c d e f = T4 c b a f e d := by unfold T4; grind
theorem T4_02 (a b c d e f : Nat) : T4 a b c d e f = T4 d b f a e c := by unfold T4; grind
theorem T4_03 (a b c d e f : Nat) : T4 a b c d e f = T4 e f c d a b := by unfold T4; grind
theorem T4_f (a b c d e f : Nat) : T4 a b c d e f = T4 f b d c e a := by unfold T4; grind
theorem T3_a {a b d : Nat} (h : 1 ≤ b + d) : a ≤ T3 a b d := by
  have := Nat.mul_le_mul (Nat.le_refl a) h
  unfold T3
  omega
theorem T3_12 (a b d : Nat) : T3 a b d = T3 b a d := by unfold T3; grind
theorem T3_02 (a b d : Nat) : T3 a b d = T3 d b a := by unfold T3; grind
/-- the ties between a lot of places and the others -/
theorem cross3 {W : Wb} (g : W.Good) (hn : W.n = 3) : 1 ≤ wt W 0 1 + wt W 0 2 ∧ 1 ≤ wt W 0 1 + wt W 1 2 ∧ 1 ≤ wt W 0 2 + wt W 1 2 := by
  refine ⟨?_, ?_, ?_⟩
  · obtain ⟨i, j, hi, hj, ai, aj, hp⟩ := cross g (A := fun i => decide (i = 0)) (i0 := 0) (j0 := 1) (by omega) (by omega) (by decide) (by decide)
    simp at ai aj
    rw [hn] at hi hj
    subst ai
    obtain rfl | rfl : j = 1 ∨ j = 2 := by omega
    all_goals omega
  · obtain ⟨i, j, hi, hj, ai, aj, hp⟩ := cross g (A := fun i => decide (i = 1)) (i0 := 1) (j0 := 0) (by omega) (by omega) (by decide) (by decide)
    simp at ai aj
    rw [hn] at hi hj
    subst ai
    have := @wt_comm W 1 0
    obtain rfl | rfl : j = 0 ∨ j = 2 := by omega
    all_goals omega
  · obtain ⟨i, j, hi, hj, ai, aj, hp⟩ := cross g (A := fun i => decide (i = 2)) (i0 := 2) (j0 := 0) (by omega) (by omega) (by decide) (by decide)
    simp at ai aj
    rw [hn] at hi hj
    subst ai
    have := @wt_comm W 2 0
    have := @wt_comm W 2 1
    obtain rfl | rfl : j = 0 ∨ j = 1 := by omega
    all_goals omega
theorem cross4 {W : Wb} (g : W.Good) (hn : W.n = 4) : (1 ≤ wt W 0 1 + wt W 0 2 + wt W 0 3 ∧ 1 ≤ wt W 0 1 + wt W 1 2 + wt W 1 3 ∧ 1 ≤ wt W 0 2 + wt W 1 2 + wt W 2 3 ∧ 1 ≤ wt W 0 3 + wt W 1 3 + wt W 2 3) ∧
    1 ≤ wt W 0 2 + wt W 0 3 + wt W 1 2 + wt W 1 3 ∧ 1 ≤ wt W 0 1 + wt W 0 3 + wt W 1 2 + wt W 2 3 ∧ 1 ≤ wt W 0 1 + wt W 0 2 + wt W 1 3 + wt W 2 3 := by
  have c10 := @wt_comm W 1 0
  have c20 := @wt_comm W 2 0
  have c30 := @wt_comm W 3 0
  have c21 := @wt_comm W 2 1
  have c31 := @wt_comm W 3 1
  have c32 := @wt_comm W 3 2
  have one : ∀ x, x < 4 → ∃ j, j < 4 ∧ j ≠ x ∧ 0 < wt W x j := fun x hx => by
    obtain ⟨i, j, hi, hj, ai, aj, hp⟩ := cross g (A := fun i => decide (i = x)) (i0 := x) (j0 := if x = 0 then 1 else 0) (by omega) (by split <;> omega) (by simp) (by split <;> simp <;> omega)
    simp at ai aj
    rw [hn] at hi hj
    subst ai
    exact ⟨j, hj, aj, hp⟩
  have two : ∀ x, 0 < x → x < 4 → ∃ i j, (i = 0 ∨ i = x) ∧ j < 4 ∧ j ≠ 0 ∧ j ≠ x ∧ 0 < wt W i j := fun x h0 hx => by
    obtain ⟨i, j, hi, hj, ai, aj, hp⟩ := cross g (A := fun i => decide (i = 0 ∨ i = x)) (i0 := 0) (j0 := if x = 1 then 2 else 1) (by omega) (by split <;> omega) (by simp) (by split <;> simp <;> omega)
    simp at ai aj
    rw [hn] at hi hj
    exact ⟨i, j, ai, hj, aj.1, aj.2, hp⟩
  refine ⟨⟨?_, ?_, ?_, ?_⟩, ?_, ?_, ?_⟩
  · obtain ⟨j, h1, h2, h3⟩ := one 0 (by omega)
    obtain rfl | rfl | rfl : j = 1 ∨ j = 2 ∨ j = 3 := by omega
    all_goals omega
  · obtain ⟨j, h1, h2, h3⟩ := one 1 (by omega)
    obtain rfl | rfl | rfl : j = 0 ∨ j = 2 ∨ j = 3 := by omega
    all_goals omega
  · obtain ⟨j, h1, h2, h3⟩ := one 2 (by omega)
    obtain rfl | rfl | rfl : j = 0 ∨ j = 1 ∨ j = 3 := by omega
    all_goals omega
  · obtain ⟨j, h1, h2, h3⟩ := one 3 (by omega)
    obtain rfl | rfl | rfl : j = 0 ∨ j = 1 ∨ j = 2 := by omega
    all_goals omega
  · obtain ⟨i, j, h1, h2, h3, h4, h5⟩ := two 1 (by omega) (by omega)
    obtain rfl | rfl : j = 2 ∨ j = 3 := by omega
    all_goals (obtain rfl | rfl := h1 <;> omega)
  · obtain ⟨i, j, h1, h2, h3, h4, h5⟩ := two 2 (by omega) (by omega)
    obtain rfl | rfl : j = 1 ∨ j = 3 := by omega
    all_goals (obtain rfl | rfl := h1 <;> omega)
  · obtain ⟨i, j, h1, h2, h3, h4, h5⟩ := two 3 (by omega) (by omega)
    obtain rfl | rfl : j = 1 ∨ j = 2 := by omega
    all_goals (obtain rfl | rfl := h1 <;> omega)
theorem trees_ge {W : Wb} (g : W.Good) (n2 : 2 ≤ W.n) (n4 : W.n ≤ 4) {i j : Nat} (hij : i < j) (hj : j < W.n) : wt W i j ≤ treesN W := by
  obtain hn | hn | hn : W.n = 2 ∨ W.n = 3 ∨ W.n = 4 := by omega
  · obtain ⟨rfl, rfl⟩ : i = 0 ∧ j = 1 := by omega
    simp only [treesN, hn]
    exact Nat.le_refl _
  · obtain ⟨h1, h2, h3⟩ := cross3 g hn
    simp only [treesN, hn]
    obtain ⟨rfl, rfl⟩ | ⟨rfl, rfl⟩ | ⟨rfl, rfl⟩ : (i = 0 ∧ j = 1) ∨ (i = 0 ∧ j = 2) ∨ (i = 1 ∧ j = 2) := by omega
    · exact T3_a h3
    · rw [T3_12]; exact T3_a h2
    · rw [T3_02]; exact T3_a (by omega)
  · obtain ⟨⟨h0, h1, h2, h3⟩, k1, k2, k3⟩ := cross4 g hn
    simp only [treesN, hn]
    obtain ⟨rfl, rfl⟩ | ⟨rfl, rfl⟩ | ⟨rfl, rfl⟩ | ⟨rfl, rfl⟩ | ⟨rfl, rfl⟩ | ⟨rfl, rfl⟩ : (i = 0 ∧ j = 1) ∨ (i = 0 ∧ j = 2) ∨ (i = 0 ∧ j = 3) ∨ (i = 1 ∧ j = 2) ∨ (i = 1 ∧ j = 3) ∨ (i = 2 ∧ j = 3) := by omega
    · exact T4_a h2 h3 (by omega)
    · rw [T4_12]; exact T4_a (by omega) (by omega) (by omega)
    · rw [T4_13]; exact T4_a (by omega) (by omega) (by omega)
    · rw [T4_02]; exact T4_a (by omega) (by omega) (by omega)
    · rw [T4_03]; exact T4_a (by omega) (by omega) (by omega)
    · rw [T4_f]; exact T4_a (by omega) (by omega) (by omega)
theorem wt_le {W : Wb} (ok : W.Ok) (i j : Nat) : wt W i j ≤ 12 := by
  unfold wt adj
  exact Nat.le_trans (List.countP_le_length ..) ok.m
theorem trees_pos {W : Wb} (g : W.Good) (n2 : 2 ≤ W.n) (n4 : W.n ≤ 4) : 1 ≤ treesN W := by
  obtain ⟨i, j, hi, hj, ai, aj, hp⟩ := cross g (A := fun i => decide (i = 0)) (i0 := 0) (j0 := 1) (by omega) (by omega) (by decide) (by decide)
  simp at ai aj
  subst ai
  have := trees_ge g n2 n4 (i := 0) (j := j) (by omega) hj
  omega
theorem mul12 {a b A B : Nat} (ha : a ≤ A) (hb : b ≤ B) : a * b ≤ A * B := Nat.mul_le_mul ha hb
theorem trees_lt {W : Wb} (ok : W.Ok) (n4 : W.n ≤ 4) : treesN W ≤ 50000 := by
  have w := wt_le ok
  unfold treesN
  split
  · have := w 0 1; omega
  · have h1 := mul12 (w 0 1) (Nat.add_le_add (w 0 2) (w 1 2))
    have h2 := mul12 (w 0 2) (w 1 2)
    unfold T3
    omega
  · have w1 := w 0 1
    have w2 := w 0 2
    have w3 := w 0 3
    have w4 := w 1 2
    have w5 := w 1 3
    have w6 := w 2 3
    generalize wt W 0 1 = a at *
    generalize wt W 0 2 = b at *
    generalize wt W 0 3 = c at *
    generalize wt W 1 2 = d at *
    generalize wt W 1 3 = e at *
    generalize wt W 2 3 = f at *
    have h1 := mul12 (show b + d ≤ 24 by omega) (show c + e ≤ 24 by omega)
    have h2 := mul12 w6 (show b + c + d + e ≤ 48 by omega)
    have h3 := mul12 w1 (show (b + d) * (c + e) + f * (b + c + d + e) ≤ 1152 by omega)
    have h4 := mul12 (show b + c ≤ 24 by omega) (show d + e ≤ 24 by omega)
    have h5 := mul12 w6 (show (b + c) * (d + e) ≤ 576 by omega)
    have h6 := mul12 (mul12 w2 w4) w5
    have h7 := mul12 (mul12 w2 w4) w3
    have h8 := mul12 (mul12 w2 w5) w3
    have h9 := mul12 (mul12 w4 w5) w3
    unfold T4
    omega
  · omega
theorem det_ok {W : Wb} (g : W.Fit) {p : Nat} (hp : p < W.n) : DetOk W p := by
  have e : detE (W.n - 1) (redE W p) = (treesN W : Int) := by
    rw [trees_det g.ok g.n2 g.n4]
    exact det_at (fun i j => tab_comm _ _ _) g.n2 g.n4 (fun i => tab_z g.ok i) hp
  have h1 := trees_pos g.toGood g.n2 g.n4
  have h2 := trees_lt g.ok g.n4
  exact ⟨by rw [e]; omega, by rw [e]; omega⟩
theorem facts : ∀ (W : Wb) (p : Nat), W.Fit → p < W.n → DetOk W p ∧ ∃ φ, Pot W p φ := fun W p g hp => ⟨det_ok g hp, pot_ex g.toGood hp⟩
end K79
set_option maxHeartbeats 4000000
namespace K79
open PySem L2 Evl Lf
/-! ### rows between alike heaps -/
theorem zip_at {a b : List Int} {m : Int} {n i : Nat} (ha : a.length = n) (hb : b.length = n) (hi : i < n) : (zipP a b m).getD i 0 = a.getD i 0 + m * b.getD i 0 := by
  unfold zipP
  rw [List.getD_eq_getElem?_getD, List.getD_eq_getElem?_getD, List.getD_eq_getElem?_getD, List.getElem?_zipWith, List.getElem?_eq_getElem (by omega), List.getElem?_eq_getElem (by omega)]
  rfl
theorem sumN_shift {n : Nat} {f : Nat → Int} : sumN (n + 1) f = f 0 + sumN n fun i => f (i + 1) := by
  induction n with
  | zero => simp [sumN]
  | succ n ih =>
    rw [sumN_succ, ih]
    show f 0 + sumN n (fun i => f (i + 1)) + f (n + 1) = f 0 + (sumN n (fun i => f (i + 1)) + f (n + 1))
    omega
theorem alike_num {W : Wb} (g : W.Fit) {a b : List Int} (ha : a.length = W.n) (e : Eqv W a b) : ∀ i, i < W.n - 1 → (numF W a b i).fmod (detE (W.n - 1) (redE W 0)) = 0 := fun i hi => by
  have n2 := g.n2
  have n4 := g.n4
  obtain ⟨r, hr, rfl⟩ := e
  have hb : (given W a r).length = W.n := given_len ha
  have hg : ∀ s, s < W.n - 1 → difF a (given W a r) s = sumN (W.n - 1) fun t => redE W 0 s t * (r.getD (t + 1) 0 - r.getD 0 0) := fun s hs => by
    unfold difF
    rw [zip_at ha hb (by omega), given_at ha hr (by omega)]
    have hz := tab_z g.ok (s + 1)
    obtain ⟨m, hm⟩ : ∃ m, W.n = m + 1 := ⟨W.n - 1, by omega⟩
    rw [hm, sumN_shift] at hz
    rw [hm, sumN_shift]
    have e1 : sumN (m + 1 - 1) (fun t => redE W 0 s t * (r.getD (t + 1) 0 - r.getD 0 0)) = (sumN m fun t => r.getD (t + 1) 0 * tab W.ts (s + 1) (t + 1)) - r.getD 0 0 * sumN m fun t => tab W.ts (s + 1) (t + 1) := by
      rw [← sumN_mul, ← sumN_sub, Nat.add_sub_cancel]
      refine sumN_congr fun t ht => ?_
      show tab W.ts (s + 1) (t + 1) * _ = _
      rw [Int.mul_sub, Int.mul_comm _ (r.getD (t + 1) 0), Int.mul_comm _ (r.getD 0 0)]
    rw [e1, show (sumN m fun t => tab W.ts (s + 1) (t + 1)) = -tab W.ts (s + 1) 0 by omega, Int.mul_neg]
    omega
  unfold numF
  rw [cramer (by omega) (by omega) hg hi]
  rw [Int.mul_fmod_left]
/-! ### the law's own trees -/
theorem ltE_abs {k : Nat} {last B : Int} {m : Nat} {e : Nat → Nat → Int} (h : Bnd B m e) (hk : k < m) : Bnd (2 * (B * B)) m (ltE k last e) := fun s t hs ht => by
  have b1 := mul_bnd (h k k hk hk) (h s t hs ht)
  have b2 := mul_bnd (h s k hs hk) (h k t hk ht)
  have b3 := mul_bnd (h s t hs ht) (h s t hs ht)
  unfold ltE
  split
  · have := Int.natAbs_fdiv_le_natAbs (e k k * e s t - e s k * e k t) last
    omega
  · have h1 := h s t hs ht
    have h2 : B ≤ B * B := by
      have := Int.mul_le_mul_of_nonneg_left (show (1 : Int) ≤ B by omega) (show (0 : Int) ≤ B by omega)
      omega
    omega
theorem tree_bnd {W : Wb} (ok : W.Ok) {m : Nat} : Bnd 13 m (treeE W) := fun s t _ _ => tab_small ok _ _
theorem tree_red {W : Wb} : treeE W = redE W 0 := by
  funext s t
  simp [treeE, redE, sk]
theorem lt1 {m : Nat} {e : Nat → Nat → Int} : (ltS m e 1).2 = e 0 0 := rfl
theorem lt2 {m : Nat} {e : Nat → Nat → Int} : (ltS m e 2).2 = e 0 0 * e 1 1 - e 1 0 * e 0 1 := by
  show (if (0 : Nat) < 1 then (e 0 0 * e 1 1 - e 1 0 * e 0 1).fdiv 1 else e 1 1) = _
  rw [if_pos (by omega), Int.fdiv_one]
theorem lt3 {m : Nat} {e : Nat → Nat → Int} (h : e 0 0 ≠ 0) : (ltS m e 3).2 = det3 e := by
  show (if (1 : Nat) < 2 then ((if (0 : Nat) < 1 then (e 0 0 * e 1 1 - e 1 0 * e 0 1).fdiv 1 else e 1 1) * (if (0 : Nat) < 2 then (e 0 0 * e 2 2 - e 2 0 * e 0 2).fdiv 1 else e 2 2) - (if (0 : Nat) < 2 then (e 0 0 * e 2 1 - e 2 0 * e 0 1).fdiv 1 else e 2 1) * (if (0 : Nat) < 1 then (e 0 0 * e 1 2 - e 1 0 * e 0 2).fdiv 1 else e 1 2)).fdiv (e 0 0) else (if (0 : Nat) < 2 then (e 0 0 * e 2 2 - e 2 0 * e 0 2).fdiv 1 else e 2 2)) = _
  rw [if_pos (by omega), if_pos (by omega), if_pos (by omega), if_pos (by omega), if_pos (by omega), Int.fdiv_one, Int.fdiv_one, Int.fdiv_one, Int.fdiv_one]
  refine fdiv_of h ?_
  unfold det3
  grind
theorem two_pos {a b d e f : Nat} (h1 : 1 ≤ a + d + e) (h2 : 1 ≤ b + d + f) (h3 : 1 ≤ a + e + b + f) : 1 ≤ (a + e) * (b + d + f) + d * (b + f) := by
  by_cases hd : 1 ≤ d
  · have k1 := Nat.mul_le_mul (Nat.le_refl (a + e)) (show 1 ≤ b + d + f by omega)
    have k2 := Nat.mul_le_mul hd (Nat.le_refl (b + f))
    omega
  · have := Nat.mul_le_mul (show 1 ≤ a + e by omega) (show 1 ≤ b + d + f by omega)
    omega
theorem tree11 {W : Wb} (g : W.Fit) : treeE W 0 0 ≠ 0 := by
  have := deg_pos g.toGood g.n2 1 (by have := g.n2; omega)
  show tab W.ts 1 1 ≠ 0
  rw [tab_deg]
  omega
theorem minor2 {W : Wb} (g : W.Fit) (hn : W.n = 4) : treeE W 0 0 * treeE W 1 1 - treeE W 1 0 * treeE W 0 1 ≠ 0 := by
  obtain ⟨⟨h0, h1, h2, h3⟩, k1, k2, k3⟩ := cross4 g.toGood hn
  have z1 := tab_z g.ok 1
  have z2 := tab_z g.ok 2
  rw [hn] at z1 z2
  simp only [sumN] at z1 z2
  rw [tab_wt (by omega : (1 : Nat) ≠ 0), tab_wt (by omega : (1 : Nat) ≠ 2), tab_wt (by omega : (1 : Nat) ≠ 3)] at z1
  rw [tab_wt (by omega : (2 : Nat) ≠ 0), tab_wt (by omega : (2 : Nat) ≠ 1), tab_wt (by omega : (2 : Nat) ≠ 3)] at z2
  rw [wt_comm (i := 1) (j := 0)] at z1
  rw [wt_comm (i := 2) (j := 0), wt_comm (i := 2) (j := 1)] at z2
  have e1 : tab W.ts 1 1 = wt W 0 1 + wt W 1 2 + wt W 1 3 := by omega
  have e2 : tab W.ts 2 2 = wt W 0 2 + wt W 1 2 + wt W 2 3 := by omega
  show tab W.ts 1 1 * tab W.ts 2 2 - tab W.ts 2 1 * tab W.ts 1 2 ≠ 0
  rw [tab_wt (by omega : (1 : Nat) ≠ 2), tab_wt (by omega : (2 : Nat) ≠ 1), wt_comm (i := 2) (j := 1), e1, e2]
  have key := two_pos (a := wt W 0 1) (b := wt W 0 2) (d := wt W 1 2) (e := wt W 1 3) (f := wt W 2 3) (by omega) (by omega) (by omega)
  have : (wt W 0 1 + wt W 1 2 + wt W 1 3 : Int) * (wt W 0 2 + wt W 1 2 + wt W 2 3) - -(wt W 1 2 : Int) * -(wt W 1 2 : Int) = (((wt W 0 1 + wt W 1 3) * (wt W 0 2 + wt W 1 2 + wt W 2 3) + wt W 1 2 * (wt W 0 2 + wt W 2 3) : Nat) : Int) := by
    generalize wt W 0 1 = a
    generalize wt W 0 2 = b
    generalize wt W 1 2 = d
    generalize wt W 1 3 = e
    generalize wt W 2 3 = f
    push_cast
    grind
  rw [this]
  omega
theorem lt_ok {W : Wb} (g : W.Fit) : LtOk W := by
  have n2 := g.n2
  have n4 := g.n4
  have h11 := tree11 g
  have hb := fun m => tree_bnd g.ok (m := m)
  refine ⟨fun k hk => ?_, fun k hk => ?_⟩
  · obtain rfl | rfl | rfl : k = 0 ∨ k = 1 ∨ k = 2 := by omega
    · exact ⟨by show (1 : Int) ≠ 0; omega, by show Int.natAbs 1 < _; decide⟩
    · rw [lt1]
      have := hb 1 0 0 (by omega) (by omega)
      exact ⟨h11, by omega⟩
    · rw [lt2]
      have b1 := mul_bnd (hb 2 0 0 (by omega) (by omega)) (hb 2 1 1 (by omega) (by omega))
      have b2 := mul_bnd (hb 2 1 0 (by omega) (by omega)) (hb 2 0 1 (by omega) (by omega))
      exact ⟨minor2 g (by omega), by omega⟩
  · obtain rfl | rfl | rfl : k = 0 ∨ k = 1 ∨ k = 2 := by omega
    · exact fun s t hs ht => by have := hb _ s t hs ht; show -(2 ^ 64) < treeE W s t ∧ treeE W s t < 2 ^ 64; omega
    · exact fun s t hs ht => by have := ltE_abs (last := 1) (hb (W.n - 1)) (show 0 < W.n - 1 by omega) s t hs ht; show -(2 ^ 64) < ltE 0 1 (treeE W) s t ∧ ltE 0 1 (treeE W) s t < 2 ^ 64; omega
    · exact fun s t hs ht => by
        have := ltE_abs (last := treeE W 0 0) (ltE_abs (last := 1) (hb (W.n - 1)) (show 0 < W.n - 1 by omega)) (show 1 < W.n - 1 by omega) s t hs ht
        show -(2 ^ 64) < ltE 1 (treeE W 0 0) (ltE 0 1 (treeE W)) s t ∧ ltE 1 (treeE W 0 0) (ltE 0 1 (treeE W)) s t < 2 ^ 64
        omega
theorem trees_law {W : Wb} (g : W.Fit) : treesL W = treesN W := by
  have n2 := g.n2
  have n4 := g.n4
  rw [trees_det g.ok n2 n4, ← tree_red]
  unfold treesL
  obtain hn | hn | hn : W.n - 1 = 1 ∨ W.n - 1 = 2 ∨ W.n - 1 = 3 := by omega
  · rw [hn, lt1, detE_1]; rfl
  · rw [hn, lt2, detE_2]
    unfold det2
    rw [Int.mul_comm (treeE W 1 0)]
  · rw [hn, lt3 (tree11 g), detE_3]
theorem law_ok {W : Wb} (g : W.Fit) {p : Nat} (hp : p < W.n) : LawOk W p := ⟨lt_ok g, by rw [trees_law g]; have := trees_pos g.toGood g.n2 g.n4; omega, pot_ex g.toGood hp⟩
/-- so many times the trees may be led anywhere -/
theorem cramer_ex {m : Nat} (h1 : 1 ≤ m) (h3 : m ≤ 3) (e : Nat → Nat → Int) (q : Nat → Int) : ∃ x : Nat → Int, ∀ s, s < m → (sumN m fun t => e s t * x t) = detE m e * q s := by
  refine ⟨fun t => detE m (colE e t q), fun s hs => ?_⟩
  match m, h1, h3 with
  | 1, _, _ =>
    obtain rfl : s = 0 := by omega
    simp [detE_1, det1, colE, sumN]
  | 2, _, _ =>
    obtain rfl | rfl : s = 0 ∨ s = 1 := by omega
    all_goals (simp [detE_2, det2, colE, sumN]; grind)
  | 3, _, _ =>
    obtain rfl | rfl | rfl : s = 0 ∨ s = 1 ∨ s = 2 := by omega
    all_goals (simp [detE_3, det3, colE, sumN]; grind)
theorem start_eqv {W : Wb} (g : W.Fit) {h : List Int} (hl : h.length = W.n) : Eqv W h (startF W h 0) := by
  have n2 := g.n2
  have n4 := g.n4
  have hT := trees_law g
  obtain ⟨x, hx⟩ := cramer_ex (m := W.n - 1) (by omega) (by omega) (redE W 0) (fun s => (h.getD (s + 1) 0).fdiv (treesL W))
  let r : List Int := (List.range W.n).map fun j => if j = 0 then 0 else x (j - 1)
  have hr : r.length = W.n := by simp [r]
  have hml : (modF W h).length = W.n := by unfold modF; simp [hl]
  refine ⟨r, hr, ?_⟩
  have hsl := startF_len (p := 0) hl
  refine ext_off (p := 0) (by omega) hsl (given_len hl) (fun i hi hi0 => ?_) ?_
  · rw [given_at hl hr hi]
    obtain ⟨s, rfl⟩ : ∃ s, i = s + 1 := ⟨i - 1, by omega⟩
    have e1 : (startF W h 0).getD (s + 1) 0 = (h.getD (s + 1) 0).fmod (treesL W) := by
      unfold startF
      rw [List.getD_eq_getElem?_getD, List.getElem?_set_ne (by omega)]
      unfold modF
      rw [List.getElem?_map, List.getD_eq_getElem?_getD, List.getElem?_eq_getElem (by omega)]
      rfl
    have e2 : (sumN W.n fun j => r.getD j 0 * tab W.ts (s + 1) j) = detE (W.n - 1) (redE W 0) * (h.getD (s + 1) 0).fdiv (treesL W) := by
      rw [← hx s (by omega)]
      obtain ⟨m, hm⟩ : ∃ m, W.n = m + 1 := ⟨W.n - 1, by omega⟩
      have r0 : r.getD 0 0 = 0 := by show List.getD ((List.range W.n).map _) 0 0 = 0; rw [getD_map (by omega)]; rfl
      rw [show (sumN W.n fun j => r.getD j 0 * tab W.ts (s + 1) j) = sumN (m + 1) fun j => r.getD j 0 * tab W.ts (s + 1) j by rw [hm], sumN_shift, r0, Int.zero_mul, Int.zero_add, show W.n - 1 = m by omega]
      refine sumN_congr fun t ht => ?_
      have : r.getD (t + 1) 0 = x t := by show List.getD ((List.range W.n).map _) (t + 1) 0 = _; rw [getD_map (by omega)]; simp
      rw [this, Int.mul_comm]
      simp [redE, sk]
    rw [e1, e2, ← trees_det g.ok n2 n4, ← hT]
    have := Int.mul_fdiv_add_fmod (h.getD (s + 1) 0) (treesL W)
    omega
  · rw [given_sum g.ok hl hr]
    unfold startF
    rw [set_sum (n := W.n) (by omega) hml]
    omega
end K79
set_option maxHeartbeats 4000000
namespace K79
open PySem L2 Evl Lf
variable {P : Program} {w : World} {K : PySem.W.Frag} {mg : Str → Option Value} {base : Heap} {f : Addr} {fd : FuncData}
/-! ### _law_mixed -/
theorem sc_mixed : FnScope ["draw", "lap", "found", "great", "blend", "cell"] ["draw"] (defScope (top 60)) := ⟨rfl, rfl, rfl, by decide +kernel, rfl, by decide +kernel, by decide +kernel⟩
theorem fmod_bd {a g : Int} (h0 : 0 < g) (h1 : g < 2 ^ 64) : (a.fmod g).natAbs < 2 ^ 64 := by
  have h2 := Int.fmod_nonneg_of_pos a h0
  have h3 := Int.fmod_lt_of_pos a h0
  omega
theorem ok_mixed (T : Txt mg) (F : Fun K "_law_mixed" "_law_mixed" (top 60) f fd) : FnOk P w K mg base CX0 1 f fd ["draw"] spMixed := by
  refine F.ok sc_mixed (fun vs H Q E h => ?_) (fun cdv A outer s H vs Q E hr h => ?_)
  · obtain ⟨p, l, c, r, t, cs, rfl, _⟩ := h
    rfl
  · obtain ⟨p, l, c, r, t, cs, rfl, npc, hp, hc, fin⟩ := h
    have hu := hu_of hr
    refine ⟨_, pss_cons (ps_dput hu (pv 0) pe_str (pe_op op_add (pe_dget hu (pv 0) pe_str fun _ _ => rfl) pe_int) rfl)
      (pss_cons (ps_par (i := 1) (j := 2) rfl sc_mixed.nd rfl rfl (by decide) rfl rfl (pa_cons (pe_callTy call_int1 rfl T.int (by decide +kernel) (pa_cons (pe_dget hu (pv 0) pe_str fun _ _ => rfl) pa_nil)) (pa_cons pe_int pa_nil)) rfl)
      (pss_cons (ps_for PassesOwn.never rfl (pi_list (pe_lst (pa_cons pe_int (pa_cons pe_int (pa_cons pe_int pa_nil))))) (pg_name (i := 3) sc_mixed.nd rfl (.inl rfl))
        (pss_cons (ps_set (i := 4) sc_mixed.nd rfl (.inl rfl) (pe_op op_modN (pe_op op_add (pe_op op_mul (pv 1) pe_int) (pe_op op_fdivN (pv 3) pe_int)) (pv 3)))
        (pss_cons (ps_for PassesOwn.never rfl (pi_list (pe_dget hu (pv 0) pe_str fun _ _ => rfl)) (pg_name (i := 5) sc_mixed.nd rfl (.inl rfl))
          (pss_one (ps_set (i := 4) sc_mixed.nd rfl (.inl rfl) (pe_op op_modN (pe_op op_add (pe_op op_add (pe_op op_mul (pv 4) pe_int) (pe_callTy call_int1 rfl T.int (by decide +kernel) (pa_cons (pv 5) pa_nil))) (pv 1)) (pv 3)))))
        (pss_one (ps_set (i := 2) sc_mixed.nd rfl (.inl rfl) (pe_op op_add (pe_op op_mul (pv 2) pe_int) (pe_op op_modN (pe_op op_pow (pv 4) pe_int) (pv 3))))))))
      (pss_one (ps_ret (pv 2))))), ?_⟩
    have g1 : DGet H p (.str "turn") (some (.int t)) := DGet.k (k := .inr "turn") hp
    have p1 : DPut H p (.str "turn") (.int (t + 1)) (upd H p (.dK (kvD l c r (t + 1)))) := by
      have := DPut.k (k := .inr "turn") (v := .int (t + 1)) hp (by show 4 < sizeLine; decide)
      rwa [kvD_turn'] at this
    refine ⟨.ref p, rfl, p, .int t, rfl, g1, t, 1, rfl, rfl, .ref p, rfl, p, _, rfl, p1, ?_⟩
    have hp1 : (upd H p (.dK (kvD l c r (t + 1)))) p = some (.dK (kvD l c r (t + 1))) := upd_same
    have b1 : But p H (upd H p (.dK (kvD l c r (t + 1)))) := But.refl.put
    generalize upd H p (.dK (kvD l c r (t + 1))) = H1 at hp1 b1
    refine ⟨.ref p, rfl, p, .int (t + 1), rfl, DGet.k (k := .inr "turn") hp1, .inl ⟨t + 1, rfl, _, _, rfl, ?_⟩⟩
    generalize t + 1 = t1 at hp1 fin
    refine ⟨by show 3 ≤ sizeLine; decide, fun q hq => ⟨q, rfl, ⟨_, sql_at (Ex.refl _) upd_same⟩, ?_⟩⟩
    have hq1 : q ≠ p := fun z => by rw [z, hp1] at hq; cases hq
    refine for_list (xs := [V.int 2147483647, V.int 2147483629, V.int 2147483587]) (fun i σ H3 => ∃ x3 x4 x5 fnd, σ = [some (.ref p), some (.int t1), some (.int fnd), x3, x4, x5] ∧ H3 p = some (.dK (kvD l c r t1)) ∧ But p H H3 ∧ H3 q = some (.lst [V.int 2147483647, V.int 2147483629, V.int 2147483587]))
      ⟨none, none, none, 0, rfl, by rw [upd_ne hq1.symm]; exact hp1, b1.new hq, upd_same⟩ (fun i σ H3 _ ⟨_, _, _, _, _, _, _, e⟩ => sql_at (Ex.refl _) e) (fun i x σ H3 hx hP => ?_) (fun σ H3 hP => ?_)
    · obtain ⟨x3, x4, x5, fnd, rfl, hp3, b3, hq3⟩ := hP
      obtain ⟨g, rfl, g0, gm⟩ : ∃ g : Int, x = .int g ∧ 0 < g ∧ g < 2147483648 := by
        have := List.mem_of_getElem? hx
        simp only [List.mem_cons, List.not_mem_nil, or_false] at this
        rcases this with rfl | rfl | rfl
        · exact ⟨_, rfl, by omega, by omega⟩
        · exact ⟨_, rfl, by omega, by omega⟩
        · exact ⟨_, rfl, by omega, by omega⟩
      have hc3 : H3 c = some (.lst (cs.map V.int)) := b3 c _ (Ne.symm npc) hc
      refine ⟨.int t1, rfl, t1, 48271, rfl, rfl, .inr (by omega), .int g, rfl, g, 11, rfl, rfl, ⟨by omega, by decide⟩, _, _, rfl, rfl, .int g, rfl, _, _, rfl, rfl, by omega, ?_⟩
      have hbd := fmod_bd (a := t1 * 48271 + g.fdiv 11) g0 (by omega)
      refine ⟨.ref p, rfl, p, .ref c, rfl, DGet.k (k := .inr "cells") hp3, c, rfl, ⟨_, sql_at (Ex.refl _) hc3⟩, ?_⟩
      refine for_list (xs := cs.map V.int) (fun j σ H4 => ∃ x5 bl, σ = [some (.ref p), some (.int t1), some (.int fnd), some (.int g), some (.int bl), x5] ∧ bl.natAbs < 2 ^ 64 ∧ H4 = H3)
        ⟨x5, _, rfl, hbd, rfl⟩ (fun j σ H4 _ ⟨_, _, _, _, e⟩ => by rw [e]; exact sql_at (Ex.refl _) hc3) (fun j x σ H4 hx hP => ?_) (fun σ H4 hP => ?_)
      · obtain ⟨x5, bl, rfl, hbd, rfl⟩ := hP
        rw [List.getElem?_map] at hx
        cases hcj : cs[j]? with
        | none => rw [hcj] at hx; cases hx
        | some cell =>
          rw [hcj] at hx
          cases hx
          exact ⟨.int bl, rfl, bl, 69621, rfl, rfl, .inr (by omega), .int cell, rfl, .inl ⟨cell, rfl, _, _, rfl, rfl, .int t1, rfl, _, _, rfl, rfl, .int g, rfl, _, _, rfl, rfl, by omega, some (.int cell), _, rfl, fmod_bd g0 (by omega), rfl⟩⟩
      · obtain ⟨x5, bl, rfl, hbd, rfl⟩ := hP
        refine ⟨.int fnd, rfl, fnd, 2147483659, rfl, rfl, .inr (by omega), ?_⟩

        exact ⟨.int bl, rfl, bl, 5, rfl, rfl, ⟨by omega, by omega, hbd⟩, .int g, rfl, _, _, rfl, rfl, by omega, _, _, rfl, rfl, some (.int g), some (.int bl), x5, _, rfl, hp3, b3, hq3⟩
    · obtain ⟨x3, x4, x5, fnd, rfl, hp3, b3, hq3⟩ := hP
      exact ⟨.int fnd, rfl, fin fnd H3 hp3 b3⟩
/-! ### _law_take -/
theorem sc_take : FnScope ["draw", "amount", "found"] ["draw", "amount"] (defScope (top 61)) := ⟨rfl, rfl, rfl, by decide +kernel, rfl, by decide +kernel, by decide +kernel⟩
theorem shaped_ints (ns : List Int) : SeqAt.shaped (.list (ns.map PyData.int)) = true := pl_shaped (k := 1) (fun d hd => pl_ints d hd) (by decide)
theorem ok_take (T : Txt mg) (F : Fun K "_law_take" "_law_take" (top 61) f fd) (F1 : FnS P w K mg base "_law_mixed" 1 spMixed) : FnOk P w K mg base CX0 2 f fd ["draw", "amount"] spTake := by
  refine F.ok sc_take (fun vs H Q E h => ?_) (fun cdv A outer s H vs Q E hr h => ?_)
  · obtain ⟨p, l, c, r, t, m, lg, cs, rfl, _⟩ := h
    rfl
  · obtain ⟨p, l, c, r, t, m, lg, cs, rfl, m0, m1, npl, npc, nlc, hp, hl, hc, fin⟩ := h
    have hu := hu_of hr
    have hu64 := hr.units
    obtain ⟨fm, fdm, psm, hmm, hkm, hbm, Fm⟩ := F1
    refine ⟨_, pss_cons (ps_if (pt_cmp (pc_eqI (pe_dget hu (pv 0) pe_str fun _ _ => rfl) pe_int))
        (pss_one (ps_dput hu (pv 0) pe_str (pe_ifExp (pt_cmpR (op_neD hu64) (pe_dget hu (pv 0) pe_str fun _ _ => rfl) (pe_lst pa_nil) rfl)
          (pe_bm PySem.F.plainAttrs_list PySem.F.slot_list_pop PySem.F.type_list_pop mt_popAt (pe_dget hu (pv 0) pe_str fun _ _ => rfl) (pa_cons pe_int pa_nil))
          (pe_call Fm hr rfl hmm hkm hbm .nil pass0 (pa_cons (pv 0) pa_nil))) rfl)) pss_nil)
      (pss_cons (ps_set (i := 2) sc_take.nd rfl (.inl rfl) (pe_op op_modN (pe_callTy call_int1 rfl T.int (by decide +kernel) (pa_cons (pe_dget hu (pv 0) pe_str fun _ _ => rfl) pa_nil)) (pv 1)))
      (pss_cons (ps_dput hu (pv 0) pe_str (pe_op op_fdivN (pe_callTy call_int1 rfl T.int (by decide +kernel) (pa_cons (pe_dget hu (pv 0) pe_str fun _ _ => rfl) pa_nil)) (pv 1)) rfl)
      (pss_one (ps_ret (pv 2))))), ?_⟩
    -- what follows the test
    have rest : ∀ (r1 t1 : Int) (lg1 : List Int) (H1 : Hp) (x : Option V), H1 p = some (.dK (kvD l c r1 t1)) → H1 l = some (.lst (lg1.map V.int)) → (∀ a u, a ≠ p → a ≠ l → H a = some u → H1 a = some u) →
        (tSeq (tAsg (tOp (rI (fun x j => j ≠ 0) fun i j => V.int (i.fmod j)) (tCB (fun xs H Q => (∃ i, xs = [V.int i] ∧ Q (V.int i) H) ∨ ∃ k, xs = [V.bl k] ∧ Q (V.int (if k = true then 1 else 0)) H) (tCons (tDGet (tVar 0) (tC (V.str "rest"))) tNil)) (tVar 1)) (gName 2))
          (tSeq (sDPut (tVar 0) (tC (V.str "rest")) (tOp (rI CDivN fun i j => V.int (i.fdiv j)) (tCB (fun xs H Q => (∃ i, xs = [V.int i] ∧ Q (V.int i) H) ∨ ∃ k, xs = [V.bl k] ∧ Q (V.int (if k = true then 1 else 0)) H) (tCons (tDGet (tVar 0) (tC (V.str "rest"))) tNil)) (tVar 1))) (tRet (tVar 2))))
          { nx := fun _ H' => Q .non H', rt := Q } [some (.ref p), some (.int m), x] H1 := fun r1 t1 lg1 H1 x hp1 hl1 hk => by
      have g1 : DGet H1 p (.str "rest") (some (.int r1)) := DGet.k (k := .inr "rest") hp1
      have p1 : DPut H1 p (.str "rest") (.int (r1.fdiv m)) (upd H1 p (.dK (kvD l c (r1.fdiv m) t1))) := by
        have := DPut.k (k := .inr "rest") (v := .int (r1.fdiv m)) hp1 (by show 4 < sizeLine; decide)
        rwa [kvD_rest'] at this
      have h0 := Int.fmod_nonneg_of_pos r1 m0
      have h1 := Int.fmod_lt_of_pos r1 m0
      refine ⟨.ref p, rfl, p, _, rfl, g1, .inl ⟨r1, rfl, .int m, rfl, r1, m, rfl, rfl, by omega, ?_⟩⟩
      refine ⟨.ref p, rfl, p, _, rfl, g1, .inl ⟨r1, rfl, .int m, rfl, r1, m, rfl, rfl, ⟨by omega, by omega⟩, .ref p, rfl, p, _, rfl, p1, .int (r1.fmod m), rfl, ?_⟩⟩
      have := fin (r1.fmod m).toNat (r1.fdiv m) t1 lg1 (upd H1 p (.dK (kvD l c (r1.fdiv m) t1))) (by omega) upd_same (by rw [upd_ne (Ne.symm npl)]; exact hl1) (fun a u n1 n2 e => by rw [upd_ne n1]; exact hk a u n1 n2 e)
      rwa [Int.toNat_of_nonneg h0] at this
    have g0 : DGet H p (.str "rest") (some (.int r)) := DGet.k (k := .inr "rest") hp
    refine ⟨.ref p, rfl, p, _, rfl, g0, r, 0, rfl, rfl, _, rfl, ?_⟩
    by_cases hr0 : r = 0
    · show if decide (r = 0) = true then _ else _
      rw [if_pos (decide_eq_true hr0)]
      refine ⟨.ref p, rfl, p, _, rfl, DGet.k (k := .inr "large") hp, Nat.zero_le _, fun q hq => ?_⟩
      have nq : ∀ {a u}, H a = some u → a ≠ q := fun e => ne_of_none e hq
      have hp1 : (upd H q (.lst [])) p = some (.dK (kvD l c r t)) := by rw [upd_ne (nq hp)]; exact hp
      have hl1 : (upd H q (.lst [])) l = some (.lst (lg.map V.int)) := by rw [upd_ne (nq hl)]; exact hl
      have hc1 : (upd H q (.lst [])) c = some (.lst (cs.map V.int)) := by rw [upd_ne (nq hc)]; exact hc
      refine ⟨.list (lg.map .int), .list ([].map .int), dq_dp _ _ (.lst hl1 (dpa_ints lg)), dq_dp _ _ (.lst upd_same .nil), shaped_ints lg, shaped_ints [], _, rfl, ?_⟩
      have keep : ∀ a u, H a = some u → (upd H q (.lst [])) a = some u := fun a u e => by rw [upd_ne (nq e)]; exact e
      generalize upd H q (.lst []) = H1 at hp1 hl1 hc1 keep
      cases lg with
      | nil =>
        show if (!PyData.eqv (.list []) (.list [])) = true then _ else _
        rw [if_neg (by decide)]
        refine ⟨.ref p, rfl, p, l, c, r, t, cs, rfl, npc, hp1, hc1, fun n H2 hp2 k2 => ⟨.ref p, rfl, p, _, rfl, DPut.k (k := .inr "rest") hp2 (by show 4 < sizeLine; decide), ?_⟩⟩
        rw [kvD_rest']
        exact rest n (t + 1) [] _ none upd_same (by rw [upd_ne (Ne.symm npl)]; exact k2 l _ (Ne.symm npl) hl1) fun a u n1 n2 e => by rw [upd_ne n1]; exact k2 a u n1 (keep a u e)
      | cons x lg =>
        show if (!PyData.eqv (.list (.int x :: lg.map .int)) (.list [])) = true then _ else _
        rw [if_pos (by simp [PyData.eqv, PyData.eqvAll])]
        refine ⟨.ref p, rfl, p, _, rfl, DGet.k (k := .inr "large") hp1, .inl ⟨rfl, _, sql_at (Ex.refl _) hl1⟩, l, _, 0, 0, .int x, rfl, rfl, hl1, by omega, by omega, seqIx_nat (k := 0) (by simp), rfl, .ref p, rfl, p, _, rfl, DPut.k (k := .inr "rest") (kvs := kvD l c r t) ?_ (by show 4 < sizeLine; decide), ?_⟩
        · rw [upd_ne npl]; exact hp1
        · rw [kvD_rest']
          exact rest x t lg _ none upd_same (by rw [upd_ne (Ne.symm npl), upd_same]; rfl) fun a u n1 n2 e => by rw [upd_ne n1, upd_ne n2]; exact keep a u e
    · show if decide (r = 0) = true then _ else _
      rw [if_neg (by simpa using hr0)]
      exact rest r t lg H none hp hl (fun a u _ _ e => e)
/-! ### _law_begun -/
theorem sc_begun : FnScope ["script", "large", "cell"] ["script"] (defScope (top 59)) := ⟨rfl, rfl, rfl, by decide +kernel, rfl, by decide +kernel, by decide +kernel⟩
theorem sql_new {K : PySem.W.Frag} {H : Hp} {a p : Addr} {o : HO} {xs : List V} (h : SqL K H a xs) (hp : H p = none) : SqL K (upd H p o) a xs := by
  rcases h with h | h
  · refine .inl ?_
    rcases h with h | ⟨ob, h⟩
    · exact .inl (by rw [upd_ne (ne_of_none h hp)]; exact h)
    · exact .inr ⟨ob, by rw [upd_ne (ne_of_none h hp)]; exact h⟩
  · exact .inr h
def absI (i : Int) : Int := if i < 0 then -i else i
theorem ok_begun (T : Txt mg) (F : Fun K "_law_begun" "_law_begun" (top 59) f fd) : FnOk P w K mg base CX0 1 f fd ["script"] (spBegun K) := by
  refine F.ok sc_begun (fun vs H Q E h => ?_) (fun cdv A outer s H vs Q E hr h => ?_)
  · obtain ⟨a, ns, rfl, _⟩ := h
    rfl
  · obtain ⟨a, ns, rfl, hs, hl, fin⟩ := h
    refine ⟨_, pss_cons (ps_setLc (i := 1) (own := [("cell", 2)]) rfl sc_begun.nd rfl rfl rfl (pi_list (pv 0)) (blkOk_by rfl) (fun _ _ _ _ _ => pg_name (i := 2) sc_begun.nd rfl (.inl rfl))
        (fun _ _ _ _ _ => pts_one (pt_cmp (pc_ge (pe_callB call_abs rfl T.abs (by decide +kernel) (pa_cons (pv 2) pa_nil)) (pe_op op_pow pe_int pe_int))))
        (fun _ _ _ _ _ => pe_op op_sub (pe_callB call_abs rfl T.abs (by decide +kernel) (pa_cons (pv 2) pa_nil)) (pe_op op_pow pe_int pe_int)))
      (pss_one (ps_ret (pe_disp (pps_cons pe_str (pv 1) (pps_cons pe_str pe_int (pps_cons pe_str (pe_lc (own := [("cell", 2)]) rfl sc_begun.nd (pi_list (pv 0)) (blkOk_by rfl) (fun _ _ _ _ _ => pg_name (i := 2) sc_begun.nd rfl (.inl rfl)) (fun _ _ _ _ _ => pts_nil)
        (fun _ _ _ _ _ => pe_callB call_abs rfl T.abs (by decide +kernel) (pa_cons (pv 2) pa_nil))) (pps_cons pe_str pe_int pps_nil)))) rfl rfl (by simp) (by decide)))), ?_⟩
    show tAsg _ _ _ _ _
    show tLc _ _ _ _ _ _ _ _
    show tLc _ _ _ _ [2] _ _ _
    show tLc (iList K _) _ _ _ _ _ _ _
    refine lc_raw (i := 0) (j := 2) (σ := L2.start ["script", "large", "cell"] [.ref a]) (ns := ns) (k := fun n => decide ((10 : Int) ^ (18 : Int).toNat ≤ absI n)) (g := fun n => absI n - (10 : Int) ^ (18 : Int).toNat) rfl hs (by omega) (fun n => rfl) (fun n H' R h => ?_) (fun n H' R h => ?_) fun D hD => ?_
    · exact ⟨.int n, rfl, n, rfl, 10, 18, rfl, rfl, ⟨by omega, by omega, by decide⟩, _, _, rfl, rfl, _, rfl, h⟩
    · exact ⟨.int n, rfl, n, rfl, 10, 18, rfl, rfl, ⟨by omega, by omega, by decide⟩, _, _, rfl, rfl, h⟩
    · have hs1 : SqL K (upd H D (.lst ((((ns.filter fun n => decide ((10 : Int) ^ (18 : Int).toNat ≤ absI n)).map fun n => absI n - (10 : Int) ^ (18 : Int).toNat).map V.int)))) a (ns.map V.int) := sql_new hs hD
      have k1 : Ex H (upd H D (.lst ((((ns.filter fun n => decide ((10 : Int) ^ (18 : Int).toNat ≤ absI n)).map fun n => absI n - (10 : Int) ^ (18 : Int).toNat).map V.int)))) := Ex.new hD
      have hD1 : (upd H D (.lst ((((ns.filter fun n => decide ((10 : Int) ^ (18 : Int).toNat ≤ absI n)).map fun n => absI n - (10 : Int) ^ (18 : Int).toNat).map V.int)))) D = _ := upd_same
      show tDisp _ _ _ _
      generalize (upd H D (.lst ((((ns.filter fun n => decide ((10 : Int) ^ (18 : Int).toNat ≤ absI n)).map fun n => absI n - (10 : Int) ^ (18 : Int).toNat).map V.int)))) = H1 at hs1 k1 hD1
      intro p hp
      have npD : p ≠ D := fun z => by rw [z, hD1] at hp; cases hp
      refine ⟨.ref D, rfl, ?_⟩
      simp only [tPairs, tC]
      show tLc _ _ _ _ _ _ _ _
      show tLc _ _ _ _ [2] _ _ _
      show tLc (iList K _) _ _ _ _ _ _ _
      refine lc_raw (i := 0) (j := 2) (σ := [some (.ref a), some (.ref D), none]) (ns := ns) (k := fun n => true) (g := fun n => absI n) rfl (sql_new hs1 hp) (by omega) (fun n => rfl) (fun n H' R h => h) (fun n H' R h => ⟨.int n, rfl, n, rfl, h⟩) fun C hC => ?_
      have nCp : C ≠ p := fun z => by rw [z, upd_same] at hC; cases hC
      have hC1 : H1 C = none := by rwa [upd_ne nCp] at hC
      have nCD : C ≠ D := fun z => by rw [z, hD1] at hC1; cases hC1
      refine ⟨by rw [upd_ne (Ne.symm nCp), upd_same], kvD D C 0 0, rfl, by show 4 ≤ 15; decide, ?_⟩
      have back : ∀ {b}, H1 b = none → H b = none := fun {b} e => by
        cases z : H b with
        | none => rfl
        | some u => rw [k1 b u z] at e; cases e
      refine fin p D C _ _ _ (fun b u e => ?_) (back hp) hD (back hC1) npD (Ne.symm nCp) (Ne.symm nCD) upd_same (by rw [upd_ne (Ne.symm npD), upd_ne (Ne.symm nCD), upd_ne (Ne.symm npD)]; exact hD1) (by rw [upd_ne nCp, upd_same])
      have e1 := k1 b u e
      have n1 : b ≠ p := ne_of_none e1 hp
      have n2 : b ≠ C := ne_of_none e1 hC1
      rw [upd_ne n1, upd_ne n2, upd_ne n1]
      exact e1
end K79
set_option maxHeartbeats 4000000
namespace K79
open PySem L2 Evl Lf
variable {P : Program} {w : World} {K : PySem.W.Frag} {mg : Str → Option Value} {base : Heap} {f : Addr} {fd : FuncData}
abbrev FnB (P : Program) (w : World) (K : PySem.W.Frag) (mg : Str → Option Value) (base : Heap) (x : Str) (k : Nat) (Pre : List D → Prop) (Post : List D → D → Prop) : Prop := FnS P w K mg base x k (blobSp RD Pre Post)
/-! ### _law_pick -/
def prePick (ds : List D) : Prop := ∃ L : List D, 0 < L.length ∧ L.length < 1000000 ∧ ds = [.list L]
def postPick (ds : List D) (r : D) : Prop := ∃ L : List D, ds = [.list L] ∧ r ∈ L
/-! ### _law_shuffled -/
def preShuf (ds : List D) : Prop := ∃ A : List Nat, A.length < 1000 ∧ ds = [lstD A]
def postShuf (ds : List D) (r : D) : Prop := ∃ A B : List Nat, ds = [lstD A] ∧ B.Perm A ∧ r = lstD B
theorem sc_shuf : FnScope ["draw", "some", "rest", "found"] ["draw", "some"] (defScope (top 62)) := ⟨rfl, rfl, rfl, by decide +kernel, rfl, by decide +kernel, by decide +kernel⟩
theorem erase_perm {A B : List Nat} {n : Nat} (h : n < A.length) : (A.eraseIdx n ++ (B ++ [A[n]])).Perm (A ++ B) := by
  have e : A = A.take n ++ A[n] :: A.drop (n + 1) := by
    rw [List.getElem_cons_drop, List.take_append_drop]
  have e2 : A.eraseIdx n = A.take n ++ A.drop (n + 1) := List.eraseIdx_eq_take_drop_succ ..
  rw [e2]
  have : (A ++ B).Perm ((A.take n ++ A[n] :: A.drop (n + 1)) ++ B) := by rw [← e]
  refine List.Perm.trans ?_ this.symm
  rw [← List.append_assoc]
  refine (List.perm_append_comm).trans ?_
  show (A[n] :: ((A.take n ++ A.drop (n + 1)) ++ B)).Perm _
  rw [List.append_assoc, List.append_assoc]
  exact List.perm_middle.symm
theorem ok_shuf (T : Txt mg) (F : Fun K "_law_shuffled" "_law_shuffled" (top 62) f fd) (F1 : FnB P w K mg base "_law_take" 2 preTake postTake) : FnOk P w K mg base CX0 3 f fd ["draw", "some"] (blobSp RD preShuf postShuf) := by
  refine fn_blob F sc_shuf RD_w (fun ds h => by obtain ⟨_, _, rfl⟩ := h; rfl) fun w0 ds h => ?_
  obtain ⟨A, hA, rfl⟩ := h
  refine seq (gs_par2 (i := 2) (j := 3) rfl rfl (by decide) (.inl rfl) (.inl rfl) (ga_cons (ge_list rfl T.list (v 1 rfl) (.l .sh) (fun _ => rfl)) (ga_cons l0 ga_nil (fun _ => rfl)) (fun _ => rfl)) rfl rfl (Nat.le_of_ble_eq_true rfl) (Nat.le_of_ble_eq_true rfl) rfl (.inl ⟨rfl, rfl, sw_at rfl⟩)) ?_
  refine gss_cons (Mid := fun Γ => ∃ B : List Nat, B.Perm A ∧ Γ = [.ob (RD w0), .sh (lstD A), .ol (natsD []), .ol (natsD B)])
    (gs_while (I := fun M Γ => ∃ C B : List Nat, (C ++ B).Perm A ∧ M = C.length ∧ Γ = [.ob (RD w0), .sh (lstD A), .ol (natsD C), .ol (natsD B)]) ⟨A.length, A, [], by simp, rfl, rfl⟩ ?_) ?_
  · rintro M Γ ⟨C, B, hp, rfl, rfl⟩
    have hl := hp.length_eq
    rw [List.length_append] at hl
    refine ⟨!decide (C = []), _, by rw [← eqv_nil]; exact gt_cmp (bo 2 rfl) l0 (og_neL (.bo rfl) .ol (pl_shaped pl_lst (by decide)) (pl_shaped pl_nil (by decide))) rfl, fun hk => ?_, fun hk => ?_⟩
    · have hne : C ≠ [] := by simpa using hk
      have hpos : 0 < C.length := List.length_pos_iff.mpr hne
      refine gss_cons (Mid := fun Γ => ∃ m', m' < C.length ∧ ∃ C B : List Nat, (C ++ B).Perm A ∧ m' = C.length ∧ Γ = [.ob (RD w0), .sh (lstD A), .ol (natsD C), .ol (natsD B)]) (gs_appX (i := 3) (bo 3 rfl) rfl (gy_popAt (i := 2) (bo 2 rfl) (gx_callB F1 RD_w (Nat.le_of_ble_eq_true rfl) rfl (bo 0 rfl) (ds := [.int C.length]) (ga_cons (geq (ge_len rfl T.len (bo 2 rfl) (.l (.bo rfl)) (fun _ => rfl)) (by rw [natsD_len])) ga_nil (fun _ => rfl)) rfl (ni_of rfl) ⟨C.length, by omega, by omega, rfl⟩ rfl (fun _ => rfl) (fun _ => rfl)) ?_ rfl (by rw [natsD_len]; omega) (ni_of rfl) (fun _ _ => rfl) rfl (fun _ => rfl)) ?_ (fun _ _ => rfl) rfl (fun _ => rfl)) fun Γ h => gss_nil h
      · rintro s ⟨r, rfl, m, n, e, hn, rfl⟩
        simp at e
        exact ⟨n, rfl, by rw [natsD_len]; omega⟩
      · rintro Γ1 s ⟨n, d, hd, rfl, rfl⟩
        unfold natsD at hd
        rw [List.getElem?_map] at hd
        cases hc : C[n]? with
        | none => rw [hc] at hd; cases hd
        | some a =>
          rw [hc] at hd
          cases hd
          obtain ⟨hlt, ha⟩ := List.getElem?_eq_some_iff.mp hc
          refine ⟨natsD B, _, rfl, rfl, by rw [natsD_len]; omega, (C.eraseIdx n).length, by rw [List.length_eraseIdx_of_lt hlt]; omega, C.eraseIdx n, B ++ [a], ?_, rfl, ?_⟩
          · rw [← ha]
            exact (erase_perm hlt).trans hp
          · have e1 : (natsD C).eraseIdx n = natsD (C.eraseIdx n) := by unfold natsD; rw [List.eraseIdx_eq_take_drop_succ, List.eraseIdx_eq_take_drop_succ, List.map_append, List.map_take, List.map_drop]
            have e2 : natsD B ++ [PyData.int a] = natsD (B ++ [a]) := by unfold natsD; rw [List.map_append]; rfl
            rw [← e1, ← e2]
            rfl
    · have hz : C = [] := by simpa using hk
      subst hz
      exact ⟨B, by simpa using hp, rfl⟩
  · rintro Γ ⟨B, hp, rfl⟩
    exact ret (bo 3 rfl) ⟨rfl, _, .bo rfl .ol, A, B, rfl, hp, rfl⟩
end K79
set_option maxHeartbeats 4000000
namespace K79
open PySem L2 Evl Lf
variable {P : Program} {w : World} {K : PySem.W.Frag} {mg : Str → Option Value} {base : Heap} {f : Addr} {fd : FuncData}
/-! ### drawn webs: the ties -/
theorem ms2 {α : Type} (le : α → α → Bool) (a b : α) : [a, b].mergeSort le = if le a b then [a, b] else [b, a] := by
  simp only [List.mergeSort, List.MergeSort.Internal.splitInTwo]
  simp
  cases h : le a b <;> simp [List.merge, h]
def mk2 (a b : Nat) : Nat × Nat := (min a b, max a b)
theorem sort_two (a b : Nat) : PyData.tuple ([PyData.int a, .int b].mergeSort (PySem.W.dataLe false id)) = tieD (mk2 a b) := by
  have h := sort_ints [(a : Int), (b : Int)]
  rw [show ([(a : Int), (b : Int)].map PyData.int) = [PyData.int a, .int b] from rfl] at h
  rw [h, ms2]
  unfold tieD mk2
  by_cases e : a ≤ b
  · rw [if_pos (by simpa using e)]
    rw [Nat.min_eq_left e, Nat.max_eq_right e]
    rfl
  · rw [if_neg (by simpa using e)]
    rw [Nat.min_eq_right (by omega), Nat.max_eq_left (by omega)]
    rfl
def tieL (t : Nat × Nat) : List Int := [(t.1 : Int), (t.2 : Int)]
theorem tie_hp (t : Nat × Nat) : tieD t = hpD (tieL t) := rfl
def leT (t u : Nat × Nat) : Bool := leH (tieL t) (tieL u)
def sortT (ts : List (Nat × Nat)) : List (Nat × Nat) := ts.mergeSort leT
theorem sort_ties (ts : List (Nat × Nat)) : (ts.map tieD).mergeSort (PySem.W.dataLe false id) = (sortT ts).map tieD :=
  (List.map_mergeSort fun a _ b _ => (dataLe_hp (tieL a) (tieL b)).symm).symm
theorem leH_trans (a b c : List Int) (h1 : leH a b = true) (h2 : leH b c = true) : leH a c = true := by
  unfold leH at *
  simp only [decide_eq_true_eq] at *
  exact List.le_trans h1 h2
theorem leH_total (a b : List Int) : (leH a b || leH b a) = true := by
  unfold leH
  simp only [Bool.or_eq_true, decide_eq_true_eq]
  exact List.le_total a b
theorem sortT_twice (ts : List (Nat × Nat)) : sortT (sortT ts) = sortT ts :=
  List.mergeSort_of_pairwise (List.pairwise_mergeSort (fun a b c => leH_trans (tieL a) (tieL b) (tieL c)) (fun a b => leH_total (tieL a) (tieL b)) ts)
theorem sortT_mem {ts : List (Nat × Nat)} {t : Nat × Nat} : t ∈ sortT ts ↔ t ∈ ts := (List.mergeSort_perm ts leT).mem_iff
theorem sortT_len {ts : List (Nat × Nat)} : (sortT ts).length = ts.length := List.length_mergeSort ts
/-- the ties that hang the first places of the line together -/
structure TInv (n : Nat) (B : List Nat) (k : Nat) (T : List (Nat × Nat)) : Prop where
  len : T.length = k
  lt : ∀ t, t ∈ T → t.1 < t.2 ∧ t.2 < n
  con : ∀ A : Nat → Prop, (∀ t, t ∈ T → (A t.1 ↔ A t.2)) → ∀ i, i ≤ k → (A (B.getD i 0) ↔ A (B.getD 0 0))
theorem tinv_zero {n : Nat} {B : List Nat} : TInv n B 0 [] := ⟨rfl, fun t h => by simp at h, fun A _ i hi => by
  have : i = 0 := by omega
  rw [this]⟩
theorem mk2_lt {a b n : Nat} (ha : a < n) (hb : b < n) (hne : a ≠ b) : (mk2 a b).1 < (mk2 a b).2 ∧ (mk2 a b).2 < n := by
  unfold mk2
  simp only
  omega
theorem mk2_iff {a b : Nat} {A : Nat → Prop} (h : A (mk2 a b).1 ↔ A (mk2 a b).2) : A a ↔ A b := by
  unfold mk2 at h
  simp only at h
  by_cases e : a ≤ b
  · rwa [Nat.min_eq_left e, Nat.max_eq_right e] at h
  · rw [Nat.min_eq_right (by omega), Nat.max_eq_left (by omega)] at h
    exact h.symm
theorem tinv_succ {n k u : Nat} {B : List Nat} {T : List (Nat × Nat)} (h : TInv n B k T) (hB : B.Perm (List.range n)) (hk : k + 1 < n) (hu : u ≤ k) : TInv n B (k + 1) (T ++ [mk2 (B.getD (k + 1) 0) (B.getD u 0)]) := by
  have hl : B.length = n := by rw [hB.length_eq, List.length_range]
  have nd : B.Nodup := hB.nodup_iff.mpr List.nodup_range
  have hin : ∀ i, i < n → B.getD i 0 < n := fun i hi => by
    have : B.getD i 0 ∈ B := by rw [List.getD_eq_getElem?_getD, List.getElem?_eq_getElem (by omega)]; exact List.getElem_mem _
    exact List.mem_range.mp (hB.mem_iff.mp this)
  have hne : B.getD (k + 1) 0 ≠ B.getD u 0 := fun e => by
    rw [List.getD_eq_getElem?_getD, List.getD_eq_getElem?_getD, List.getElem?_eq_getElem (by omega), List.getElem?_eq_getElem (by omega)] at e
    exact (List.pairwise_iff_getElem.mp nd) u (k + 1) (by omega) (by omega) (by omega) (show B[u]'(by omega) = B[k + 1]'(by omega) from e.symm)
  refine ⟨by rw [List.length_append, h.len]; rfl, fun t ht => ?_, fun A hA i hi => ?_⟩
  · rcases List.mem_append.mp ht with z | z
    · exact h.lt t z
    · obtain rfl := List.mem_singleton.mp z
      exact mk2_lt (hin _ hk) (hin _ (by omega)) hne
  · have old := h.con A (fun t ht => hA t (List.mem_append_left _ ht))
    by_cases e : i ≤ k
    · exact old i e
    · obtain rfl : i = k + 1 := by omega
      exact (mk2_iff (hA _ (List.mem_append_right _ List.mem_cons_self))).trans (old u hu)
theorem tinv_more {n a b : Nat} {T : List (Nat × Nat)} (ha : a < n) (hb : b < n) (hne : a ≠ b) (h : ∀ t, t ∈ T → t.1 < t.2 ∧ t.2 < n) : ∀ t, t ∈ T ++ [mk2 a b] → t.1 < t.2 ∧ t.2 < n := fun t ht => by
  rcases List.mem_append.mp ht with z | z
  · exact h t z
  · obtain rfl := List.mem_singleton.mp z
    exact mk2_lt ha hb hne
/-- the web -/
theorem drawn_good {n : Nat} {B : List Nat} {T1 T2 : List (Nat × Nat)} (h1 : 1 ≤ n) (h6 : n ≤ 6) (hB : B.Perm (List.range n)) (h : TInv n B (n - 1) T1) (lt : ∀ t, t ∈ T1 ++ T2 → t.1 < t.2 ∧ t.2 < n) (hl : T1.length + T2.length ≤ 12) : Wb.Good ⟨n, sortT (T1 ++ T2)⟩ := by
  refine ⟨⟨h1, h6, ?_, fun t ht => lt t (sortT_mem.mp ht)⟩, ?_, fun A a0 hA i hi => ?_⟩
  · show (sortT (T1 ++ T2)).length ≤ 12
    rw [sortT_len, List.length_append]; exact hl
  · show ((sortT (T1 ++ T2)).map tieD).mergeSort _ = _
    rw [sort_ties, sortT_twice]
  · have hc := h.con A fun t ht => hA t (sortT_mem.mpr (List.mem_append_left _ ht))
    have hlB : B.length = n := by rw [hB.length_eq, List.length_range]
    have all : ∀ j, j < n → (A j ↔ A (B.getD 0 0)) := fun j hj => by
      have hm : j ∈ B := hB.mem_iff.mpr (List.mem_range.mpr hj)
      obtain ⟨k, hk, e⟩ := List.getElem_of_mem hm
      have := hc k (by omega)
      rwa [List.getD_eq_getElem?_getD, List.getElem?_eq_getElem hk, Option.getD_some, e] at this
    exact (all i hi).mpr ((all 0 (by omega)).mp a0)
theorem nats_inj : ∀ {a b : List Nat}, natsD a = natsD b → a = b
  | [], [], _ => rfl
  | x :: a, y :: b, h => by
    unfold natsD at h
    simp only [List.map_cons, List.cons.injEq, PyData.int.injEq] at h
    rw [nats_inj (a := a) (b := b) h.2, show x = y by omega]
  | [], _ :: _, h => by cases h
  | _ :: _, [], h => by cases h
/-! ### _law_web_of -/
def preWeb (ds : List D) : Prop := ∃ n m : Nat, 1 ≤ n ∧ n ≤ 6 ∧ m ≤ 100 ∧ ds = [.int n, .int m]
def moreN (n m : Nat) : Nat := if 1 < n then min m (13 - n) else 0
def postWeb (ds : List D) (r : D) : Prop := ∃ (n m : Nat) (W : Wb), ds = [.int n, .int m] ∧ W.Good ∧ W.n = n ∧ W.ts.length = n - 1 + moreN n m ∧ r = W.D
theorem sc_webof : FnScope ["draw", "places", "more", "line", "ties", "at", "lap", "one", "other"] ["draw", "places", "more"] (defScope (top 64)) := ⟨rfl, rfl, rfl, by decide +kernel, rfl, by decide +kernel, by decide +kernel⟩
theorem alike_two (a b : Int) : PySem.W.AllAlike [.int a, .int b] := fun d hd e he => by
  simp at hd he
  rcases hd with rfl | rfl <;> rcases he with rfl | rfl <;> rfl
theorem sortable_ints (A : List Int) : PySem.W.Sortable (A.map .int) := .inr fun d hd => by
  obtain ⟨i, _, rfl⟩ := List.mem_map.mp hd
  exact ⟨fun z => (nomatch z), fun xs z => (nomatch z)⟩
theorem tie_map (T : List (Nat × Nat)) : T.map tieD = (T.map tieL).map hpD := by rw [List.map_map]; rfl
theorem nat_at {B : List Nat} {i : Nat} (h : i < B.length) : atI (natsD B) (i : Int) = some (.int (B.getD i 0 : Nat)) := atI_at (by
  unfold natsD
  rw [List.getElem?_map, List.getD_eq_getElem?_getD, List.getElem?_eq_getElem h]
  rfl)
theorem ok_webof (T : Txt mg) (F : Fun K "_law_web_of" "_law_web_of" (top 64) f fd) (F1 : FnB P w K mg base "_law_take" 2 preTake postTake) (F2 : FnB P w K mg base "_law_shuffled" 3 preShuf postShuf) : FnOk P w K mg base CX0 4 f fd ["draw", "places", "more"] (blobSp RD preWeb postWeb) := by
  refine fn_blob F sc_webof RD_w (fun ds h => by obtain ⟨_, _, _, _, _, rfl⟩ := h; rfl) fun w0 ds h => ?_
  obtain ⟨n, m, n1, n6, hm, rfl⟩ := h
  refine gss_cons (Mid := fun Γ => ∃ B : List Nat, B.Perm (List.range n) ∧ Γ = [.ob (RD w0), .sh (.int n), .sh (.int m), .sh (lstD B), .ol [], .no, .no, .no, .no])
    (gs_par2X (i := 3) (j := 4) rfl rfl (by decide) (.inl rfl) (.inl rfl)
      (gax_two (gx_callB F2 RD_w (Nat.le_of_ble_eq_true rfl) rfl (bo 0 rfl) (ds := [lstD (List.range n)]) (ga_cons (geq (ge_frz (ge_listRg (n := (n : Int)) rfl T.list rfl T.range (v 1 rfl) (by omega) (by omega) (fun _ => rfl))) (by rw [Int.toNat_natCast]; rfl)) ga_nil (fun _ => rfl)) rfl (ni_of rfl) ⟨List.range n, by rw [List.length_range]; omega, rfl⟩ rfl (fun _ => rfl) (fun _ => rfl)) (fun s hs => l0.toX) (fun _ => rfl) (fun _ => rfl))
      (Nat.le_of_ble_eq_true rfl) (Nat.le_of_ble_eq_true rfl) ?_ (.inl ⟨rfl, rfl, sw_at rfl⟩)) ?_
  · rintro ss ⟨s1, s2, rfl, ⟨r, rfl, A, B, e, hp, rfl⟩, rfl⟩
    simp [lstD, natsD] at e
    have e : List.range n = A := nats_inj (by unfold natsD; exact e)
    exact ⟨_, _, rfl, rfl, rfl, B, e ▸ hp, rfl⟩
  · rintro Γ ⟨B, hB, rfl⟩
    have hl : B.length = n := by rw [hB.length_eq, List.length_range]
    refine gss_cons (Mid := fun Γ => ∃ T s5, TInv n B (n - 1) T ∧ Γ = [.ob (RD w0), .sh (.int n), .sh (.int m), .sh (lstD B), .ol (T.map tieD), s5, .no, .no, .no])
      (gs_for (L := (List.range (n - 1)).map fun i => .int ((i + 1 : Nat) : Int)) (p := .nm 5) (I := fun k Γ => ∃ T s5, TInv n B k T ∧ Γ = [.ob (RD w0), .sh (.int n), .sh (.int m), .sh (lstD B), .ol (T.map tieD), s5, .no, .no, .no])
        (IG.of (rng1n n n1) (ig_rg2 rfl T.range ge_int (v 1 rfl) (by omega) (fun _ => rfl) (fun _ => rfl))) (pg_nm rfl (.inl rfl)) ⟨[], .no, tinv_zero, rfl⟩ ?_ ?_ (fun _ _ => rfl)) ?_
    · rintro k Γ d ⟨T1, s5, inv, rfl⟩ hd
      rw [List.getElem?_map] at hd
      by_cases hk : k < n - 1
      · rw [List.getElem?_range hk] at hd
        cases hd
        refine ⟨_, rfl, ?_⟩
        have hn : ((k + 1 : Nat) : Int) = ((k + 1 : Nat) : Int) := rfl
        refine gss_cons (gs_appX (i := 4) (ds0 := T1.map tieD) (bo 4 rfl) rfl (gx_tupleL (P' := fun s => ∃ u, u ≤ k ∧ s = .sh (tieD (mk2 (B.getD (k + 1) 0) (B.getD u 0)))) rfl T.tuple (gx_sorted (P' := fun s => ∃ u, u ≤ k ∧ s = .ol ([PyData.int (B.getD (k + 1) 0 : Nat), .int (B.getD u 0 : Nat)].mergeSort (PySem.W.dataLe false id))) rfl T.sorted
          (gx_lst (gax_two (ge_ixL (v 3 rfl) (v 5 rfl) .sh (nat_at (i := k + 1) (by omega)) (pix (fun _ _ => rfl))).toX (fun s hs => gx_ixL (P' := fun s => ∃ u, u ≤ k ∧ s = .sh (.int (B.getD u 0 : Nat))) (v 3 rfl) (gx_callB F1 RD_w (Nat.le_of_ble_eq_true rfl) rfl (bo 0 rfl) (ds := [.int (k + 1 : Nat)]) (ga_cons (v 5 rfl) ga_nil (fun _ => rfl)) rfl (by subst hs; exact (ni_of rfl)) ⟨_, by omega, by omega, rfl⟩ rfl (fun _ => rfl) (fun _ => rfl)) .sh ?_ (pix (fun _ _ => rfl))) (fun _ => rfl) (fun _ => rfl)) ?_) ?_ (fun _ => rfl)) ?_ (fun _ => rfl)).toY ?_ (fun _ _ => rfl) rfl (fun _ => rfl)) fun Γ h => gss_nil h
        · rintro s ⟨r, rfl, m', u, e, hu, rfl⟩
          simp at e
          exact ⟨u, _, rfl, nat_at (by omega), u, by omega, rfl⟩
        · rintro ss ⟨s1, s2, rfl, rfl, u, hu, rfl⟩
          exact ⟨[_, _], rfl, by simp⟩
        · rintro s ⟨ds, rfl, s1, s2, e, rfl, u, hu, rfl⟩
          obtain ⟨a1, a2, rfl⟩ : ∃ a1 a2, ds = [a1, a2] := by
            match ds, e with
            | [a1, a2], _ => exact ⟨a1, a2, rfl⟩
          simp only [List.map_cons, List.map_nil, List.cons.injEq, Sl.sh.injEq, and_true] at e
          obtain ⟨rfl, rfl⟩ := e
          exact ⟨_, .l .ol, alike_two _ _, sortable_ints [(B.getD (k + 1) 0 : Nat), (B.getD u 0 : Nat)], fun d hd => by simp at hd; rcases hd with rfl | rfl <;> simp [PyData.depth], u, hu, rfl⟩
        · rintro s ⟨u, hu, rfl⟩
          exact ⟨_, .ol, u, hu, by rw [sort_two]⟩
        · rintro Γ1 s ⟨rfl, u, hu, rfl⟩
          refine ⟨T1.map tieD, _, rfl, rfl, by rw [List.length_map, inv.len]; omega, T1 ++ [mk2 (B.getD (k + 1) 0) (B.getD u 0)], .sh (.int (k + 1 : Nat)), tinv_succ inv hB (by omega) hu, ?_⟩
          rw [List.map_append]
          rfl
      · rw [List.getElem?_eq_none (by simp; omega)] at hd
        cases hd
    · rintro Γ ⟨T1, s5, inv, rfl⟩
      rw [List.length_map, List.length_range] at inv
      exact ⟨T1, s5, inv, rfl⟩
    · rintro Γ ⟨T1, s5, inv, rfl⟩
      have l1 := inv.len
      have hmn : moreN n m ≤ 13 - n ∧ (n = 1 → moreN n m = 0) := by unfold moreN; split <;> omega
      refine gss_cons (Mid := fun Γ => ∃ T2 s5 s6 s7 s8, T2.length = moreN n m ∧ (∀ t, t ∈ T1 ++ T2 → t.1 < t.2 ∧ t.2 < n) ∧ Γ = [.ob (RD w0), .sh (.int n), .sh (.int m), .sh (lstD B), .ol ((T1 ++ T2).map tieD), s5, s6, s7, s8])
        (gs_for (L := (List.range (moreN n m)).map fun i => .int (i : Nat)) (p := .nm 6) (I := fun k Γ => ∃ T2 s5 s6 s7 s8, T2.length = k ∧ (∀ t, t ∈ T1 ++ T2 → t.1 < t.2 ∧ t.2 < n) ∧ Γ = [.ob (RD w0), .sh (.int n), .sh (.int m), .sh (lstD B), .ol ((T1 ++ T2).map tieD), s5, s6, s7, s8])
          (IG.of (rg1_eq (moreN n m)) (ig_rg1 rfl T.range (geq (ge_ifI (k := decide ((1 : Int) < n)) (i := if (13 : Int) - n < m then (13 : Int) - n else m) (j := 0) (gt_cmp (v 1 rfl) ge_int og_gt rfl) (fun _ => ge_min2 rfl T.min (v 2 rfl) (ge_bin ge_int (v 1 rfl) og_sub) (fun _ => rfl) (fun _ => rfl) (fun _ => rfl)) (fun _ => ge_int)) ?_) (by omega) (fun _ => rfl))) (pg_nm rfl (.inl rfl)) ⟨[], s5, .no, .no, .no, rfl, by simpa using inv.lt, by simp⟩ ?_ ?_ (fun _ _ => rfl)) ?_
      · congr 1
        unfold moreN
        by_cases h1 : 1 < n
        · rw [if_pos (by rw [decide_eq_true_eq]; omega), if_pos h1]
          split <;> omega
        · rw [if_neg (by rw [decide_eq_true_eq]; omega), if_neg h1]
          rfl
      · rintro k Γ d ⟨T2, s5, s6, s7, s8, l2, lt, rfl⟩ hd
        rw [List.getElem?_map] at hd
        by_cases hk : k < moreN n m
        · rw [List.getElem?_range hk] at hd
          cases hd
          have hn2 : 2 ≤ n := by
            by_cases e : n = 1
            · have := hmn.2 e; omega
            · omega
          refine ⟨_, rfl, ?_⟩
          -- one
          refine gss_cons (Mid := fun Γ => ∃ a : Nat, a < n ∧ Γ = [.ob (RD w0), .sh (.int n), .sh (.int m), .sh (lstD B), .ol ((T1 ++ T2).map tieD), s5, .sh (.int k), .sh (.int a), s8])
            (gs_setX (i := 7) rfl (.inl rfl) (gx_callB F1 RD_w (Nat.le_of_ble_eq_true rfl) rfl (bo 0 rfl) (ds := [.int n]) (ga_cons (v 1 rfl) ga_nil (fun _ => rfl)) rfl (ni_of rfl) ⟨_, by omega, by omega, rfl⟩ rfl (fun _ => rfl) (fun _ => rfl)) (Nat.le_of_ble_eq_true rfl) ?_ (fun _ _ => rfl)) ?_
          · rintro s ⟨r, rfl, m', a, e, ha, rfl⟩
            simp at e
            exact ⟨rfl, a, by omega, rfl⟩
          · rintro Γ ⟨a, ha, rfl⟩
            -- other
            refine gss_cons (Mid := fun Γ => ∃ b : Nat, b < n ∧ b ≠ a ∧ Γ = [.ob (RD w0), .sh (.int n), .sh (.int m), .sh (lstD B), .ol ((T1 ++ T2).map tieD), s5, .sh (.int k), .sh (.int a), .sh (.int b)])
              (gs_setX (i := 8) rfl (.inl rfl) (gx_modI (P := fun s => ∃ u : Nat, u < n - 1 ∧ s = .sh (.int (a + 1 + u))) (P2 := fun s => s = .sh (.int n)) (Q2 := fun s => ∃ b : Nat, b < n ∧ b ≠ a ∧ s = .sh (.int b)) (gx_addI (P := fun s => s = .sh (.int (a + 1))) (P2 := fun s => ∃ u : Nat, u < n - 1 ∧ s = .sh (.int u)) (ge_bin (v 7 rfl) ge_int og_add).toX
                (fun s hs => (gx_callB F1 RD_w (Nat.le_of_ble_eq_true rfl) rfl (bo 0 rfl) (ds := [.int (n - 1)]) (ga_cons (ge_bin (v 1 rfl) ge_int og_sub) ga_nil (fun _ => rfl)) rfl (by subst hs; exact (ni_of rfl)) ⟨_, by omega, by omega, rfl⟩ rfl (fun _ => rfl) (fun _ => rfl)).imp ?_) ?_) (fun s hs => (v 1 rfl).toX) ?_) (Nat.le_of_ble_eq_true rfl) ?_ (fun _ _ => rfl)) ?_
            · rintro s ⟨r, rfl, m', u, e, hu, rfl⟩
              simp at e
              exact ⟨u, by omega, rfl⟩
            · rintro s1 s2 rfl ⟨u, hu, rfl⟩
              exact ⟨_, _, rfl, rfl, u, hu, rfl⟩
            · rintro s1 s2 ⟨u, hu, rfl⟩ rfl
              refine ⟨_, _, rfl, rfl, by omega, ?_⟩
              have h0 := Int.fmod_nonneg_of_pos ((a : Int) + 1 + u) (show (0 : Int) < n by omega)
              have h1 := Int.fmod_lt_of_pos ((a : Int) + 1 + u) (show (0 : Int) < n by omega)
              have h2 := Int.mul_fdiv_add_fmod ((a : Int) + 1 + u) n
              refine ⟨(((a : Int) + 1 + u).fmod n).toNat, by omega, fun e => ?_, by rw [Int.toNat_of_nonneg h0]⟩
              have h3 : ((a : Int) + 1 + u).fmod n = a := by omega
              rw [h3] at h2
              generalize ((a : Int) + 1 + u).fdiv n = q at h2
              have h4 : (n : Int) * q = 1 + u := by omega
              have h5 : 0 < q := by
                refine Int.not_le.mp fun z => ?_
                have := Int.mul_le_mul_of_nonneg_left z (show (0 : Int) ≤ n by omega)
                omega
              have h6 : (n : Int) * 1 ≤ n * q := Int.mul_le_mul_of_nonneg_left (by omega) (by omega)
              omega
            · rintro s ⟨b, hb, hne, rfl⟩
              exact ⟨rfl, b, hb, hne, rfl⟩
            · rintro Γ ⟨b, hb, hne, rfl⟩
              refine gss_cons (gs_app (i := 4) (ds0 := (T1 ++ T2).map tieD) (ds := (T1 ++ T2).map tieD) (d := tieD (mk2 a b)) (bo 4 rfl) rfl (geq (ge_tuple rfl T.tuple (ge_sorted rfl T.sorted (ge_lst (ds := [.int a, .int b]) (ga_cons (v 7 rfl) (ga_cons (v 8 rfl) ga_nil (fun _ => rfl)) (fun _ => rfl)) (by simp)) (.l .ol) (alike_two _ _) (sortable_ints [(a : Int), (b : Int)]) (fun d hd => by simp at hd; rcases hd with rfl | rfl <;> simp [PyData.depth]) (fun _ => rfl)) .ol (fun _ => rfl)) (sort_two a b)) rfl (by rw [List.length_map, List.length_append]; omega) ?_ (fun _ _ => rfl) rfl (fun _ => rfl)) fun Γ h => gss_nil h
              refine ⟨T2 ++ [mk2 a b], s5, .sh (.int k), .sh (.int a), .sh (.int b), by rw [List.length_append, l2]; rfl, ?_, ?_⟩
              · rw [← List.append_assoc]
                exact tinv_more ha hb (Ne.symm hne) lt
              · rw [← List.append_assoc, List.map_append (l₁ := T1 ++ T2)]
                rfl
        · rw [List.getElem?_eq_none (by simp; omega)] at hd
          cases hd
      · rintro Γ ⟨T2, s5, s6, s7, s8, l2, lt, rfl⟩
        rw [List.length_map, List.length_range] at l2
        exact ⟨T2, s5, s6, s7, s8, l2, lt, rfl⟩
      · rintro Γ ⟨T2, s5, s6, s7, s8, l2, lt, rfl⟩
        have hg := drawn_good n1 n6 hB inv lt (by omega)
        refine ret (t2 (v 1 rfl) (ge_tuple rfl T.tuple (ge_sorted rfl T.sorted (bo 4 rfl) (.l (.bo rfl)) (by rw [tie_map]; exact alike_hps _) (by rw [tie_map]; exact sortable_hps fun a ha => by obtain ⟨t, _, rfl⟩ := List.mem_map.mp ha; simp [tieL]) (by rw [tie_map]; exact depth_hps _) (fun _ => rfl)) .ol (fun _ => rfl)) (fun _ => rfl) (fun _ => rfl)) ⟨rfl, _, .sh, n, m, ⟨n, sortT (T1 ++ T2)⟩, rfl, hg, rfl, ?_, ?_⟩
        · show (sortT (T1 ++ T2)).length = _
          rw [sortT_len, List.length_append, l1, l2]
        · rw [sort_ties]
          rfl
end K79
set_option maxHeartbeats 4000000
namespace K79
open PySem L2 Evl Lf
/-! ### as many lasting heaps as trees -/
def bi (b : Bool) : Int := if b then 1 else 0
def G4 (u1 p1 q12 q13 u2 p2 q21 q23 u3 p3 q31 q32 : Int) : Int := p1 * p2 * p3 + p1 * p2 * (u3 - p3) + p1 * p3 * (u2 - p2) + p2 * p3 * (u1 - p1)
  + p1 * ((q21 - p2) * (q31 - p3) + (q21 - p2) * (u3 - q31) + (u2 - q21) * (q31 - p3))
  + p2 * ((q12 - p1) * (q32 - p3) + (q12 - p1) * (u3 - q32) + (u1 - q12) * (q32 - p3))
  + p3 * ((q13 - p1) * (q23 - p2) + (q13 - p1) * (u2 - q23) + (u1 - q13) * (q23 - p2))
theorem G4_ok : ∀ p1 q12 q13 p2 q21 q23 p3 q31 q32 : Bool, (p1 = true → q12 = true ∧ q13 = true) → (p2 = true → q21 = true ∧ q23 = true) → (p3 = true → q31 = true ∧ q32 = true) →
    bi ((q13 || q23) && (q12 || q32) && (q21 || q31) && (p1 || p2 || p3)) = G4 1 (bi p1) (bi q12) (bi q13) 1 (bi p2) (bi q21) (bi q23) 1 (bi p3) (bi q31) (bi q32) := by
  decide +kernel
theorem G4_s3 (u1 p1 q12 q13 u2 p2 q21 q23 : Int) (f g h : Nat → Int) : ∀ n : Nat, (sumN n fun z => G4 u1 p1 q12 q13 u2 p2 q21 q23 1 (f z) (g z) (h z)) = G4 u1 p1 q12 q13 u2 p2 q21 q23 n (sumN n f) (sumN n g) (sumN n h)
  | 0 => by simp [sumN, G4]
  | n + 1 => by
    rw [sumN_succ, G4_s3 u1 p1 q12 q13 u2 p2 q21 q23 f g h n, sumN_succ, sumN_succ, sumN_succ]
    generalize sumN n f = F
    generalize sumN n g = G
    generalize sumN n h = H
    generalize f n = f'
    generalize g n = g'
    generalize h n = h'
    unfold G4
    push_cast
    grind
theorem G4_s2 (u1 p1 q12 q13 u3 p3 q31 q32 : Int) (f g h : Nat → Int) : ∀ n : Nat, (sumN n fun z => G4 u1 p1 q12 q13 1 (f z) (g z) (h z) u3 p3 q31 q32) = G4 u1 p1 q12 q13 n (sumN n f) (sumN n g) (sumN n h) u3 p3 q31 q32
  | 0 => by simp [sumN, G4]
  | n + 1 => by
    rw [sumN_succ, G4_s2 u1 p1 q12 q13 u3 p3 q31 q32 f g h n, sumN_succ, sumN_succ, sumN_succ]
    generalize sumN n f = F
    generalize sumN n g = G
    generalize sumN n h = H
    generalize f n = f'
    generalize g n = g'
    generalize h n = h'
    unfold G4
    push_cast
    grind
theorem G4_s1 (u2 p2 q21 q23 u3 p3 q31 q32 : Int) (f g h : Nat → Int) : ∀ n : Nat, (sumN n fun z => G4 1 (f z) (g z) (h z) u2 p2 q21 q23 u3 p3 q31 q32) = G4 n (sumN n f) (sumN n g) (sumN n h) u2 p2 q21 q23 u3 p3 q31 q32
  | 0 => by simp [sumN, G4]
  | n + 1 => by
    rw [sumN_succ, G4_s1 u2 p2 q21 q23 u3 p3 q31 q32 f g h n, sumN_succ, sumN_succ, sumN_succ]
    generalize sumN n f = F
    generalize sumN n g = G
    generalize sumN n h = H
    generalize f n = f'
    generalize g n = g'
    generalize h n = h'
    unfold G4
    push_cast
    grind
/-- how many from t on, below n -/
theorem above {t n : Nat} (h : t ≤ n) : (sumN n fun z => bi (decide (t ≤ z))) = (n : Int) - t := by
  induction n with
  | zero => simp [sumN]; omega
  | succ n ih =>
    rw [sumN_succ]
    by_cases e : t ≤ n
    · rw [ih e, decide_eq_true e]
      simp [bi]
      omega
    · have : t = n + 1 := by omega
      subst this
      rw [decide_eq_false (by omega), sumN_congr (g := fun _ => 0) fun i hi => by rw [decide_eq_false (by omega)]; rfl, sumN_zero]
      simp [bi]
def ok4 (d e f x y z : Nat) : Bool := (decide (d ≤ x) || decide (d ≤ y)) && (decide (e ≤ x) || decide (e ≤ z)) && (decide (f ≤ y) || decide (f ≤ z)) && (decide (d + e ≤ x) || decide (d + f ≤ y) || decide (e + f ≤ z))
theorem cnt4 (a b c d e f : Nat) : (sumN (a + d + e) fun x => sumN (b + d + f) fun y => sumN (c + e + f) fun z => bi (ok4 d e f x y z)) = (T4 a b c d e f : Nat) := by
  have key : ∀ x y z : Nat, bi (ok4 d e f x y z) = G4 1 (bi (decide (d + e ≤ x))) (bi (decide (e ≤ x))) (bi (decide (d ≤ x))) 1 (bi (decide (d + f ≤ y))) (bi (decide (f ≤ y))) (bi (decide (d ≤ y))) 1 (bi (decide (e + f ≤ z))) (bi (decide (f ≤ z))) (bi (decide (e ≤ z))) := fun x y z => by
    rw [← G4_ok]
    · rfl
    · intro h; have h := of_decide_eq_true h; exact ⟨decide_eq_true (by omega), decide_eq_true (by omega)⟩
    · intro h; have h := of_decide_eq_true h; exact ⟨decide_eq_true (by omega), decide_eq_true (by omega)⟩
    · intro h; have h := of_decide_eq_true h; exact ⟨decide_eq_true (by omega), decide_eq_true (by omega)⟩
  simp only [key, G4_s3, G4_s2, G4_s1]
  rw [above (by omega), above (by omega), above (by omega), above (by omega), above (by omega), above (by omega), above (by omega), above (by omega), above (by omega)]
  unfold G4 T4
  push_cast
  grind
def ok3 (d x y : Nat) : Bool := decide (d ≤ x) || decide (d ≤ y)
theorem cnt3 (a b d : Nat) : (sumN (a + d) fun x => sumN (b + d) fun y => bi (ok3 d x y)) = (T3 a b d : Nat) := by
  have key : ∀ x y : Nat, bi (ok3 d x y) = bi (decide (d ≤ x)) + (1 - bi (decide (d ≤ x))) * bi (decide (d ≤ y)) := fun x y => by
    unfold ok3
    cases decide (d ≤ x) <;> cases decide (d ≤ y) <;> decide
  have k2 : ∀ n : Nat, ∀ c : Int, sumN n (fun _ => c) = n * c := fun n c => by
    induction n with
    | zero => simp [sumN]
    | succ n ih => rw [sumN_succ, ih]; push_cast; grind
  simp only [key, sumN_add, sumN_mul, k2, sumN_mulR, sumN_sub]
  rw [above (by omega), above (by omega)]
  unfold T3
  push_cast
  grind
/-! ### lists of counted things -/
theorem len_flat {α : Type} {n : Nat} {g : Nat → List α} : ((((List.range n).flatMap g).length : Nat) : Int) = sumN n fun i => ((g i).length : Int) := by
  induction n with
  | zero => rfl
  | succ n ih =>
    rw [List.range_succ, List.flatMap_append, List.length_append, sumN_succ, ← ih]
    simp
theorem len_filter {n : Nat} {k : Nat → Bool} : ((((List.range n).filter k).length : Nat) : Int) = sumN n fun i => bi (k i) := by
  induction n with
  | zero => rfl
  | succ n ih =>
    rw [List.range_succ, List.filter_append, List.length_append, sumN_succ, ← ih]
    cases h : k n <;> simp [h, bi]
end K79
set_option maxHeartbeats 4000000
namespace K79
open PySem L2 Evl Lf
def wI (W : Wb) (A : Nat → Bool) (i j : Nat) : Int := if A j = true then (wt W i j : Int) else 0
theorem inA_w {W : Wb} {A : Nat → Bool} {i j : Nat} (h : j ≠ i) : (if A j = true ∧ j ≠ i then -(tab W.ts i j) else 0) = wI W A i j := by
  unfold wI
  by_cases e : A j = true
  · rw [if_pos ⟨e, h⟩, if_pos e, tab_wt (Ne.symm h)]; omega
  · rw [if_neg (fun z => e z.1), if_neg e]
theorem inA_4 {W : Wb} (hn : W.n = 4) {A : Nat → Bool} (h0 : A 0 = false) : inA W A 1 = wI W A 1 2 + wI W A 1 3 ∧ inA W A 2 = wI W A 1 2 * 0 + wI W A 2 1 + wI W A 2 3 ∧ inA W A 3 = wI W A 3 1 + wI W A 3 2 := by
  have z : ∀ i, wI W A i 0 = 0 := fun i => by unfold wI; rw [if_neg (by rw [h0]; simp)]
  have me : ∀ i, (if A i = true ∧ i ≠ i then -(tab W.ts i i) else 0) = 0 := fun i => if_neg (fun h => h.2 rfl)
  refine ⟨?_, ?_, ?_⟩
  · unfold inA
    rw [hn]
    simp only [sumN]
    rw [inA_w (by omega : (0 : Nat) ≠ 1), me, inA_w (by omega : (2 : Nat) ≠ 1), inA_w (by omega : (3 : Nat) ≠ 1), z]
    omega
  · unfold inA
    rw [hn]
    simp only [sumN]
    rw [inA_w (by omega : (0 : Nat) ≠ 2), me, inA_w (by omega : (1 : Nat) ≠ 2), inA_w (by omega : (3 : Nat) ≠ 2), z]
    omega
  · unfold inA
    rw [hn]
    simp only [sumN]
    rw [inA_w (by omega : (0 : Nat) ≠ 3), me, inA_w (by omega : (1 : Nat) ≠ 3), inA_w (by omega : (2 : Nat) ≠ 3), z]
    omega
theorem ok4_iff {d e f x y z : Nat} : ok4 d e f x y z = true ↔ (d ≤ x ∨ d ≤ y) ∧ (e ≤ x ∨ e ≤ z) ∧ (f ≤ y ∨ f ≤ z) ∧ (d + e ≤ x ∨ d + f ≤ y ∨ e + f ≤ z) := by
  unfold ok4
  simp only [Bool.and_eq_true, Bool.or_eq_true, decide_eq_true_eq, and_assoc, or_assoc]
theorem nf4 {W : Wb} (hn : W.n = 4) {s : Int} {x y z : Nat} : NF W 0 [s, (x : Int), (y : Int), (z : Int)] ↔ ok4 (wt W 1 2) (wt W 1 3) (wt W 2 3) x y z = true := by
  rw [ok4_iff]
  have c21 := @wt_comm W 2 1
  have c31 := @wt_comm W 3 1
  have c32 := @wt_comm W 3 2
  constructor
  · intro nf
    have get : ∀ A : Nat → Bool, A 0 = false → (A 1 = true ∨ A 2 = true ∨ A 3 = true) → (A 1 = true ∧ wI W A 1 2 + wI W A 1 3 ≤ x) ∨ (A 2 = true ∧ wI W A 2 1 + wI W A 2 3 ≤ y) ∨ (A 3 = true ∧ wI W A 3 1 + wI W A 3 2 ≤ z) := fun A h0 he => by
      obtain ⟨k1, k2, k3⟩ := inA_4 hn h0
      obtain ⟨i, hi, ai, le⟩ := nf A h0 (by
        rcases he with h | h | h
        · exact ⟨1, by omega, h⟩
        · exact ⟨2, by omega, h⟩
        · exact ⟨3, by omega, h⟩)
      rw [hn] at hi
      obtain rfl | rfl | rfl | rfl : i = 0 ∨ i = 1 ∨ i = 2 ∨ i = 3 := by omega
      · rw [h0] at ai; cases ai
      · refine .inl ⟨ai, ?_⟩
        rw [k1] at le
        exact le
      · refine .inr (.inl ⟨ai, ?_⟩)
        rw [k2] at le
        have le : _ ≤ (y : Int) := le
        omega
      · refine .inr (.inr ⟨ai, ?_⟩)
        rw [k3] at le
        exact le
    refine ⟨?_, ?_, ?_, ?_⟩
    · have := get (fun i => decide (i = 1 ∨ i = 2)) (by decide) (by decide)
      simp [wI] at this
      omega
    · have := get (fun i => decide (i = 1 ∨ i = 3)) (by decide) (by decide)
      simp [wI] at this
      omega
    · have := get (fun i => decide (i = 2 ∨ i = 3)) (by decide) (by decide)
      simp [wI] at this
      omega
    · have := get (fun i => decide (i = 1 ∨ i = 2 ∨ i = 3)) (by decide) (by decide)
      simp [wI] at this
      omega
  · rintro ⟨h1, h2, h3, h4⟩ A h0 ⟨i, hi, ai⟩
    obtain ⟨k1, k2, k3⟩ := inA_4 hn h0
    rw [hn] at hi
    have fin : (A 1 = true ∧ inA W A 1 ≤ x) ∨ (A 2 = true ∧ inA W A 2 ≤ y) ∨ (A 3 = true ∧ inA W A 3 ≤ z) := by
      rw [k1, k2, k3]
      unfold wI
      cases e1 : A 1 <;> cases e2 : A 2 <;> cases e3 : A 3 <;> simp
      · obtain rfl | rfl | rfl | rfl : i = 0 ∨ i = 1 ∨ i = 2 ∨ i = 3 := by omega
        · rw [h0] at ai; cases ai
        · rw [e1] at ai; cases ai
        · rw [e2] at ai; cases ai
        · rw [e3] at ai; cases ai
      all_goals omega
    rcases fin with ⟨a, b⟩ | ⟨a, b⟩ | ⟨a, b⟩
    · exact ⟨1, by omega, a, b⟩
    · exact ⟨2, by omega, a, b⟩
    · exact ⟨3, by omega, a, b⟩
/-! ### three places -/
theorem inA_3 {W : Wb} (hn : W.n = 3) {A : Nat → Bool} (h0 : A 0 = false) : inA W A 1 = wI W A 1 2 ∧ inA W A 2 = wI W A 2 1 := by
  have z : ∀ i, wI W A i 0 = 0 := fun i => by unfold wI; rw [if_neg (by rw [h0]; simp)]
  have me : ∀ i, (if A i = true ∧ i ≠ i then -(tab W.ts i i) else 0) = 0 := fun i => if_neg (fun h => h.2 rfl)
  refine ⟨?_, ?_⟩
  · unfold inA
    rw [hn]
    simp only [sumN]
    rw [inA_w (by omega : (0 : Nat) ≠ 1), me, inA_w (by omega : (2 : Nat) ≠ 1), z]
    omega
  · unfold inA
    rw [hn]
    simp only [sumN]
    rw [inA_w (by omega : (0 : Nat) ≠ 2), me, inA_w (by omega : (1 : Nat) ≠ 2), z]
    omega
theorem nf3 {W : Wb} (hn : W.n = 3) {s : Int} {x y : Nat} : NF W 0 [s, (x : Int), (y : Int)] ↔ ok3 (wt W 1 2) x y = true := by
  unfold ok3
  rw [Bool.or_eq_true, decide_eq_true_eq, decide_eq_true_eq]
  have c21 := @wt_comm W 2 1
  constructor
  · intro nf
    obtain ⟨k1, k2⟩ := inA_3 hn (A := fun i => decide (i = 1 ∨ i = 2)) (by decide)
    obtain ⟨i, hi, ai, le⟩ := nf (fun i => decide (i = 1 ∨ i = 2)) (by decide) ⟨1, by omega, by decide⟩
    rw [hn] at hi
    obtain rfl | rfl | rfl : i = 0 ∨ i = 1 ∨ i = 2 := by omega
    · simp at ai
    · rw [k1] at le
      simp [wI] at le
      omega
    · rw [k2] at le
      simp [wI] at le
      omega
  · rintro h A h0 ⟨i, hi, ai⟩
    obtain ⟨k1, k2⟩ := inA_3 hn h0
    rw [hn] at hi
    have fin : (A 1 = true ∧ inA W A 1 ≤ x) ∨ (A 2 = true ∧ inA W A 2 ≤ y) := by
      rw [k1, k2]
      unfold wI
      cases e1 : A 1 <;> cases e2 : A 2 <;> simp
      · obtain rfl | rfl | rfl : i = 0 ∨ i = 1 ∨ i = 2 := by omega
        · rw [h0] at ai; cases ai
        · rw [e1] at ai; cases ai
        · rw [e2] at ai; cases ai
      all_goals omega
    rcases fin with ⟨a, b⟩ | ⟨a, b⟩
    · exact ⟨1, by omega, a, b⟩
    · exact ⟨2, by omega, a, b⟩
theorem nf2 {W : Wb} (hn : W.n = 2) {s : Int} {x : Nat} : NF W 0 [s, (x : Int)] := fun A h0 ⟨i, hi, ai⟩ => by
  rw [hn] at hi
  have z : ∀ i, wI W A i 0 = 0 := fun i => by unfold wI; rw [if_neg (by rw [h0]; simp)]
  obtain rfl | rfl : i = 0 ∨ i = 1 := by omega
  · rw [h0] at ai; cases ai
  · refine ⟨1, by omega, ai, ?_⟩
    unfold inA
    rw [hn]
    simp only [sumN]
    rw [inA_w (by omega : (0 : Nat) ≠ 1), if_neg (fun h => h.2 rfl), z]
    show _ ≤ (x : Int)
    omega
/-! ### lasting heaps, told by coins -/
theorem last_nf {W : Wb} (ok : W.Ok) {h : List Int} (hl : h.length = W.n) : isLast W h 0 = true ↔ (∀ i, i < W.n → i ≠ 0 → 0 ≤ h.getD i 0 ∧ h.getD i 0 < (deg W.ts i : Int)) ∧ NF W 0 h := by
  have n1 := ok.n1
  constructor
  · intro h1
    obtain ⟨h2, rd⟩ := (last_iff hl).mp h1
    refine ⟨fun i hi h0 => ⟨h2 i hi h0, ?_⟩, nf_of_last ok (by omega) hl h1⟩
    have := rd.nn i hi h0
    rw [turned_at (by omega) h0] at this
    omega
  · rintro ⟨h1, h2⟩
    exact last_of_nf ok (by omega) hl (fun i hi h0 => (h1 i hi h0).1) (fun i hi h0 => (h1 i hi h0).2) h2
theorem nat_of {x : Int} (h : 0 ≤ x) : ∃ n : Nat, x = n := ⟨x.toNat, by omega⟩
def L4 (W : Wb) : List (List Int) := (List.range (deg W.ts 1)).flatMap fun x => (List.range (deg W.ts 2)).flatMap fun y => ((List.range (deg W.ts 3)).filter (ok4 (wt W 1 2) (wt W 1 3) (wt W 2 3) x y)).map fun z => [-((x + y + z : Nat) : Int), (x : Int), (y : Int), (z : Int)]
def L3 (W : Wb) : List (List Int) := (List.range (deg W.ts 1)).flatMap fun x => ((List.range (deg W.ts 2)).filter (ok3 (wt W 1 2) x)).map fun y => [-((x + y : Nat) : Int), (x : Int), (y : Int)]
def L2' (W : Wb) : List (List Int) := (List.range (deg W.ts 1)).map fun x => [-((x : Nat) : Int), (x : Int)]
theorem mem_L4 {W : Wb} (ok : W.Ok) (hn : W.n = 4) (h : List Int) : h ∈ lastL W 0 0 ↔ h ∈ L4 W := by
  rw [mem_lastL ok (by omega)]
  constructor
  · rintro ⟨hl, h1, hs⟩
    obtain ⟨h2, nf⟩ := (last_nf ok hl).mp h1
    match h, hl with
    | [s, x, y, z], _ =>
      obtain ⟨a1, a2⟩ := h2 1 (by omega) (by omega)
      obtain ⟨b1, b2⟩ := h2 2 (by omega) (by omega)
      obtain ⟨c1, c2⟩ := h2 3 (by omega) (by omega)
      simp at a1 a2 b1 b2 c1 c2 hs
      obtain ⟨x, rfl⟩ := nat_of a1
      obtain ⟨y, rfl⟩ := nat_of b1
      obtain ⟨z, rfl⟩ := nat_of c1
      rw [nf4 hn] at nf
      unfold L4
      refine List.mem_flatMap.mpr ⟨x, List.mem_range.mpr (by omega), List.mem_flatMap.mpr ⟨y, List.mem_range.mpr (by omega), List.mem_map.mpr ⟨z, List.mem_filter.mpr ⟨List.mem_range.mpr (by omega), nf⟩, ?_⟩⟩⟩
      have : s = -((x + y + z : Nat) : Int) := by push_cast; omega
      rw [this]
    | [], hl | [_], hl | [_, _], hl | [_, _, _], hl | _ :: _ :: _ :: _ :: _ :: _, hl => simp [hn] at hl
  · intro hm
    unfold L4 at hm
    obtain ⟨x, hx, hm⟩ := List.mem_flatMap.mp hm
    obtain ⟨y, hy, hm⟩ := List.mem_flatMap.mp hm
    obtain ⟨z, hz, rfl⟩ := List.mem_map.mp hm
    obtain ⟨hz, nf⟩ := List.mem_filter.mp hz
    have hx := List.mem_range.mp hx
    have hy := List.mem_range.mp hy
    have hz := List.mem_range.mp hz
    refine ⟨by rw [hn]; rfl, (last_nf ok (by rw [hn]; rfl)).mpr ⟨fun i hi h0 => ?_, (nf4 hn).mpr nf⟩, by simp; omega⟩
    obtain rfl | rfl | rfl : i = 1 ∨ i = 2 ∨ i = 3 := by omega
    · simp; omega
    · simp; omega
    · simp; omega
theorem mem_L3 {W : Wb} (ok : W.Ok) (hn : W.n = 3) (h : List Int) : h ∈ lastL W 0 0 ↔ h ∈ L3 W := by
  rw [mem_lastL ok (by omega)]
  constructor
  · rintro ⟨hl, h1, hs⟩
    obtain ⟨h2, nf⟩ := (last_nf ok hl).mp h1
    match h, hl with
    | [s, x, y], _ =>
      obtain ⟨a1, a2⟩ := h2 1 (by omega) (by omega)
      obtain ⟨b1, b2⟩ := h2 2 (by omega) (by omega)
      simp at a1 a2 b1 b2 hs
      obtain ⟨x, rfl⟩ := nat_of a1
      obtain ⟨y, rfl⟩ := nat_of b1
      rw [nf3 hn] at nf
      unfold L3
      refine List.mem_flatMap.mpr ⟨x, List.mem_range.mpr (by omega), List.mem_map.mpr ⟨y, List.mem_filter.mpr ⟨List.mem_range.mpr (by omega), nf⟩, ?_⟩⟩
      have : s = -((x + y : Nat) : Int) := by push_cast; omega
      rw [this]
    | [], hl | [_], hl | [_, _], hl | _ :: _ :: _ :: _ :: _, hl => simp [hn] at hl
  · intro hm
    unfold L3 at hm
    obtain ⟨x, hx, hm⟩ := List.mem_flatMap.mp hm
    obtain ⟨y, hy, rfl⟩ := List.mem_map.mp hm
    obtain ⟨hy, nf⟩ := List.mem_filter.mp hy
    have hx := List.mem_range.mp hx
    have hy := List.mem_range.mp hy
    refine ⟨by rw [hn]; rfl, (last_nf ok (by rw [hn]; rfl)).mpr ⟨fun i hi h0 => ?_, (nf3 hn).mpr nf⟩, by simp; omega⟩
    obtain rfl | rfl : i = 1 ∨ i = 2 := by omega
    · simp; omega
    · simp; omega
theorem mem_L2 {W : Wb} (ok : W.Ok) (hn : W.n = 2) (h : List Int) : h ∈ lastL W 0 0 ↔ h ∈ L2' W := by
  rw [mem_lastL ok (by omega)]
  constructor
  · rintro ⟨hl, h1, hs⟩
    obtain ⟨h2, nf⟩ := (last_nf ok hl).mp h1
    match h, hl with
    | [s, x], _ =>
      obtain ⟨a1, a2⟩ := h2 1 (by omega) (by omega)
      simp at a1 a2 hs
      obtain ⟨x, rfl⟩ := nat_of a1
      unfold L2'
      refine List.mem_map.mpr ⟨x, List.mem_range.mpr (by omega), ?_⟩
      have : s = -((x : Nat) : Int) := by omega
      rw [this]
    | [], hl | [_], hl | _ :: _ :: _ :: _, hl => simp [hn] at hl
  · intro hm
    unfold L2' at hm
    obtain ⟨x, hx, rfl⟩ := List.mem_map.mp hm
    have hx := List.mem_range.mp hx
    refine ⟨by rw [hn]; rfl, (last_nf ok (by rw [hn]; rfl)).mpr ⟨fun i hi h0 => ?_, nf2 hn⟩, by simp; omega⟩
    obtain rfl : i = 1 := by omega
    simp; omega
theorem nd_L4 {W : Wb} : (L4 W).Nodup := by
  unfold L4
  refine flat_nodup List.nodup_range (fun x _ => flat_nodup List.nodup_range (fun y _ => map_nodup (List.nodup_range.sublist List.filter_sublist) fun a b _ _ e => ?_) fun a b h _ _ h1 h2 => ?_) fun a b h _ _ h1 h2 => ?_
  · simp at e; omega
  · obtain ⟨z, _, rfl⟩ := List.mem_map.mp h1
    obtain ⟨z', _, e⟩ := List.mem_map.mp h2
    simp at e
    omega
  · obtain ⟨y, _, h1⟩ := List.mem_flatMap.mp h1
    obtain ⟨y', _, h2⟩ := List.mem_flatMap.mp h2
    obtain ⟨z, _, rfl⟩ := List.mem_map.mp h1
    obtain ⟨z', _, e⟩ := List.mem_map.mp h2
    simp at e
    omega
theorem nd_L3 {W : Wb} : (L3 W).Nodup := by
  unfold L3
  refine flat_nodup List.nodup_range (fun x _ => map_nodup (List.nodup_range.sublist List.filter_sublist) fun a b _ _ e => ?_) fun a b h _ _ h1 h2 => ?_
  · simp at e; omega
  · obtain ⟨z, _, rfl⟩ := List.mem_map.mp h1
    obtain ⟨z', _, e⟩ := List.mem_map.mp h2
    simp at e
    omega
theorem nd_L2 {W : Wb} : (L2' W).Nodup := by
  unfold L2'
  exact map_nodup List.nodup_range fun a b _ _ e => by simp at e; omega
theorem len_L4 {W : Wb} (ok : W.Ok) (hn : W.n = 4) : (L4 W).length = treesN W := by
  have z1 := tab_z ok 1
  have z2 := tab_z ok 2
  have z3 := tab_z ok 3
  rw [hn] at z1 z2 z3
  simp only [sumN] at z1 z2 z3
  rw [tab_deg, tab_wt (by omega : (1 : Nat) ≠ 0), tab_wt (by omega : (1 : Nat) ≠ 2), tab_wt (by omega : (1 : Nat) ≠ 3)] at z1
  rw [tab_deg, tab_wt (by omega : (2 : Nat) ≠ 0), tab_wt (by omega : (2 : Nat) ≠ 1), tab_wt (by omega : (2 : Nat) ≠ 3)] at z2
  rw [tab_deg, tab_wt (by omega : (3 : Nat) ≠ 0), tab_wt (by omega : (3 : Nat) ≠ 1), tab_wt (by omega : (3 : Nat) ≠ 2)] at z3
  rw [wt_comm (i := 1) (j := 0)] at z1
  rw [wt_comm (i := 2) (j := 0), wt_comm (i := 2) (j := 1)] at z2
  rw [wt_comm (i := 3) (j := 0), wt_comm (i := 3) (j := 1), wt_comm (i := 3) (j := 2)] at z3
  have h := cnt4 (wt W 0 1) (wt W 0 2) (wt W 0 3) (wt W 1 2) (wt W 1 3) (wt W 2 3)
  have e : (((L4 W).length : Nat) : Int) = ((treesN W : Nat) : Int) := by
    simp only [treesN, hn]
    rw [← h]
    unfold L4
    rw [len_flat, show wt W 0 1 + wt W 1 2 + wt W 1 3 = deg W.ts 1 by omega]
    refine sumN_congr fun x _ => ?_
    rw [len_flat, show wt W 0 2 + wt W 1 2 + wt W 2 3 = deg W.ts 2 by omega]
    refine sumN_congr fun y _ => ?_
    rw [List.length_map, len_filter, show wt W 0 3 + wt W 1 3 + wt W 2 3 = deg W.ts 3 by omega]
  omega
theorem len_L3 {W : Wb} (ok : W.Ok) (hn : W.n = 3) : (L3 W).length = treesN W := by
  have z1 := tab_z ok 1
  have z2 := tab_z ok 2
  rw [hn] at z1 z2
  simp only [sumN] at z1 z2
  rw [tab_deg, tab_wt (by omega : (1 : Nat) ≠ 0), tab_wt (by omega : (1 : Nat) ≠ 2)] at z1
  rw [tab_deg, tab_wt (by omega : (2 : Nat) ≠ 0), tab_wt (by omega : (2 : Nat) ≠ 1)] at z2
  rw [wt_comm (i := 1) (j := 0)] at z1
  rw [wt_comm (i := 2) (j := 0), wt_comm (i := 2) (j := 1)] at z2
  have h := cnt3 (wt W 0 1) (wt W 0 2) (wt W 1 2)
  have e : (((L3 W).length : Nat) : Int) = ((treesN W : Nat) : Int) := by
    simp only [treesN, hn]
    rw [← h]
    unfold L3
    rw [len_flat, show wt W 0 1 + wt W 1 2 = deg W.ts 1 by omega]
    refine sumN_congr fun x _ => ?_
    rw [List.length_map, len_filter, show wt W 0 2 + wt W 1 2 = deg W.ts 2 by omega]
  omega
theorem len_L2 {W : Wb} (ok : W.Ok) (hn : W.n = 2) : (L2' W).length = treesN W := by
  have z1 := tab_z ok 1
  rw [hn] at z1
  simp only [sumN] at z1
  rw [tab_deg, tab_wt (by omega : (1 : Nat) ≠ 0)] at z1
  rw [wt_comm (i := 1) (j := 0)] at z1
  unfold L2'
  rw [List.length_map, List.length_range]
  simp only [treesN, hn]
  omega
theorem last_trees0 {W : Wb} (g : W.Fit) : (lastL W 0 0).length = treesN W := by
  have n2 := g.n2
  have n4 := g.n4
  have nd := lastL_nodup g.ok (p := 0) (by omega) (num := 0)
  obtain hn | hn | hn : W.n = 2 ∨ W.n = 3 ∨ W.n = 4 := by omega
  · rw [← len_L2 g.ok hn]; exact len_eq nd nd_L2 (mem_L2 g.ok hn)
  · rw [← len_L3 g.ok hn]; exact len_eq nd nd_L3 (mem_L3 g.ok hn)
  · rw [← len_L4 g.ok hn]; exact len_eq nd nd_L4 (mem_L4 g.ok hn)
/-- as many lasting heaps, at whichever place, as trees -/
theorem last_trees {W : Wb} (g : W.Fit) {p : Nat} (hp : p < W.n) {num : Int} : (lastL W p num).length = treesN W := by
  have n2 := g.n2
  rw [← last_trees0 g, lastL_len, lastL_len]
  exact all_len g.toGood hp (by omega)
end K79
set_option maxHeartbeats 4000000
namespace K79
open PySem L2 Evl Lf
/-! ### sums of heaps -/
theorem eqv_add {W : Wb} {a h h' : List Int} (ha : a.length = W.n) (hl : h.length = W.n) (e : Eqv W h h') : Eqv W (zipP a h 1) (zipP a h' 1) := by
  obtain ⟨r, hr, rfl⟩ := e
  have hg := given_len (r := r) hl
  have hz := zipP_len (m := 1) ha hl
  refine ⟨r, hr, list_ext (zipP_len ha hg) (given_len hz) fun i hi => ?_⟩
  rw [zip_at ha hg hi, given_at hl hr hi, given_at hz hr hi, zip_at ha hl hi]
  omega
theorem eqv_flip {W : Wb} {m h g : List Int} (hm : m.length = W.n) (hl : h.length = W.n) (e : Eqv W (zipP m h (-1)) g) : Eqv W h (zipP m g (-1)) := by
  obtain ⟨r, hr, rfl⟩ := e
  have hz := zipP_len (m := -1) hm hl
  have hg := given_len (r := r) hz
  refine ⟨r.map (fun x => -x), by simpa using hr, list_ext (zipP_len hm hg) (given_len hl) fun i hi => ?_⟩
  rw [zip_at hm hg hi, given_at hz hr hi, given_at hl (by simpa using hr) hi, zip_at hm hl hi]
  have e1 : (sumN W.n fun j => (r.map fun x => -x).getD j 0 * tab W.ts i j) = -(sumN W.n fun j => r.getD j 0 * tab W.ts i j) := by
    have h2 : sumN W.n (fun j => (r.map fun x => -x).getD j 0 * tab W.ts i j + r.getD j 0 * tab W.ts i j) = 0 := by
      rw [sumN_congr (g := fun _ => 0) fun j hj => ?_, sumN_zero]
      have : (r.map fun x => -x).getD j 0 = -(r.getD j 0) := by
        rw [List.getD_eq_getElem?_getD, List.getElem?_map, List.getD_eq_getElem?_getD, List.getElem?_eq_getElem (by omega)]
        rfl
      rw [this, Int.neg_mul]
      omega
    rw [sumN_add] at h2
    omega
  rw [e1]
  omega
theorem zip_sum {a b : List Int} {m : Int} {n : Nat} (ha : a.length = n) (hb : b.length = n) : (zipP a b m).sum = a.sum + m * b.sum := by
  rw [sum_list (zipP_len ha hb), sum_list ha, sum_list hb, ← sumN_mul, ← sumN_add]
  exact sumN_congr fun i hi => zip_at ha hb hi
theorem z0_len {W : Wb} : (z0 W).length = W.n := by unfold z0; simp
theorem zip_z0 {W : Wb} {a : List Int} (ha : a.length = W.n) : zipP a (z0 W) 1 = a := by
  refine list_ext (zipP_len ha z0_len) ha fun i hi => ?_
  rw [zip_at ha z0_len hi, z0_at]
  omega
theorem z0_sum {W : Wb} : (z0 W).sum = 0 := by
  rw [sum_list z0_len, sumN_congr (g := fun _ => 0) fun i hi => z0_at, sumN_zero]
theorem neg_len {a : List Int} {n : Nat} (ha : a.length = n) : (negL a).length = n := by unfold negL; simp [ha]
theorem neg_at {a : List Int} {i : Nat} (hi : i < a.length) : (negL a).getD i 0 = -(a.getD i 0) := by
  unfold negL
  rw [List.getD_eq_getElem?_getD, List.getElem?_map, List.getD_eq_getElem?_getD, List.getElem?_eq_getElem hi]
  show a[i] * -1 = -a[i]
  omega
theorem zip_neg {W : Wb} {a : List Int} (ha : a.length = W.n) : zipP a (negL a) 1 = z0 W := by
  refine list_ext (zipP_len ha (neg_len ha)) z0_len fun i hi => ?_
  rw [zip_at ha (neg_len ha) hi, z0_at, neg_at (by omega)]
  omega
theorem neg_sum {a : List Int} {n : Nat} (ha : a.length = n) : (negL a).sum = -a.sum := by
  have h1 := zip_sum (m := 1) ha (neg_len ha)
  have h2 : (zipP a (negL a) 1).sum = 0 := by
    rw [sum_list (zipP_len ha (neg_len ha)), sumN_congr (g := fun _ => 0) fun i hi => ?_, sumN_zero]
    rw [zip_at ha (neg_len ha) hi, neg_at (by omega)]
    omega
  omega
theorem most_len {W : Wb} : (mostL W).length = W.n := by unfold mostL; simp
/-! ### lasting heaps out of reduced ones -/
theorem last_most {W : Wb} (ok : W.Ok) {p : Nat} (hp : p < W.n) {g : List Int} (rd : Red W p g) : isLast W (zipP (mostL W) g (-1)) p = true := by
  have hl := rd.len
  have rd0 : Red W p (g.set p (g.getD p 0 - g.sum)) := red_set rd
  have hs : (g.set p (g.getD p 0 - g.sum)).sum = 0 := by rw [set_sum hp hl]; omega
  have hx := zipP_len (m := -1) most_len hl
  have e : zipP (mostL W) g (-1) = turned W (g.set p (g.getD p 0 - g.sum)) p (zipP (mostL W) g (-1)).sum := by
    refine ext_off hp hx (turned_len.trans rd0.len) (fun i hi hip => ?_) ?_
    · rw [zip_at most_len hl hi, most_at hi, turned_at (by rw [rd0.len]; exact hi) hip, List.getD_eq_getElem?_getD (l := g.set p _), List.getElem?_set_ne (Ne.symm hip), ← List.getD_eq_getElem?_getD]
      omega
    · rw [turned_sum rd0.len hp]
  rw [e]
  exact last_of_red ok hp rd0 hs
theorem last_deg {W : Wb} {p : Nat} {h : List Int} (hl : h.length = W.n) (h1 : isLast W h p = true) : ∀ i, i < W.n → i ≠ p → 0 ≤ h.getD i 0 ∧ h.getD i 0 < (deg W.ts i : Int) := fun i hi hip => by
  obtain ⟨h2, rd⟩ := (last_iff hl).mp h1
  refine ⟨h2 i hi hip, ?_⟩
  have := rd.nn i hi hip
  rw [turned_at (by omega) hip] at this
  omega
theorem deg12 {W : Wb} (ok : W.Ok) (i : Nat) : deg W.ts i ≤ 12 := Nat.le_trans (List.countP_le_length ..) ok.m
/-! ### heaps that are not great -/
theorem off_split {n p : Nat} {f : Nat → Int} (hp : p < n) : sumN n f = f p + sumN n fun i => if i = p then 0 else f i := by
  rw [← sumN_one (n := n) (a := p) (x := f p) hp, ← sumN_add]
  refine sumN_congr fun i _ => ?_
  by_cases e : p = i
  · subst e; simp
  · rw [if_neg e, if_neg (Ne.symm e)]; omega
theorem sumN_const {n : Nat} {c : Int} : sumN n (fun _ => c) = n * c := by
  induction n with
  | zero => simp [sumN]
  | succ n ih => rw [sumN_succ, ih]; push_cast; rw [Int.add_mul]; omega
theorem off_bd {n p : Nat} {a : List Int} {B : Int} (hl : a.length = n) (hp : p < n) (hB : 0 ≤ B) (h : ∀ i, i < n → i ≠ p → 0 ≤ a.getD i 0 ∧ a.getD i 0 ≤ B) : a.sum - n * B ≤ a.getD p 0 ∧ a.getD p 0 ≤ a.sum := by
  have h1 := off_split (f := fun i => a.getD i 0) hp
  rw [← sum_list hl] at h1
  have h2 : 0 ≤ sumN n fun i => if i = p then 0 else a.getD i 0 := sumN_nn fun i hi => by
    split
    · omega
    · rename_i e; exact (h i hi e).1
  have h3 : (sumN n fun i => if i = p then 0 else a.getD i 0) ≤ sumN n fun _ => B := sumN_le fun i hi => by
    split
    · exact hB
    · rename_i e; exact (h i hi e).2
  rw [sumN_const] at h3
  omega
theorem mul4 {n : Nat} {B : Int} (hn : n ≤ 4) (hB : 0 ≤ B) : (n : Int) * B ≤ 4 * B := Int.mul_le_mul_of_nonneg_right (by omega) hB
theorem sm_of {h : List Int} {n : Nat} (hl : h.length = n) (hb : ∀ i, i < n → -1000000 < h.getD i 0 ∧ h.getD i 0 < 1000000) : Sm h := fun x hx => by
  obtain ⟨i, hi, rfl⟩ := List.getElem_of_mem hx
  have := hb i (by omega)
  rwa [List.getD_eq_getElem?_getD, List.getElem?_eq_getElem hi] at this
/-- all coins between -B and B -/
def Bdd (B : Int) (h : List Int) : Prop := ∀ i, -B ≤ h.getD i 0 ∧ h.getD i 0 ≤ B
theorem bdd_of {h : List Int} {n : Nat} {B : Int} (hl : h.length = n) (hB : 0 ≤ B) (hb : ∀ i, i < n → -B ≤ h.getD i 0 ∧ h.getD i 0 ≤ B) : Bdd B h := fun i => by
  by_cases hi : i < n
  · exact hb i hi
  · rw [List.getD_eq_getElem?_getD, List.getElem?_eq_none (by omega)]
    show -B ≤ 0 ∧ 0 ≤ B
    omega
theorem bdd_sm {h : List Int} {B : Int} (hB : B < 1000000) (hb : Bdd B h) : Sm h := sm_of rfl fun i _ => by have := hb i; omega
theorem bdd_zip {a b : List Int} {n : Nat} {A B m : Int} (ha : a.length = n) (hb : b.length = n) (hA : 0 ≤ A) (hB : 0 ≤ B) (hm : m = 1 ∨ m = -1) (h1 : Bdd A a) (h2 : Bdd B b) : Bdd (A + B) (zipP a b m) := bdd_of (zipP_len ha hb) (by omega) fun i hi => by
  rw [zip_at ha hb hi]
  have := h1 i
  have := h2 i
  rcases hm with rfl | rfl <;> omega
theorem last_bdd {W : Wb} (g : W.Fit) {p : Nat} (hp : p < W.n) {h : List Int} (hl : h.length = W.n) (h1 : isLast W h p = true) (hs : h.sum = 0) : Bdd 100 h := bdd_of hl (by omega) fun i hi => by
  have hd := last_deg hl h1
  by_cases e : i = p
  · subst e
    have := off_bd (B := 12) hl hp (by omega) fun i hi hip => by
      have := hd i hi hip
      have := deg12 g.ok i
      omega
    have := mul4 (B := 12) g.n4 (by omega)
    omega
  · have := hd i hi e
    have := deg12 g.ok i
    omega
theorem red_bdd {W : Wb} (g : W.Fit) {p : Nat} (hp : p < W.n) {h : List Int} (rd : Red W p h) (hs : h.sum = 0) : Bdd 100 h := bdd_of rd.len (by omega) fun i hi => by
  by_cases e : i = p
  · subst e
    have := off_bd (B := 12) rd.len hp (by omega) fun i hi hip => by
      have := red_deg g.ok hp rd hi hip
      have := rd.nn i hi hip
      have := deg12 g.ok i
      omega
    have := mul4 (B := 12) g.n4 (by omega)
    omega
  · have := red_deg g.ok hp rd hi e
    have := rd.nn i hi e
    have := deg12 g.ok i
    omega
theorem most_bdd {W : Wb} (g : W.Fit) : Bdd 12 (mostL W) := bdd_of most_len (by omega) fun i hi => by
  rw [most_at hi]
  have := deg12 g.ok i
  omega
theorem z0_bdd {W : Wb} : Bdd 0 (z0 W) := fun i => by rw [z0_at]; omega
theorem neg_bdd {a : List Int} {A : Int} (hA : 0 ≤ A) (h : Bdd A a) : Bdd A (negL a) := bdd_of (neg_len rfl) hA fun i hi => by
  rw [neg_at hi]
  have := h i
  omega
end K79
set_option maxHeartbeats 4000000
namespace K79
open PySem L2 Evl Lf
/-! ### the reduced and the lasting heap of a class, as functions -/
open Classical in
noncomputable def redO (W : Wb) (p : Nat) (h : List Int) : List Int := if e : ∃ g, Red W p g ∧ Eqv W h g then e.choose else []
theorem redO_spec {W : Wb} (g : W.Fit) {p : Nat} (hp : p < W.n) {h : List Int} (hl : h.length = W.n) : Red W p (redO W p h) ∧ Eqv W h (redO W p h) := by
  obtain ⟨φ, pt⟩ := pot_ex g.toGood hp
  have e : ∃ g, Red W p g ∧ Eqv W h g := red_ex g.ok hp pt hl
  unfold redO
  rw [dif_pos e]
  exact e.choose_spec
theorem redO_len {W : Wb} (g : W.Fit) {p : Nat} (hp : p < W.n) {h : List Int} (hl : h.length = W.n) : (redO W p h).length = W.n := (redO_spec g hp hl).1.len
theorem redO_sum {W : Wb} (g : W.Fit) {p : Nat} (hp : p < W.n) {h : List Int} (hl : h.length = W.n) : (redO W p h).sum = h.sum := eqv_sum g.ok hl (redO_spec g hp hl).2
theorem redO_uniq {W : Wb} (g : W.Fit) {p : Nat} (hp : p < W.n) {h k : List Int} (hl : h.length = W.n) (rd : Red W p k) (e : Eqv W h k) : k = redO W p h := by
  obtain ⟨h1, h2⟩ := redO_spec g hp hl
  exact uniq_fit W p h k _ g hp hl rd h1 e h2
noncomputable def lastO (W : Wb) (p : Nat) (h : List Int) : List Int := zipP (mostL W) (redO W p (zipP (mostL W) h (-1))) (-1)
section
variable {W : Wb} {p : Nat} {h t a b c : List Int}
theorem lastO_len (g : W.Fit) (hp : p < W.n) (hl : h.length = W.n) : (lastO W p h).length = W.n := zipP_len most_len (redO_len g hp (zipP_len most_len hl))
theorem lastO_last (g : W.Fit) (hp : p < W.n) (hl : h.length = W.n) : isLast W (lastO W p h) p = true := last_most g.ok hp (redO_spec g hp (zipP_len most_len hl)).1
theorem lastO_eqv (g : W.Fit) (hp : p < W.n) (hl : h.length = W.n) : Eqv W h (lastO W p h) := eqv_flip most_len hl (redO_spec g hp (zipP_len most_len hl)).2
theorem lastO_sum (g : W.Fit) (hp : p < W.n) (hl : h.length = W.n) : (lastO W p h).sum = h.sum := eqv_sum g.ok hl (lastO_eqv g hp hl)
theorem lastO_uniq (g : W.Fit) (hp : p < W.n) (hl : h.length = W.n) (ht : t.length = W.n) (h1 : isLast W t p = true) (e : Eqv W h t) : t = lastO W p h :=
  last_uniq g.ok hp ht h1 (lastO_last g hp hl) (eqv_trans ht (eqv_sym hl e) (lastO_eqv g hp hl))
theorem lastO_congr (g : W.Fit) (hp : p < W.n) (ha : a.length = W.n) (hb : b.length = W.n) (e : Eqv W a b) : lastO W p a = lastO W p b :=
  lastO_uniq g hp hb (lastO_len g hp ha) (lastO_last g hp ha) (eqv_trans hb (eqv_sym ha e) (lastO_eqv g hp ha))
theorem lastO_self (g : W.Fit) (hp : p < W.n) (ha : a.length = W.n) (h1 : isLast W a p = true) : lastO W p a = a := (lastO_uniq g hp ha ha h1 (eqv_refl ha)).symm
/-- toppling a heap above a lasting one -/
theorem top_is (g : W.Fit) (hp : p < W.n) (ha : a.length = W.n) (hc : c.length = W.n) (h1 : isLast W a p = true) (hge : ∀ i, i < W.n → i ≠ p → a.getD i 0 ≤ c.getD i 0) :
    ∃ k, topEnd W p (topIt W p c k) ∧ (∀ j, j < k → ¬ topEnd W p (topIt W p c j)) ∧ (topIt W p c k).1 = lastO W p c ∧ ∀ i, i < W.n → i ≠ p → 0 ≤ c.getD i 0 := by
  have hd := deg_pos g.toGood g.n2
  obtain ⟨φ, pt⟩ := pot_ex g.toGood hp
  have nn : ∀ i, i < W.n → i ≠ p → 0 ≤ c.getD i 0 := fun i hi hip => by
    have h2 := hge i hi hip
    have h3 := (last_deg ha h1 i hi hip).1
    omega
  obtain ⟨k, e1, e2⟩ := top_ends hd pt hc nn
  have hev := top_eqv (p := p) hc k
  exact ⟨k, e1, e2, lastO_uniq g hp hc (eqv_len hc hev) (top_last g.ok hp hd ha hc h1 hge e1) hev, nn⟩
/-! ### all lasting heaps without coins -/
theorem mem_E (g : W.Fit) (hp : p < W.n) : t ∈ lastL W p 0 ↔ t.length = W.n ∧ isLast W t p = true ∧ t.sum = 0 := mem_lastL g.ok hp
theorem lastO_E (g : W.Fit) (hp : p < W.n) (hl : h.length = W.n) (hs : h.sum = 0) : lastO W p h ∈ lastL W p 0 := (mem_E g hp).mpr ⟨lastO_len g hp hl, lastO_last g hp hl, (lastO_sum g hp hl).trans hs⟩
theorem lasts_all (g : W.Fit) (hp : p < W.n) : ((allBy W 0 0).map (lastO W p)).mergeSort leH = lastL W p 0 := by
  have h0 : 0 < W.n := by have := g.n2; omega
  have hm : ∀ x, x ∈ allBy W 0 0 ↔ Red W 0 x ∧ x.sum = 0 := fun x => mem_allBy g.ok h0
  have key : ∀ x, x ∈ (allBy W 0 0).map (lastO W p) ↔ x ∈ lastL W p 0 := fun x => by
    rw [List.mem_map]
    constructor
    · rintro ⟨h, hh, rfl⟩
      obtain ⟨rd, hs⟩ := (hm h).mp hh
      exact lastO_E g hp rd.len hs
    · intro hx
      obtain ⟨hl, h1, hs⟩ := (mem_E g hp).mp hx
      obtain ⟨rd, e⟩ := redO_spec g h0 hl
      refine ⟨redO W 0 x, (hm _).mpr ⟨rd, (redO_sum g h0 hl).trans hs⟩, ?_⟩
      rw [← lastO_congr g hp hl rd.len e]
      exact lastO_self g hp hl h1
  have nd : ((allBy W 0 0).map (lastO W p)).Nodup := map_nodup (allBy_nodup h0) fun x y hx hy e => by
    obtain ⟨rx, _⟩ := (hm x).mp hx
    obtain ⟨ry, _⟩ := (hm y).mp hy
    have e1 := lastO_eqv g hp rx.len
    have e2 := lastO_eqv g hp ry.len
    rw [e] at e1
    exact red_uniq g.ok h0 rx ry (eqv_trans rx.len e1 (eqv_sym ry.len e2))
  have e2 : (lastL W p 0).mergeSort leH = lastL W p 0 := by
    unfold lastL
    exact List.mergeSort_of_pairwise (List.pairwise_mergeSort (fun a b c => leH_trans a b c) (fun a b => leH_total a b) _)
  rw [← e2]
  exact leH_nodup nd (lastL_nodup g.ok hp) key
/-! ### the numbers of classes -/
noncomputable def clsNo (W : Wb) (h : List Int) : Nat := (allBy W 0 0).findIdx fun g => decide (g = redO W 0 h)
theorem cls_spec (g : W.Fit) (hl : h.length = W.n) (hs : h.sum = 0) : clsNo W h < (allBy W 0 0).length ∧ (allBy W 0 0)[clsNo W h]? = some (redO W 0 h) ∧ ∀ j, j < clsNo W h → (allBy W 0 0)[j]? ≠ some (redO W 0 h) := by
  have h0 : 0 < W.n := by have := g.n2; omega
  obtain ⟨rd, e⟩ := redO_spec g h0 hl
  have hm : redO W 0 h ∈ allBy W 0 0 := (mem_allBy g.ok h0).mpr ⟨rd, (redO_sum g h0 hl).trans hs⟩
  have hlt : clsNo W h < (allBy W 0 0).length := List.findIdx_lt_length_of_exists ⟨_, hm, by simp⟩
  refine ⟨hlt, ?_, fun j hj => ?_⟩
  · rw [List.getElem?_eq_getElem hlt]
    have := List.findIdx_getElem (w := hlt)
    exact congrArg some (of_decide_eq_true this)
  · have hj' : j < (allBy W 0 0).length := by omega
    rw [List.getElem?_eq_getElem hj']
    have := List.not_of_lt_findIdx hj
    exact fun z => (of_decide_eq_false this) (Option.some.inj z)
theorem cls_inj (g : W.Fit) (ha : a.length = W.n) (hb : b.length = W.n) (sa : a.sum = 0) (sb : b.sum = 0) (e : clsNo W a = clsNo W b) : Eqv W a b := by
  have h0 : 0 < W.n := by have := g.n2; omega
  have h1 := (cls_spec g ha sa).2.1
  have h2 := (cls_spec g hb sb).2.1
  rw [e, h2] at h1
  have h3 : redO W 0 b = redO W 0 a := Option.some.inj h1
  have e1 := (redO_spec g h0 ha).2
  have e2 := (redO_spec g h0 hb).2
  rw [h3] at e2
  exact eqv_trans ha e1 (eqv_sym hb e2)
theorem perm_range {A : List Nat} (nd : A.Nodup) (hlt : ∀ x, x ∈ A → x < A.length) : A.Perm (List.range A.length) :=
  perm_nodup nd List.nodup_range fun x => ⟨fun h => List.mem_range.mpr (hlt x h), mem_all nd (fun x h => List.mem_range.mpr (hlt x h)) (by rw [List.length_range]; exact Nat.le_refl _) x⟩
theorem cls_perm (g : W.Fit) (hp : p < W.n) : ((lastL W p 0).map (clsNo W)).Perm (List.range (lastL W p 0).length) := by
  have h0 : 0 < W.n := by have := g.n2; omega
  have hlen : (lastL W p 0).length = (allBy W 0 0).length := by rw [lastL_len]; exact all_len g.toGood hp h0
  have := perm_range (A := (lastL W p 0).map (clsNo W)) (map_nodup (lastL_nodup g.ok hp) fun x y hx hy e => ?_) fun x hx => ?_
  · rwa [List.length_map] at this
  · obtain ⟨lx, ax, sx⟩ := (mem_E g hp).mp hx
    obtain ⟨ly, ay, sy⟩ := (mem_E g hp).mp hy
    exact last_uniq g.ok hp lx ax ay (cls_inj g lx ly sx sy e)
  · obtain ⟨y, hy, rfl⟩ := List.mem_map.mp hx
    obtain ⟨ly, ay, sy⟩ := (mem_E g hp).mp hy
    rw [List.length_map, hlen]
    exact (cls_spec g ly sy).1
end
end K79
set_option maxHeartbeats 4000000
namespace K79
open PySem L2 Evl Lf
variable {P : Program} {w : World} {K : PySem.W.Frag} {mg : Str → Option Value} {base : Heap} {f : Addr} {fd : FuncData}
/-! ### _law_small_web -/
def preSW (ds : List D) : Prop := ds = []
def postSW (ds : List D) (r : D) : Prop := ∃ W : Wb, W.Fit ∧ r = W.D
/-! ### _law_still_heap -/
def preStill (ds : List D) : Prop := ∃ (W : Wb) (p : Nat), W.Fit ∧ p < W.n ∧ ds = [W.D, .int p]
structure Still (W : Wb) (p : Nat) (h : List Int) : Prop where
  len : h.length = W.n
  off : ∀ i, i < W.n → i ≠ p → 0 ≤ h.getD i 0 ∧ h.getD i 0 ≤ 12
  at' : -10 ≤ h.getD p 0 ∧ h.getD p 0 ≤ 10
def postStill (ds : List D) (r : D) : Prop := ∃ (W : Wb) (p : Nat) (h : List Int), ds = [W.D, .int p] ∧ Still W p h ∧ r = hpD h
theorem push_int {L : List Int} {x : Int} (hl : L.length < 100000) : Push (.sh (.int x)) (.ol (L.map .int)) (.ol ((L ++ [x]).map .int)) := by
  rw [List.map_append]
  exact push_sh (by rw [List.length_map]; exact hl)
end K79
set_option maxHeartbeats 4000000
namespace K79
open PySem L2 Evl Lf
/-! ### heaps that can be freed; sequences of places -/
def Eff (n : Nat) (e : List Int) : Prop := e.length = n ∧ ∀ i, i < n → 0 ≤ e.getD i 0
def CanF (W : Wb) (h : List Int) : Prop := ∃ g, Eqv W h g ∧ ∀ i, i < W.n → 0 ≤ g.getD i 0
def FSeq (n : Nat) (f : Nat → Int) : Prop := ∀ i j, i < n → j < n → f i = f j → i = j
def inDeg (W : Wb) (f : Nat → Int) (i : Nat) : Int := sumN W.n fun j => if f j < f i then (wt W i j : Int) else 0
def nu (W : Wb) (f : Nat → Int) : List Int := (List.range W.n).map fun i => inDeg W f i - 1
theorem nu_len {W : Wb} {f : Nat → Int} : (nu W f).length = W.n := by unfold nu; simp
theorem nu_at {W : Wb} {f : Nat → Int} {i : Nat} (hi : i < W.n) : (nu W f).getD i 0 = inDeg W f i - 1 := by unfold nu; rw [getD_map hi]
theorem argmax (n : Nat) (h : 0 < n) (r : Nat → Int) : ∃ m, m < n ∧ ∀ i, i < n → r i ≤ r m := by
  induction n with
  | zero => omega
  | succ n ih =>
    by_cases e : n = 0
    · subst e
      refine ⟨0, by omega, fun i hi => ?_⟩
      have : i = 0 := by omega
      rw [this]
      exact Int.le_refl _
    · obtain ⟨m, h1, h2⟩ := ih (by omega)
      by_cases z : r m ≤ r n
      · exact ⟨n, by omega, fun i hi => by
          by_cases y : i = n
          · rw [y]; exact Int.le_refl _
          · exact Int.le_trans (h2 i (by omega)) z⟩
      · exact ⟨m, by omega, fun i hi => by
          by_cases y : i = n
          · rw [y]; omega
          · exact h2 i (by omega)⟩
/-- among the places with a mark the one that comes first -/
theorem argfirst (n : Nat) (f : Nat → Int) (S : Nat → Prop) (h : ∃ i, i < n ∧ S i) : ∃ m, m < n ∧ S m ∧ ∀ i, i < n → S i → f m ≤ f i := by
  classical
  induction n with
  | zero => obtain ⟨i, hi, _⟩ := h; omega
  | succ n ih =>
    by_cases e : ∃ i, i < n ∧ S i
    · obtain ⟨m, h1, h2, h3⟩ := ih e
      by_cases z : S n ∧ f n ≤ f m
      · exact ⟨n, by omega, z.1, fun i hi hs => by
          by_cases y : i = n
          · rw [y]; exact Int.le_refl _
          · exact Int.le_trans z.2 (h3 i (by omega) hs)⟩
      · exact ⟨m, by omega, h2, fun i hi hs => by
          by_cases y : i = n
          · subst y
            by_cases x : f i ≤ f m
            · exact absurd ⟨hs, x⟩ z
            · omega
          · exact h3 i (by omega) hs⟩
    · obtain ⟨i, hi, hs⟩ := h
      have : i = n := by
        by_cases y : i = n
        · exact y
        · exact absurd ⟨i, by omega, hs⟩ e
      subst this
      exact ⟨i, by omega, hs, fun j hj hsj => by
        by_cases y : j = i
        · rw [y]; exact Int.le_refl _
        · exact absurd ⟨j, by omega, hsj⟩ e⟩
theorem given_wt {W : Wb} (ok : W.Ok) {h r : List Int} (hl : h.length = W.n) (hr : r.length = W.n) {i : Nat} (hi : i < W.n) : (given W h r).getD i 0 = h.getD i 0 - sumN W.n fun j => (r.getD i 0 - r.getD j 0) * (if j = i then 0 else (wt W i j : Int)) := by
  rw [given_at hl hr hi]
  have hz := tab_z ok i
  have e : (sumN W.n fun j => r.getD j 0 * tab W.ts i j) - (sumN W.n fun j => (r.getD i 0 - r.getD j 0) * (if j = i then 0 else (wt W i j : Int))) = r.getD i 0 * sumN W.n (tab W.ts i) := by
    rw [← sumN_mul, ← sumN_sub]
    refine sumN_congr fun j hj => ?_
    by_cases z : j = i
    · subst z; simp
    · rw [if_neg z, tab_wt (Ne.symm z), Int.sub_mul, Int.mul_neg, Int.mul_neg]
      omega
  rw [hz, Int.mul_zero] at e
  omega
/-- such a heap can't be freed -/
theorem nu_bad {W : Wb} (ok : W.Ok) {f : Nat → Int} (hf : FSeq W.n f) : ¬ CanF W (nu W f) := by
  rintro ⟨g, ⟨r, hr, rfl⟩, hg⟩
  obtain ⟨m0, h1, h2⟩ := argmax W.n ok.n1 fun i => r.getD i 0
  obtain ⟨i, hi, hs, hmin⟩ := argfirst W.n f (fun i => r.getD i 0 = r.getD m0 0) ⟨m0, h1, rfl⟩
  have h3 := hg i hi
  rw [given_wt ok nu_len hr hi, nu_at hi] at h3
  have h4 : inDeg W f i ≤ sumN W.n fun j => (r.getD i 0 - r.getD j 0) * (if j = i then 0 else (wt W i j : Int)) := by
    unfold inDeg
    refine sumN_le fun j hj => ?_
    have hj2 := h2 j hj
    have hj2 : r.getD j 0 ≤ r.getD i 0 := by rw [hs]; exact hj2
    by_cases e : f j < f i
    · rw [if_pos e]
      have hne : j ≠ i := fun z => by rw [z] at e; omega
      rw [if_neg hne]
      have hlt : r.getD j 0 < r.getD i 0 := by
        by_cases z : r.getD j 0 = r.getD m0 0
        · have := hmin j hj z; omega
        · omega
      have := Int.mul_le_mul_of_nonneg_right (show (1 : Int) ≤ r.getD i 0 - r.getD j 0 by omega) (show (0 : Int) ≤ (wt W i j : Int) by omega)
      omega
    · rw [if_neg e]
      exact Int.mul_nonneg (by omega) (by split <;> omega)
  omega
/-! ### ties and their ends -/
theorem deg_cons (t : Nat × Nat) (ts : List (Nat × Nat)) (i : Nat) : deg (t :: ts) i = deg [t] i + deg ts i := by
  unfold deg
  rw [List.countP_cons, List.countP_cons, List.countP_nil]
  omega
theorem hands {n : Nat} : ∀ {ts : List (Nat × Nat)}, (∀ t, t ∈ ts → t.1 < t.2 ∧ t.2 < n) → (sumN n fun i => (deg ts i : Int)) = 2 * ts.length
  | [], _ => by
    show (sumN n fun _ => (0 : Int)) = 0
    exact sumN_zero
  | t :: ts, h => by
    have ih := hands (ts := ts) fun u hu => h u (by simp [hu])
    obtain ⟨h1, h2⟩ := h t (by simp)
    have e : (sumN n fun i => (deg (t :: ts) i : Int)) = (sumN n fun i => (if t.1 = i then (1 : Int) else 0) + (if t.2 = i then 1 else 0) + (deg ts i : Int)) := by
      refine sumN_congr fun i _ => ?_
      rw [deg_cons]
      have : deg [t] i = (if t.1 = i then 1 else 0) + (if t.2 = i then 1 else 0) := by
        unfold deg onT
        rw [List.countP_cons, List.countP_nil]
        by_cases a : t.1 = i <;> by_cases b : t.2 = i <;> simp [a, b]
        omega
      rw [this]
      by_cases a : t.1 = i <;> by_cases b : t.2 = i <;> simp [a, b]
    rw [e, sumN_add, sumN_add, sumN_one (by omega), sumN_one h2, ih, List.length_cons]
    omega
def rngs (W : Wb) : Int := (W.ts.length : Int) - W.n + 1
def farL (W : Wb) : List Int := (List.range W.n).map fun i => (deg W.ts i : Int) - 2
theorem far_len {W : Wb} : (farL W).length = W.n := by unfold farL; simp
theorem far_at {W : Wb} {i : Nat} (hi : i < W.n) : (farL W).getD i 0 = (deg W.ts i : Int) - 2 := by unfold farL; rw [getD_map hi]
theorem far_sum {W : Wb} (ok : W.Ok) : (farL W).sum = 2 * rngs W - 2 := by
  rw [sum_list far_len, sumN_congr (g := fun i => (deg W.ts i : Int) - 2) fun i hi => far_at hi, sumN_sub, hands (fun t ht => ok.lt t ht), sumN_const]
  unfold rngs
  omega
theorem deg_sum {W : Wb} (ok : W.Ok) {i : Nat} (hi : i < W.n) : (deg W.ts i : Int) = sumN W.n fun j => if j = i then 0 else (wt W i j : Int) := by
  have h := tab_z ok i
  have h2 : sumN W.n (tab W.ts i) = (deg W.ts i : Int) - sumN W.n fun j => if j = i then 0 else (wt W i j : Int) := by
    rw [← sumN_one (n := W.n) (a := i) (x := (deg W.ts i : Int)) hi, ← sumN_sub]
    refine sumN_congr fun j hj => ?_
    by_cases e : i = j
    · subst e; simp [tab_deg]
    · rw [if_neg e, if_neg (Ne.symm e), tab_wt e]; omega
  omega
/-- the other way round -/
theorem in_out {W : Wb} (ok : W.Ok) {f : Nat → Int} (hf : FSeq W.n f) {i : Nat} (hi : i < W.n) : inDeg W f i + inDeg W (fun j => -(f j)) i = (deg W.ts i : Int) := by
  rw [deg_sum ok hi]
  unfold inDeg
  rw [← sumN_add]
  refine sumN_congr fun j hj => ?_
  by_cases e : j = i
  · subst e
    rw [if_neg (by omega), if_neg (by omega), if_pos rfl]
    rfl
  · rw [if_neg e]
    show (if f j < f i then (wt W i j : Int) else 0) + (if -(f j) < -(f i) then (wt W i j : Int) else 0) = _
    by_cases z : f j < f i
    · rw [if_pos z, if_neg (by omega)]; omega
    · have : f j ≠ f i := fun y => e (hf j i hj hi y)
      rw [if_neg z, if_pos (by omega)]; omega
theorem in_sum {W : Wb} (ok : W.Ok) {f : Nat → Int} (hf : FSeq W.n f) : (sumN W.n fun i => inDeg W f i) = W.ts.length := by
  have h1 : (sumN W.n fun i => inDeg W f i) = sumN W.n fun i => inDeg W (fun j => -(f j)) i := by
    unfold inDeg
    rw [sumN_swap]
    refine sumN_congr fun j hj => sumN_congr fun i hi => ?_
    rw [wt_comm]
    show (if f j < f i then (wt W j i : Int) else 0) = if -(f i) < -(f j) then (wt W j i : Int) else 0
    by_cases z : f j < f i
    · rw [if_pos z, if_pos (by omega)]
    · rw [if_neg z, if_neg (by omega)]
  have h2 : (sumN W.n fun i => inDeg W f i) + (sumN W.n fun i => inDeg W (fun j => -(f j)) i) = 2 * W.ts.length := by
    rw [← sumN_add, ← hands (fun t ht => ok.lt t ht)]
    exact sumN_congr fun i hi => in_out ok hf hi
  rw [← h1] at h2
  omega
theorem nu_sum {W : Wb} (ok : W.Ok) {f : Nat → Int} (hf : FSeq W.n f) : (nu W f).sum = rngs W - 1 := by
  rw [sum_list nu_len, sumN_congr (g := fun i => inDeg W f i - 1) fun i hi => nu_at hi, sumN_sub, in_sum ok hf, sumN_const]
  unfold rngs
  omega
theorem nu_far {W : Wb} (ok : W.Ok) {f : Nat → Int} (hf : FSeq W.n f) : zipP (farL W) (nu W f) (-1) = nu W fun j => -(f j) := by
  refine list_ext (zipP_len far_len nu_len) nu_len fun i hi => ?_
  rw [zip_at far_len nu_len hi, far_at hi, nu_at hi, nu_at hi]
  have := in_out ok hf hi
  omega
theorem neg_seq {n : Nat} {f : Nat → Int} (hf : FSeq n f) : FSeq n fun j => -(f j) := fun i j hi hj e => hf i j hi hj (by have e : -(f i) = -(f j) := e; omega)
end K79
set_option maxHeartbeats 4000000
namespace K79
open PySem L2 Evl Lf
/-! ### heaps that can't be freed lie below a sequence's heap -/
theorem canF_eqv {W : Wb} {a b : List Int} (ha : a.length = W.n) (e : Eqv W a b) : CanF W a ↔ CanF W b := by
  have hb := eqv_len ha e
  exact ⟨fun ⟨g, e1, h⟩ => ⟨g, eqv_trans hb (eqv_sym ha e) e1, h⟩, fun ⟨g, e1, h⟩ => ⟨g, eqv_trans ha e e1, h⟩⟩
theorem canF_mono {W : Wb} {a b : List Int} (ha : a.length = W.n) (hb : b.length = W.n) (h : ∀ i, i < W.n → a.getD i 0 ≤ b.getD i 0) (c : CanF W a) : CanF W b := by
  obtain ⟨g, ⟨r, hr, rfl⟩, hg⟩ := c
  refine ⟨given W b r, ⟨r, hr, rfl⟩, fun i hi => ?_⟩
  have := hg i hi
  rw [given_at ha hr hi] at this
  rw [given_at hb hr hi]
  have := h i hi
  omega
theorem canF_add {W : Wb} {a b : List Int} (ha : a.length = W.n) (hb : b.length = W.n) (ca : CanF W a) (cb : CanF W b) : CanF W (zipP a b 1) := by
  obtain ⟨g, eg, hg⟩ := ca
  obtain ⟨k, ek, hk⟩ := cb
  have lg := eqv_len ha eg
  have lk := eqv_len hb ek
  have e1 := eqv_add ha hb ek
  have comm : ∀ {x y : List Int}, x.length = W.n → y.length = W.n → zipP x y 1 = zipP y x 1 := fun {x y} hx hy => list_ext (zipP_len hx hy) (zipP_len hy hx) fun i hi => by rw [zip_at hx hy hi, zip_at hy hx hi]; omega
  have e2 := eqv_add lk ha eg
  rw [comm lk ha, comm lk lg] at e2
  refine ⟨zipP g k 1, eqv_trans (zipP_len ha hb) e1 e2, fun i hi => ?_⟩
  rw [zip_at lg lk hi]
  have := hg i hi
  have := hk i hi
  omega
theorem canF_sum {W : Wb} (ok : W.Ok) {a : List Int} (ha : a.length = W.n) (c : CanF W a) : 0 ≤ a.sum := by
  obtain ⟨g, e, h⟩ := c
  rw [← eqv_sum ok ha e, sum_list (eqv_len ha e)]
  exact sumN_nn h
/-- the sequence in which a fire burns -/
def fireF (W : Wb) (g : List Int) (i : Nat) : Int := ((burnB W g 0 W.n).idxOf i : Nat)
theorem burn_pre {W : Wb} {g : List Int} {p k : Nat} : ∀ m, ∃ R, burnB W g p (k + m) = burnB W g p k ++ R
  | 0 => ⟨[], by simp⟩
  | m + 1 => by
    obtain ⟨R, e⟩ := burn_pre (W := W) (g := g) (p := p) (k := k) m
    refine ⟨R ++ lateOf W g (burnB W g p (k + m)), ?_⟩
    show burnB W g p (k + m) ++ lateOf W g (burnB W g p (k + m)) = _
    rw [← List.append_assoc, ← e]
theorem idx_in {L R : List Nat} {i : Nat} (h : i ∈ L) : (L ++ R).idxOf i < L.length := by
  rw [List.idxOf_append, if_pos h]
  exact List.idxOf_lt_length_iff.mpr h
theorem idx_out {L R : List Nat} {i : Nat} (h : i ∉ L) : L.length ≤ (L ++ R).idxOf i := by
  rw [List.idxOf_append, if_neg h]
  omega
theorem first_in {W : Wb} {g : List Int} {p i : Nat} : ∀ n, i ∈ burnB W g p n → i = p ∨ ∃ k, k < n ∧ i ∉ burnB W g p k ∧ i ∈ lateOf W g (burnB W g p k)
  | 0, h => .inl (by simpa [burnB] using h)
  | n + 1, h => by
    unfold burnB at h
    rcases List.mem_append.mp h with z | z
    · rcases first_in n z with y | ⟨k, h1, h2, h3⟩
      · exact .inl y
      · exact .inr ⟨k, by omega, h2, h3⟩
    · by_cases y : i ∈ burnB W g p n
      · rcases first_in n y with y | ⟨k, h1, h2, h3⟩
        · exact .inl y
        · exact .inr ⟨k, by omega, h2, h3⟩
      · exact .inr ⟨n, by omega, y, z⟩
theorem red_below {W : Wb} (ok : W.Ok) {g : List Int} (rd : Red W 0 g) (hneg : g.getD 0 0 < 0) : FSeq W.n (fireF W g) ∧ ∀ i, i < W.n → g.getD i 0 ≤ (nu W (fireF W g)).getD i 0 := by
  have n1 := ok.n1
  obtain ⟨nd, lt⟩ := burn_lt (W := W) (h := g) (p := 0) (by omega) W.n
  have all : ∀ i, i < W.n → i ∈ burnB W g 0 W.n := fun i hi => by
    refine Decidable.byContradiction fun y => ?_
    have : i ∈ unb W g 0 := unb_mem.mpr ⟨hi, y⟩
    rw [rd.fire] at this
    cases this
  refine ⟨fun i j hi hj e => ?_, fun i hi => ?_⟩
  · unfold fireF at e
    have e : (burnB W g 0 W.n).idxOf i = (burnB W g 0 W.n).idxOf j := by omega
    have h1 := List.getElem_idxOf (List.idxOf_lt_length_iff.mpr (all i hi))
    have h2 := List.getElem_idxOf (List.idxOf_lt_length_iff.mpr (all j hj))
    rw [← h1, ← h2]
    congr 1
  · rw [nu_at hi]
    rcases first_in W.n (all i hi) with rfl | ⟨k, hk, hout, hin⟩
    · have : 0 ≤ inDeg W (fireF W g) 0 := sumN_nn fun j hj => by split <;> omega
      omega
    · have hc : ctch W g (burnB W g 0 k) i = true := (List.mem_filter.mp hin).2
      unfold ctch tiesB at hc
      rw [Bool.and_eq_true] at hc
      have h1 := of_decide_eq_true hc.2
      obtain ⟨b1, b2⟩ := burn_lt (W := W) (h := g) (p := 0) (by omega) k
      rw [← row_sum b1 b2] at h1
      have h2 : -(sumN W.n fun j => (rowOf W.n (burnB W g 0 k)).getD j 0 * tab W.ts i j) ≤ inDeg W (fireF W g) i := by
        have h3 : (sumN W.n fun j => -((rowOf W.n (burnB W g 0 k)).getD j 0 * tab W.ts i j)) ≤ inDeg W (fireF W g) i := by
          unfold inDeg
          refine sumN_le fun j hj => ?_
          unfold rowOf
          rw [getD_map hj]
          by_cases hb : j ∈ burnB W g 0 k
          · rw [if_pos (by simpa using hb)]
            have hij : i ≠ j := fun z => hout (z ▸ hb)
            obtain ⟨R, eR⟩ := burn_pre (W := W) (g := g) (p := 0) (k := k) (W.n - k)
            rw [show k + (W.n - k) = W.n by omega] at eR
            have x1 := idx_in (R := R) hb
            have x2 := idx_out (R := R) hout
            rw [← eR] at x1 x2
            have hlt : fireF W g j < fireF W g i := by unfold fireF; omega
            rw [if_pos hlt, tab_wt hij]
            omega
          · rw [if_neg (by simpa using hb)]
            split <;> omega
        have e4 : (sumN W.n fun j => -((rowOf W.n (burnB W g 0 k)).getD j 0 * tab W.ts i j)) = -(sumN W.n fun j => (rowOf W.n (burnB W g 0 k)).getD j 0 * tab W.ts i j) := by
          have : (sumN W.n fun j => -((rowOf W.n (burnB W g 0 k)).getD j 0 * tab W.ts i j) + (rowOf W.n (burnB W g 0 k)).getD j 0 * tab W.ts i j) = 0 := by
            rw [sumN_congr (g := fun _ => 0) fun j _ => by omega, sumN_zero]
          rw [sumN_add] at this
          omega
        omega
      omega
/-- whether a heap can be freed is told by its reduced heap -/
theorem canF_red {W : Wb} (g : W.Good) {h : List Int} {d : List Int} (hl : h.length = W.n) (rd : Red W 0 d) (e : Eqv W h d) : CanF W h ↔ 0 ≤ d.getD 0 0 := by
  have n1 := g.ok.n1
  rw [canF_eqv hl e]
  constructor
  · intro c
    refine Int.not_lt.mp fun z => ?_
    obtain ⟨hf, hle⟩ := red_below g.ok rd z
    exact nu_bad g.ok hf (canF_mono rd.len nu_len hle c)
  · intro h0
    exact ⟨d, eqv_refl rd.len, fun i hi => by
      by_cases z : i = 0
      · subst z; exact h0
      · exact rd.nn i hi z⟩
/-! ### ranks -/
structure Rk (W : Wb) (h : List Int) (r : Int) : Prop where
  lo : -1 ≤ r
  all : ∀ E, Eff W.n E → E.sum ≤ r → CanF W (zipP h E (-1))
  bar : ∃ E, Eff W.n E ∧ E.sum = r + 1 ∧ ¬ CanF W (zipP h E (-1))
theorem rk_uniq {W : Wb} {h : List Int} {r s : Int} (a : Rk W h r) (b : Rk W h s) : r = s := by
  have key : ∀ {r s : Int}, Rk W h r → Rk W h s → ¬ r < s := fun {r s} a b hlt => by
    obtain ⟨E, h1, h2, h3⟩ := a.bar
    exact h3 (b.all E h1 (by omega))
  have h1 := key a b
  have h2 := key b a
  omega
/-- half of the theorem -/
theorem rk_half {W : Wb} (g : W.Good) {h : List Int} {r s : Int} (hl : h.length = W.n) (a : Rk W h r) (b : Rk W (zipP (farL W) h (-1)) s) : s ≤ rngs W - 1 - h.sum + r := by
  obtain ⟨E, h1, h2, h3⟩ := a.bar
  have lz := zipP_len (m := -1) hl h1.1
  obtain ⟨φ, pt⟩ := pot_ex g (p := 0) (by have := g.ok.n1; omega)
  obtain ⟨d, rd, ed⟩ := red_ex g.ok (by have := g.ok.n1; omega) pt lz
  have hneg : d.getD 0 0 < 0 := Int.not_le.mp fun z => h3 ((canF_red g lz rd ed).mpr z)
  obtain ⟨hf, hle⟩ := red_below g.ok rd hneg
  have ld := rd.len
  let F := zipP (nu W (fireF W d)) d (-1)
  have lF : F.length = W.n := zipP_len nu_len ld
  have eF : Eff W.n F := ⟨lF, fun i hi => by
    show 0 ≤ (zipP (nu W (fireF W d)) d (-1)).getD i 0
    rw [zip_at nu_len ld hi]
    have := hle i hi
    omega⟩
  have sF : F.sum = rngs W - 1 - h.sum + r + 1 := by
    show (zipP (nu W (fireF W d)) d (-1)).sum = _
    rw [zip_sum nu_len ld, nu_sum g.ok hf, eqv_sum g.ok lz ed, zip_sum hl h1.1, h2]
    omega
  refine Int.not_lt.mp fun z => ?_
  have hc := b.all F eF (by omega)
  have lk := zipP_len (m := -1) (far_len (W := W)) hl
  -- the far heap less h less F is alike to something below the heap of the sequence turned about
  refine nu_bad g.ok (neg_seq hf) ?_
  rw [← nu_far g.ok hf]
  -- farL - nu ~ farL - h + E - F
  have e1 : Eqv W (zipP (farL W) (zipP (zipP h E (-1)) F 1) (-1)) (zipP (farL W) (nu W (fireF W d)) (-1)) := by
    have e2 : Eqv W (zipP (zipP h E (-1)) F 1) (zipP d F 1) := by
      have := eqv_add lF lz ed
      have comm : ∀ {x y : List Int}, x.length = W.n → y.length = W.n → zipP x y 1 = zipP y x 1 := fun {x y} hx hy => list_ext (zipP_len hx hy) (zipP_len hy hx) fun i hi => by rw [zip_at hx hy hi, zip_at hy hx hi]; omega
      rwa [comm lF lz, comm lF ld] at this
    have e3 : zipP d F 1 = nu W (fireF W d) := list_ext (zipP_len ld lF) nu_len fun i hi => by
      rw [zip_at ld lF hi]
      show d.getD i 0 + 1 * (zipP (nu W (fireF W d)) d (-1)).getD i 0 = _
      rw [zip_at nu_len ld hi]
      omega
    rw [e3] at e2
    obtain ⟨r0, hr0, e4⟩ := e2
    have lq := zipP_len (m := 1) lz lF
    refine ⟨r0.map (fun x => -x), by simpa using hr0, list_ext (zipP_len far_len nu_len) (given_len (zipP_len far_len lq)) fun i hi => ?_⟩
    rw [zip_at far_len nu_len hi, given_at (zipP_len far_len lq) (by simpa using hr0) hi, zip_at far_len lq hi, e4, given_at lq hr0 hi]
    have e5 : (sumN W.n fun j => (r0.map fun x => -x).getD j 0 * tab W.ts i j) = -(sumN W.n fun j => r0.getD j 0 * tab W.ts i j) := by
      have : (sumN W.n fun j => (r0.map fun x => -x).getD j 0 * tab W.ts i j + r0.getD j 0 * tab W.ts i j) = 0 := by
        rw [sumN_congr (g := fun _ => 0) fun j hj => ?_, sumN_zero]
        have : (r0.map fun x => -x).getD j 0 = -(r0.getD j 0) := by
          rw [List.getD_eq_getElem?_getD, List.getElem?_map, List.getD_eq_getElem?_getD, List.getElem?_eq_getElem (by omega)]
          rfl
        rw [this, Int.neg_mul]
        omega
      rw [sumN_add] at this
      omega
    rw [e5]
    omega
  have lq := zipP_len (m := 1) lz lF
  rw [← canF_eqv (zipP_len far_len lq) e1]
  refine canF_mono (zipP_len lk lF) (zipP_len far_len lq) (fun i hi => ?_) hc
  rw [zip_at lk lF hi, zip_at far_len hl hi, zip_at far_len lq hi, zip_at lz lF hi, zip_at hl h1.1 hi]
  have := h1.2 i hi
  omega
theorem far_far {W : Wb} {h : List Int} (hl : h.length = W.n) : zipP (farL W) (zipP (farL W) h (-1)) (-1) = h := by
  have lk := zipP_len (m := -1) (far_len (W := W)) hl
  refine list_ext (zipP_len far_len lk) hl fun i hi => ?_
  rw [zip_at far_len lk hi, zip_at far_len hl hi]
  omega
/-- the main theorem on ranks -/
theorem rk_dual {W : Wb} (g : W.Good) {h : List Int} {r s : Int} (hl : h.length = W.n) (a : Rk W h r) (b : Rk W (zipP (farL W) h (-1)) s) : r - s = h.sum + 1 - rngs W := by
  have h1 := rk_half g hl a b
  have lk := zipP_len (m := -1) (far_len (W := W)) hl
  have h2 := rk_half g lk b (by rw [far_far hl]; exact a)
  rw [zip_sum far_len hl, far_sum g.ok] at h2
  omega
theorem eff_unit {n i : Nat} (hi : i < n) : Eff n ((List.range n).map fun j => if i = j then (1 : Int) else 0) ∧ ((List.range n).map fun j => if i = j then (1 : Int) else 0).sum = 1 := by
  refine ⟨⟨by simp, fun j hj => by rw [getD_map hj]; split <;> omega⟩, ?_⟩
  rw [sum_range, sumN_one hi]
/-- each heap has a rank -/
theorem rk_ex {W : Wb} (g : W.Good) {h : List Int} (hl : h.length = W.n) : ∃ r, Rk W h r := by
  classical
  have n1 := g.ok.n1
  -- the least number of coins that bar
  have hbar : ∃ m : Nat, ∃ E, Eff W.n E ∧ E.sum = m ∧ ¬ CanF W (zipP h E (-1)) := by
    refine ⟨(h.sum + 1).toNat, (List.range W.n).map fun j => if 0 = j then ((h.sum + 1).toNat : Int) else 0, ⟨by simp, fun j hj => by rw [getD_map hj]; split <;> omega⟩, ?_, fun c => ?_⟩
    · rw [sum_range, sumN_one (by omega)]
    · have hE : ((List.range W.n).map fun j => if 0 = j then ((h.sum + 1).toNat : Int) else 0).length = W.n := by simp
      have := canF_sum g.ok (zipP_len hl hE) c
      rw [zip_sum hl hE, sum_range, sumN_one (by omega)] at this
      omega
  obtain ⟨m0, hm0⟩ := hbar
  obtain ⟨m, _, hm, hmin⟩ := least (P := fun k => ∃ E, Eff W.n E ∧ E.sum = (k : Nat) ∧ ¬ CanF W (zipP h E (-1))) m0 hm0
  obtain ⟨E, h1, h2, h3⟩ := hm
  refine ⟨(m : Int) - 1, by omega, fun E' hE' hs => ?_, E, h1, by omega, h3⟩
  have h0 : 0 ≤ E'.sum := by rw [sum_list hE'.1]; exact sumN_nn hE'.2
  exact Classical.byContradiction fun z => hmin E'.sum.toNat (by omega) ⟨E', hE', by omega, z⟩
end K79
set_option maxHeartbeats 4000000
namespace K79
open PySem L2 Evl Lf
/-! ### ascending lots of places -/
def lastN (l : List Nat) : Nat := l.getLastD 0
def rngA (a n : Nat) : List Nat := (List.range (n - a)).map (a + ·)
theorem mem_rngA {a n x : Nat} : x ∈ rngA a n ↔ a ≤ x ∧ x < n := by
  unfold rngA
  rw [List.mem_map]
  constructor
  · rintro ⟨y, hy, rfl⟩
    have := List.mem_range.mp hy
    omega
  · rintro ⟨h1, h2⟩
    exact ⟨x - a, List.mem_range.mpr (by omega), by omega⟩
def lotsA (n : Nat) : Nat → List (List Nat)
  | 0 => [[]]
  | m + 1 => (lotsA n m).flatMap fun l => (rngA (lastN l) n).map fun p => l ++ [p]
theorem lotsA_in {n : Nat} : ∀ m l, l ∈ lotsA n m → l.length = m ∧ ∀ i, i ∈ l → i < n
  | 0, l, h => by
    simp [lotsA] at h
    subst h
    simp
  | m + 1, l, h => by
    unfold lotsA at h
    obtain ⟨l', h1, h2⟩ := List.mem_flatMap.mp h
    obtain ⟨p, hp, rfl⟩ := List.mem_map.mp h2
    obtain ⟨h3, h4⟩ := lotsA_in m l' h1
    refine ⟨by simp [h3], fun i hi => ?_⟩
    rcases List.mem_append.mp hi with z | z
    · exact h4 i z
    · rw [List.mem_singleton.mp z]
      exact (mem_rngA.mp hp).2
theorem lotsA_cnt {n : Nat} : ∀ m, (lotsA n m).length ≤ n ^ m
  | 0 => by simp [lotsA]
  | m + 1 => by
    have ih := lotsA_cnt (n := n) m
    have := flat_len (lotsA n m) (fun l => (rngA (lastN l) n).map fun p => l ++ [p]) n fun l _ => by
      simp [rngA]
    unfold lotsA
    rw [Nat.pow_succ]
    exact Nat.le_trans this (Nat.mul_le_mul_right _ ih)
theorem lotsA_small {n m : Nat} (hn : n ≤ 4) (hm : m ≤ 8) : (lotsA n m).length < 100000 := by
  refine Nat.lt_of_le_of_lt (lotsA_cnt m) ?_
  have h1 : n ^ m ≤ 4 ^ m := Nat.pow_le_pow_left hn m
  have h2 : (4 : Nat) ^ m ≤ 4 ^ 8 := Nat.pow_le_pow_right (by omega) hm
  have : (4 : Nat) ^ 8 < 100000 := by decide
  omega
/-- how often each place is there -/
def cntL (n : Nat) (l : List Nat) : List Int := (List.range n).map fun i => (l.count i : Int)
theorem cnt_len {n : Nat} {l : List Nat} : (cntL n l).length = n := by unfold cntL; simp
theorem cnt_at {n i : Nat} {l : List Nat} (hi : i < n) : (cntL n l).getD i 0 = (l.count i : Int) := by unfold cntL; rw [getD_map hi]
theorem cnt_eff {n : Nat} {l : List Nat} : Eff n (cntL n l) := ⟨cnt_len, fun i hi => by rw [cnt_at hi]; omega⟩
theorem cnt_sum {n : Nat} : ∀ {l : List Nat}, (∀ i, i ∈ l → i < n) → (cntL n l).sum = l.length
  | [], _ => by
    rw [sum_list cnt_len, sumN_congr (g := fun _ => 0) fun i hi => by rw [cnt_at hi]; simp, sumN_zero]
    rfl
  | a :: l, h => by
    have ih := cnt_sum (n := n) (l := l) fun i hi => h i (by simp [hi])
    rw [sum_list cnt_len] at ih ⊢
    rw [sumN_congr (g := fun i => (cntL n l).getD i 0 + if a = i then 1 else 0) fun i hi => by
      rw [cnt_at hi, cnt_at hi, List.count_cons]
      by_cases z : a = i
      · simp [z]
      · simp [z], sumN_add, ih, sumN_one (h a (by simp)), List.length_cons]
    omega
theorem maxp {n : Nat} (P : Nat → Prop) (h : ∃ i, i < n ∧ P i) : ∃ m, m < n ∧ P m ∧ ∀ i, i < n → P i → i ≤ m := by
  obtain ⟨m, h1, h2, h3⟩ := argfirst n (fun i => -(i : Int)) P h
  exact ⟨m, h1, h2, fun i hi hp => by have := h3 i hi hp; omega⟩
theorem lots_all {n : Nat} : ∀ (m : Nat) (E : List Int), Eff n E → E.sum = m → ∃ l, l ∈ lotsA n m ∧ cntL n l = E
  | 0, E, hE, hs => ⟨[], by simp [lotsA], by
    refine list_ext cnt_len hE.1 fun i hi => ?_
    rw [cnt_at hi]
    have h0 : ∀ i, i < n → E.getD i 0 = 0 := by
      rw [sum_list hE.1] at hs
      intro i hi
      have h1 := hE.2 i hi
      refine Int.le_antisymm (Int.not_lt.mp fun z => ?_) h1
      have h2 : (sumN n fun j => if i = j then E.getD i 0 else 0) ≤ sumN n fun j => E.getD j 0 := sumN_le fun j hj => by
        split
        · rename_i e; rw [e]; omega
        · exact hE.2 j hj
      rw [sumN_one hi] at h2
      omega
    rw [h0 i hi]
    simp⟩
  | m + 1, E, hE, hs => by
    have hex : ∃ i, i < n ∧ 0 < E.getD i 0 := by
      refine Classical.byContradiction fun z => ?_
      have : (sumN n fun i => E.getD i 0) ≤ sumN n fun _ => 0 := sumN_le fun i hi => Int.not_lt.mp fun y => z ⟨i, hi, y⟩
      rw [sumN_zero, ← sum_list hE.1] at this
      omega
    obtain ⟨p, hp, hpos, hmax⟩ := maxp (fun i => 0 < E.getD i 0) hex
    have hE' : Eff n (E.set p (E.getD p 0 - 1)) := ⟨by rw [List.length_set, hE.1], fun i hi => by
      by_cases e : i = p
      · subst e
        rw [List.getD_eq_getElem?_getD, List.getElem?_set_self (by rw [hE.1]; exact hp)]
        show 0 ≤ E.getD i 0 - 1
        omega
      · rw [List.getD_eq_getElem?_getD, List.getElem?_set_ne (fun z => e z.symm), ← List.getD_eq_getElem?_getD]
        exact hE.2 i hi⟩
    obtain ⟨l, hl, hc⟩ := lots_all m _ hE' (by rw [set_sum hp hE.1]; omega)
    have hat : ∀ i, i < n → (l.count i : Int) = E.getD i 0 - if i = p then 1 else 0 := fun i hi => by
      rw [← cnt_at hi, hc]
      by_cases e : i = p
      · subst e
        rw [List.getD_eq_getElem?_getD, List.getElem?_set_self (by rw [hE.1]; exact hp), if_pos rfl]
        rfl
      · rw [List.getD_eq_getElem?_getD, List.getElem?_set_ne (fun z => e z.symm), ← List.getD_eq_getElem?_getD, if_neg e]
        omega
    refine ⟨l ++ [p], ?_, ?_⟩
    · unfold lotsA
      refine List.mem_flatMap.mpr ⟨l, hl, List.mem_map.mpr ⟨p, mem_rngA.mpr ⟨?_, hp⟩, rfl⟩⟩
      unfold lastN
      by_cases z : l = []
      · subst z; simp
      · obtain ⟨l', x, rfl⟩ : ∃ l' x, l = l' ++ [x] := ⟨l.dropLast, l.getLast z, (List.dropLast_concat_getLast z).symm⟩
        have hx : x < n := (lotsA_in m _ hl).2 x (by simp)
        have h1 := hat x hx
        have h2 : 0 < (l' ++ [x]).count x := List.count_pos_iff.mpr (by simp)
        have h3 : 0 < E.getD x 0 := by split at h1 <;> omega
        have := hmax x hx h3
        simpa using this
    · refine list_ext cnt_len hE.1 fun i hi => ?_
      rw [cnt_at hi, List.count_append, Int.natCast_add, hat i hi]
      by_cases e : i = p
      · subst e
        simp
      · have e' : p ≠ i := fun z => e z.symm
        simp [e, e']
/-- coins taken at some places -/
def takenL (n : Nat) (h : List Int) (l : List Nat) : List Int := zipP h (cntL n l) (-1)
theorem taken_len {n : Nat} {h : List Int} {l : List Nat} (hl : h.length = n) : (takenL n h l).length = n := zipP_len hl cnt_len
theorem taken_at {n i : Nat} {h : List Int} {l : List Nat} (hl : h.length = n) (hi : i < n) : (takenL n h l).getD i 0 = h.getD i 0 - (l.count i : Int) := by
  unfold takenL
  rw [zip_at hl cnt_len hi, cnt_at hi]
  omega
theorem taken_nil {n : Nat} {h : List Int} (hl : h.length = n) : takenL n h [] = h := list_ext (taken_len hl) hl fun i hi => by rw [taken_at hl hi]; simp
theorem taken_snoc {n p : Nat} {h : List Int} {l : List Nat} (hl : h.length = n) (hp : p < n) : (takenL n h l).set p ((takenL n h l).getD p 0 - 1) = takenL n h (l ++ [p]) := by
  refine list_ext (by rw [List.length_set]; exact taken_len hl) (taken_len hl) fun i hi => ?_
  rw [taken_at hl hi, List.count_append, Int.natCast_add]
  by_cases e : i = p
  · subst e
    rw [List.getD_eq_getElem?_getD, List.getElem?_set_self (by rw [taken_len hl]; exact hp)]
    show (takenL n h l).getD i 0 - 1 = _
    rw [taken_at hl hi]
    simp
    omega
  · have e' : p ≠ i := fun z => e z.symm
    rw [List.getD_eq_getElem?_getD, List.getElem?_set_ne (fun z => e z.symm), ← List.getD_eq_getElem?_getD, taken_at hl hi]
    simp [e']
/-! ### ranks found by trying -/
theorem rk_found {W : Wb} {h : List Int} {m : Nat} {l : List Nat} (hl : l ∈ lotsA W.n m) (hb : ¬ CanF W (takenL W.n h l)) (all : ∀ k, k < m → ∀ l', l' ∈ lotsA W.n k → CanF W (takenL W.n h l')) : Rk W h ((m : Int) - 1) := by
  obtain ⟨h1, h2⟩ := lotsA_in m l hl
  refine ⟨by omega, fun E hE hs => ?_, cntL W.n l, cnt_eff, by rw [cnt_sum h2, h1]; omega, hb⟩
  have h0 : 0 ≤ E.sum := by rw [sum_list hE.1]; exact sumN_nn hE.2
  obtain ⟨l', h3, rfl⟩ := lots_all E.sum.toNat E hE (by omega)
  exact all _ (by omega) l' h3
theorem rk_stop {W : Wb} (ok : W.Ok) {h : List Int} (hl : h.length = W.n) {m : Nat} (hm : h.sum < m) (all : ∀ l', l' ∈ lotsA W.n m → CanF W (takenL W.n h l')) : False := by
  have n1 := ok.n1
  obtain ⟨l', h3, e⟩ := lots_all (n := W.n) m ((List.range W.n).map fun j => if 0 = j then (m : Int) else 0) ⟨by simp, fun j hj => by rw [getD_map hj]; split <;> omega⟩ (by rw [sum_range, sumN_one (by omega)])
  have := canF_sum ok (taken_len hl) (all l' h3)
  unfold takenL at this
  rw [zip_sum hl cnt_len, e, sum_range, sumN_one (by omega)] at this
  omega
theorem rk_eqv {W : Wb} {a b : List Int} {r : Int} (ha : a.length = W.n) (e : Eqv W a b) (k : Rk W a r) : Rk W b r := by
  have hb := eqv_len ha e
  have comm : ∀ {x y : List Int}, x.length = W.n → y.length = W.n → zipP x y (-1) = zipP (zipP x (z0 W) 1) y (-1) := fun {x y} hx hy => by
    rw [show zipP x (z0 W) 1 = x from list_ext (zipP_len hx (by simp [z0])) hx fun i hi => by rw [zip_at hx (by simp [z0]) hi, z0_at]; omega]
  have key : ∀ E, Eff W.n E → Eqv W (zipP a E (-1)) (zipP b E (-1)) := fun E hE => by
    obtain ⟨r0, hr0, rfl⟩ := e
    refine ⟨r0, hr0, list_ext (zipP_len hb hE.1) (given_len (zipP_len ha hE.1)) fun i hi => ?_⟩
    rw [zip_at hb hE.1 hi, given_at ha hr0 hi, given_at (zipP_len ha hE.1) hr0 hi, zip_at ha hE.1 hi]
    omega
  refine ⟨k.lo, fun E hE hs => (canF_eqv (zipP_len ha hE.1) (key E hE)).mp (k.all E hE hs), ?_⟩
  obtain ⟨E, hE, hs, hc⟩ := k.bar
  exact ⟨E, hE, hs, fun c => hc ((canF_eqv (zipP_len ha hE.1) (key E hE)).mpr c)⟩
theorem rk_low {W : Wb} (ok : W.Ok) {h : List Int} (hl : h.length = W.n) (hs : h.sum < 0) : Rk W h (-1) := by
  refine ⟨by omega, fun E hE hs => ?_, z0 W, ⟨by simp [z0], fun i hi => by rw [z0_at]; omega⟩, ?_, fun c => ?_⟩
  · have : 0 ≤ E.sum := by rw [sum_list hE.1]; exact sumN_nn hE.2
    omega
  · rw [sum_list (n := W.n) (by simp [z0]), sumN_congr (g := fun _ => 0) fun i hi => z0_at, sumN_zero]
    rfl
  · have h0 : (z0 W).length = W.n := by simp [z0]
    rw [show zipP h (z0 W) (-1) = h from list_ext (zipP_len hl h0) hl fun i hi => by rw [zip_at hl h0 hi, z0_at]; omega] at c
    have := canF_sum ok hl c
    omega
theorem rk_nn {W : Wb} (ok : W.Ok) {h : List Int} {r : Int} (hl : h.length = W.n) (k : Rk W h r) : r ≤ -1 ∨ r ≤ h.sum := by
  by_cases z : r < 0
  · left; omega
  · right
    have n1 := ok.n1
    have h1 : ((List.range W.n).map fun j => if 0 = j then r else 0).length = W.n := by simp
    have c := k.all ((List.range W.n).map fun j => if 0 = j then r else 0) ⟨h1, fun j hj => by rw [getD_map hj]; split <;> omega⟩ (by rw [sum_range, sumN_one (by omega)]; omega)
    have := canF_sum ok (zipP_len hl h1) c
    rw [zip_sum hl h1, sum_range, sumN_one (by omega)] at this
    omega
theorem rk_high {W : Wb} (g : W.Good) {h : List Int} {r : Int} (hl : h.length = W.n) (k : Rk W h r) (hs : 2 * rngs W - 2 < h.sum) : r = h.sum - rngs W := by
  have lk := zipP_len (m := -1) (far_len (W := W)) hl
  have := rk_dual g hl k (rk_low g.ok lk (by rw [zip_sum far_len hl, far_sum g.ok]; omega))
  omega
theorem rk_zero {W : Wb} (ok : W.Ok) : Rk W (z0 W) 0 := by
  have n1 := ok.n1
  have h1 : ((List.range W.n).map fun j => if 0 = j then (1 : Int) else 0).length = W.n := by simp
  refine ⟨by omega, fun E hE hs => ?_, (List.range W.n).map fun j => if 0 = j then (1 : Int) else 0, ⟨h1, fun j hj => by rw [getD_map hj]; split <;> omega⟩, by rw [sum_range, sumN_one (by omega)]; rfl, fun c => ?_⟩
  · have h0 : 0 ≤ E.sum := by rw [sum_list hE.1]; exact sumN_nn hE.2
    obtain ⟨l, h3, rfl⟩ := lots_all 0 E hE (by omega)
    simp [lotsA] at h3
    subst h3
    exact ⟨_, eqv_refl (zipP_len z0_len cnt_len), fun i hi => by rw [zip_at z0_len cnt_len hi, z0_at, cnt_at hi]; simp⟩
  · have := canF_sum ok (zipP_len z0_len h1) c
    rw [zip_sum z0_len h1, sum_range, sumN_one (by omega), sum_list z0_len, sumN_congr (g := fun _ => 0) fun i hi => z0_at, sumN_zero] at this
    omega
/-- the rank of the far heap -/
theorem rk_far {W : Wb} (g : W.Good) {r : Int} (k : Rk W (farL W) r) : r = rngs W - 1 := by
  have e : zipP (farL W) (farL W) (-1) = z0 W := list_ext (zipP_len far_len far_len) z0_len fun i hi => by rw [zip_at far_len far_len hi, z0_at]; omega
  have := rk_dual g far_len k (by rw [e]; exact rk_zero g.ok)
  rw [far_sum g.ok] at this
  omega
theorem split_list : ∀ (E : List Int) (r s : Int), 0 ≤ r → 0 ≤ s → (∀ x, x ∈ E → 0 ≤ x) → E.sum ≤ r + s → ∃ A B : List Int, A.length = E.length ∧ B.length = E.length ∧ (∀ x, x ∈ A → 0 ≤ x) ∧ (∀ x, x ∈ B → 0 ≤ x) ∧ A.sum ≤ r ∧ B.sum ≤ s ∧ zipP A B 1 = E
  | [], r, s, h1, h2, _, _ => ⟨[], [], rfl, rfl, by simp, by simp, by simpa using h1, by simpa using h2, rfl⟩
  | x :: E, r, s, h1, h2, hn, hs => by
    rw [List.sum_cons] at hs
    have hx := hn x (by simp)
    have hE : 0 ≤ E.sum := by
      rw [sum_list rfl]
      refine sumN_nn fun i hi => ?_
      rw [List.getD_eq_getElem?_getD, List.getElem?_eq_getElem hi]
      exact hn _ (by simp)
    by_cases z : x ≤ r
    · obtain ⟨A, B, l1, l2, n1, n2, s1, s2, e⟩ := split_list E (r - x) s (by omega) h2 (fun y hy => hn y (by simp [hy])) (by omega)
      refine ⟨x :: A, 0 :: B, by simp [l1], by simp [l2], by simpa using ⟨hx, n1⟩, by simpa using n2, by rw [List.sum_cons]; omega, by rw [List.sum_cons]; omega, ?_⟩
      show (x + 1 * 0) :: zipP A B 1 = _
      rw [e]
      simp
    · obtain ⟨A, B, l1, l2, n1, n2, s1, s2, e⟩ := split_list E 0 (s - (x - r)) (by omega) (by omega) (fun y hy => hn y (by simp [hy])) (by omega)
      refine ⟨r :: A, (x - r) :: B, by simp [l1], by simp [l2], by simpa using ⟨h1, n1⟩, by simpa using ⟨by omega, n2⟩, by rw [List.sum_cons]; omega, by rw [List.sum_cons]; omega, ?_⟩
      show (r + 1 * (x - r)) :: zipP A B 1 = _
      rw [e]
      congr 1
      omega
theorem eff_all {n : Nat} {E : List Int} : Eff n E ↔ E.length = n ∧ ∀ x, x ∈ E → 0 ≤ x := by
  constructor
  · rintro ⟨h1, h2⟩
    refine ⟨h1, fun x hx => ?_⟩
    obtain ⟨i, hi, rfl⟩ := List.getElem_of_mem hx
    have := h2 i (by omega)
    rwa [List.getD_eq_getElem?_getD, List.getElem?_eq_getElem hi] at this
  · rintro ⟨h1, h2⟩
    refine ⟨h1, fun i hi => ?_⟩
    rw [List.getD_eq_getElem?_getD, List.getElem?_eq_getElem (by omega)]
    exact h2 _ (List.getElem_mem _)
/-- ranks of two heaps added -/
theorem rk_add {W : Wb} {a b : List Int} {r s t : Int} (ha : a.length = W.n) (hb : b.length = W.n) (ka : Rk W a r) (kb : Rk W b s) (kt : Rk W (zipP a b 1) t) (hr : 0 ≤ r) (hs : 0 ≤ s) : r + s ≤ t := by
  refine Int.not_lt.mp fun z => ?_
  obtain ⟨E, hE, e1, hc⟩ := kt.bar
  obtain ⟨A, B, l1, l2, n1, n2, s1, s2, e⟩ := split_list E r s hr hs (eff_all.mp hE).2 (by omega)
  have hA : Eff W.n A := eff_all.mpr ⟨l1.trans hE.1, n1⟩
  have hB : Eff W.n B := eff_all.mpr ⟨l2.trans hE.1, n2⟩
  refine hc ?_
  have e2 : zipP (zipP a b 1) E (-1) = zipP (zipP a A (-1)) (zipP b B (-1)) 1 := by
    subst e
    refine list_ext (zipP_len (zipP_len ha hb) (zipP_len hA.1 hB.1)) (zipP_len (zipP_len ha hA.1) (zipP_len hb hB.1)) fun i hi => ?_
    rw [zip_at (zipP_len ha hb) (zipP_len hA.1 hB.1) hi, zip_at ha hb hi, zip_at hA.1 hB.1 hi, zip_at (zipP_len ha hA.1) (zipP_len hb hB.1) hi, zip_at ha hA.1 hi, zip_at hb hB.1 hi]
    omega
  rw [e2]
  exact canF_add (zipP_len ha hA.1) (zipP_len hb hB.1) (ka.all A hA s1) (kb.all B hB s2)
theorem rk_late {W : Wb} {a f : List Int} {r t : Int} (ha : a.length = W.n) (hf : Eff W.n f) (ka : Rk W a r) (kt : Rk W (zipP a f 1) t) : r ≤ t ∧ t ≤ r + f.sum := by
  have lz := zipP_len (m := 1) ha hf.1
  constructor
  · refine Int.not_lt.mp fun z => ?_
    obtain ⟨E, hE, e1, hc⟩ := kt.bar
    refine hc (canF_mono (zipP_len ha hE.1) (zipP_len lz hE.1) (fun i hi => ?_) (ka.all E hE (by omega)))
    rw [zip_at ha hE.1 hi, zip_at lz hE.1 hi, zip_at ha hf.1 hi]
    have := hf.2 i hi
    omega
  · refine Int.not_lt.mp fun z => ?_
    obtain ⟨E, hE, e1, hc⟩ := ka.bar
    have lE := zipP_len (m := 1) hE.1 hf.1
    have c := kt.all (zipP E f 1) ⟨lE, fun i hi => by
      rw [zip_at hE.1 hf.1 hi]
      have := hf.2 i hi
      have := hE.2 i hi
      omega⟩ (by rw [zip_sum hE.1 hf.1]; omega)
    refine hc ?_
    rwa [show zipP (zipP a f 1) (zipP E f 1) (-1) = zipP a E (-1) from list_ext (zipP_len lz lE) (zipP_len ha hE.1) fun i hi => by
      rw [zip_at lz lE hi, zip_at ha hf.1 hi, zip_at hE.1 hf.1 hi, zip_at ha hE.1 hi]; omega] at c
end K79
set_option maxHeartbeats 4000000
namespace K79
open PySem L2 Evl Lf
variable {P : Program} {w : World} {K : PySem.W.Frag} {mg : Str → Option Value} {base : Heap} {f : Addr} {fd : FuncData}
structure Wb.Few (W : Wb) : Prop extends W.Fit where
  m7 : W.ts.length ≤ 7
section
variable {S : Stat} {Γ Γ1 : List Sl} {c : Expr} {bs rest : List Stmt} {pos : Pos} {E : Endv}
/-- a test that holds, its body leaving the def -/
theorem yesif {cs : List Stmt} (hc : GT S c Γ [] Γ1 true) (h : GSs S bs Γ1 { E with nx := fun _ => False }) : GSs S (.If c bs cs pos :: rest) Γ E := gss_last (gs_if hc (fun _ => h) (fun z => by cases z))
end
/-! ### rings -/
def pRings (ds : List D) (r : D) : Prop := ∃ W : Wb, ds = [W.D] ∧ r = .int (rngs W)
theorem sc_rings : FnScope ["web"] ["web"] (defScope (top 18)) := ⟨rfl, rfl, rfl, by decide +kernel, rfl, by decide +kernel, by decide +kernel⟩
theorem ok_rings (T : Txt mg) (F : Fun K "rings_by" "rings_by" (top 18) f fd) : FnOk P w K mg base CX0 1 f fd ["web"] (pureSp pRings) := by
  refine fn_pure F sc_rings (fun ds r h => by obtain ⟨_, rfl, _⟩ := h; rfl) fun ds r h => ?_
  obtain ⟨W, rfl, rfl⟩ := h
  refine ret (ge_bin (ge_bin (ge_len rfl T.len (ge_ixT (v 0 rfl) ge_int .sh (d := .tuple (W.ts.map tieD)) rfl (pix (fun _ _ => rfl))) (.t .sh) (fun _ => rfl)) (ge_ixT (v 0 rfl) ge_int .sh (d := .int W.n) rfl (pix (fun _ _ => rfl))) og_sub) ge_int og_add) (retS ?_)
  unfold rngs
  simp
theorem sc_lrings : FnScope ["web"] ["web"] (defScope (top 72)) := ⟨rfl, rfl, rfl, by decide +kernel, rfl, by decide +kernel, by decide +kernel⟩
theorem ok_lrings (T : Txt mg) (F : Fun K "_law_rings" "_law_rings" (top 72) f fd) : FnOk P w K mg base CX0 1 f fd ["web"] (pureSp pRings) := by
  refine fn_pure F sc_lrings (fun ds r h => by obtain ⟨_, rfl, _⟩ := h; rfl) fun ds r h => ?_
  obtain ⟨W, rfl, rfl⟩ := h
  refine ret (ge_bin (ge_bin (ge_len rfl T.len (ge_ixT (v 0 rfl) ge_int .sh (d := .tuple (W.ts.map tieD)) rfl (pix (fun _ _ => rfl))) (.t .sh) (fun _ => rfl)) (ge_ixT (v 0 rfl) ge_int .sh (d := .int W.n) rfl (pix (fun _ _ => rfl))) og_sub) ge_int og_add) (retS ?_)
  unfold rngs
  simp
/-! ### coins, is_free -/
def pCoins (ds : List D) (r : D) : Prop := ∃ (W : Wb) (h : List Int), W.Good ∧ h.length = W.n ∧ ds = [W.D, hpD h] ∧ r = .int h.sum
theorem foldl_min : ∀ (xs : List Int) (x : Int), 0 ≤ xs.foldl min x ↔ 0 ≤ x ∧ ∀ y, y ∈ xs → 0 ≤ y
  | [], x => by simp
  | y :: xs, x => by
    rw [List.foldl_cons, foldl_min xs]
    simp only [List.mem_cons, forall_eq_or_imp]
    rw [Int.le_min, and_assoc]
theorem min_nn {h : List Int} {x : Int} {xs : List Int} (e : h = x :: xs) : 0 ≤ xs.foldl min x ↔ ∀ i, i < h.length → 0 ≤ h.getD i 0 := by
  rw [foldl_min]
  subst e
  constructor
  · rintro ⟨h1, h2⟩ i hi
    cases i with
    | zero => exact h1
    | succ i =>
      rw [List.getD_cons_succ, List.getD_eq_getElem?_getD, List.getElem?_eq_getElem (by simpa using hi)]
      exact h2 _ (List.getElem_mem _)
  · intro a
    refine ⟨a 0 (by simp), fun y hy => ?_⟩
    obtain ⟨i, hi, rfl⟩ := List.getElem_of_mem hy
    have := a (i + 1) (by simpa using hi)
    rwa [List.getD_cons_succ, List.getD_eq_getElem?_getD, List.getElem?_eq_getElem hi] at this
def pIsFree (ds : List D) (r : D) : Prop := ∃ (W : Wb) (h : List Int), W.Good ∧ Eff W.n h ∧ ds = [W.D, hpD h] ∧ r = .bool true
/-! ### far heaps, partners -/
def pFarBy (ds : List D) (r : D) : Prop := ∃ W : Wb, W.Good ∧ ds = [W.D] ∧ r = hpD (farL W)
theorem sc_farby : FnScope ["web", "place"] ["web"] (defScope (top 39)) := ⟨rfl, rfl, rfl, by decide +kernel, rfl, by decide +kernel, by decide +kernel⟩
theorem ok_farby (T : Txt mg) (F : Fun K "far_by" "far_by" (top 39) f fd) (F1 : FnG P w K mg base "ties_by" 1 pTiesBy) : FnOk P w K mg base CX0 2 f fd ["web"] (pureSp pFarBy) := by
  refine fn_pure F sc_farby (fun ds r h => by obtain ⟨_, _, rfl, _⟩ := h; rfl) fun ds r h => ?_
  obtain ⟨W, g, rfl, rfl⟩ := h
  have n6 := g.ok.n6
  have hm := g.ok.m
  refine ret (ge_tuple rfl T.tuple (lcA (xs := List.range W.n) (rep := fun i => .int (i : Nat)) (g := fun i => .int ((deg W.ts i : Int) - 2)) (own := [("place", 1)]) (p := .nm 1)
    (lok (IG.of (rg1_eq W.n) (ig_rg1 rfl T.range (ge_ixT (vc 0 rfl) ge_int .sh (d := .int W.n) rfl (pix (fun _ _ => rfl))) (by omega) (fun _ => rfl))) (pg_nm rfl (.inl rfl)) rfl rfl rfl (fun _ _ => rfl))
    (fun i hi => ⟨_, rfl, ge_bin (geq (ge_len rfl T.len (c2 F1 (vc 0 rfl) (v 1 rfl) ⟨W, i, by omega, rfl, rfl⟩ (Nat.le_of_ble_eq_true rfl) rfl rfl (fun _ => rfl) (fun _ => rfl) (fun _ => rfl)) (.l .sh) (fun _ => rfl)) (deg_len W i)) ge_int og_sub⟩) (rl n6) (ni_of rfl)) .ol (fun _ => rfl)) (retS ?_)
  unfold hpD farL
  rw [List.map_map]
  rfl
def pPartnerBy (ds : List D) (r : D) : Prop := ∃ (W : Wb) (h : List Int), W.Good ∧ h.length = W.n ∧ ds = [W.D, hpD h] ∧ r = hpD (zipP (farL W) h (-1))
theorem sc_partby : FnScope ["web", "heap", "far", "mine"] ["web", "heap"] (defScope (top 40)) := ⟨rfl, rfl, rfl, by decide +kernel, rfl, by decide +kernel, by decide +kernel⟩
theorem ok_partby (T : Txt mg) (F : Fun K "partner_by" "partner_by" (top 40) f fd) (F1 : FnG P w K mg base "far_by" 2 pFarBy) : FnOk P w K mg base CX0 3 f fd ["web", "heap"] (pureSp pPartnerBy) := by
  refine fn_pure F sc_partby (fun ds r h => by obtain ⟨_, _, _, _, rfl, _⟩ := h; rfl) fun ds r h => ?_
  obtain ⟨W, h, g, hl, rfl, rfl⟩ := h
  have n6 := g.ok.n6
  refine ret (ge_tuple rfl T.tuple (lcA (xs := (farL W).zip h) (rep := fun p => .tuple [.int p.1, .int p.2]) (g := fun p => .int (p.1 + -1 * p.2)) (own := [("far", 2), ("mine", 3)]) (p := .tp (.cons (.nm 2) (.cons (.nm 3) .nil)))
    ⟨IG.of (zp_ints (farL W) h) (ig_zpT rfl T.zip (c1 F1 (v 0 rfl) ⟨W, g, rfl, rfl⟩ (Nat.le_of_ble_eq_true rfl) rfl rfl (fun _ => rfl)) (v 1 rfl) (fun _ => rfl) (fun _ => rfl)), pg_tp (pgs_cn (pg_nm rfl (.inl rfl)) (pgs_cn (pg_nm rfl (.inl rfl)) pgs_nl (fun _ => rfl)) (fun _ => rfl)) (fun _ => rfl) (fun _ => rfl), rfl, by decide, by simp [hid, startG], (fun _ _ => rfl)⟩
    (fun x hx => ⟨_, rfl, geq (ge_bin (v 2 rfl) (v 3 rfl) og_sub) (by congr 1; omega)⟩) (by simp [hl, far_len]; omega) (ni_of rfl)) .ol (fun _ => rfl)) ?_
  refine retS ?_
  unfold hpD zipP
  rw [← List.map_uncurry_zip_eq_zipWith, List.map_map]
  rfl
/-! ### can_by -/
def pCanBy (ds : List D) (r : D) : Prop := ∃ (W : Wb) (h : List Int) (b : Bool), W.Fit ∧ h.length = W.n ∧ Sm h ∧ (b = true ↔ CanF W h) ∧ ds = [W.D, hpD h] ∧ r = .bool b
theorem sc_canby : FnScope ["web", "heap"] ["web", "heap"] (defScope (top 42)) := ⟨rfl, rfl, rfl, by decide +kernel, rfl, by decide +kernel, by decide +kernel⟩
theorem ok_canby (T : Txt mg) (F : Fun K "can_by" "can_by" (top 42) f fd) (F1 : FnG P w K mg base "reduced_by" 5 pReducedBy) : FnOk P w K mg base CX0 6 f fd ["web", "heap"] (pureSp pCanBy) := by
  refine fn_pure F sc_canby (fun ds r h => by obtain ⟨_, _, _, _, _, _, _, rfl, _⟩ := h; rfl) fun ds r h => ?_
  obtain ⟨W, h, b, g, hl, sm, hb, rfl, rfl⟩ := h
  have n2 := g.n2
  obtain ⟨φ, pt⟩ := pot_ex g.toGood (p := 0) (by omega)
  obtain ⟨d, rd, ed⟩ := red_ex g.ok (p := 0) (by omega) pt hl
  have ld := rd.len
  obtain ⟨x, xs, e⟩ : ∃ x xs, d = x :: xs := by
    cases d with
    | nil => simp at ld; omega
    | cons x xs => exact ⟨x, xs, rfl⟩
  refine ret (ge_and (ge_cmp (ge_sumH rfl T.sum (v 1 rfl) (.t .sh) (fun _ => rfl)) ge_int og_ge rfl) fun _ => ge_one (ge_cmp (ge_min (n := x) (ns := xs) rfl T.min (c3 F1 (v 0 rfl) (v 1 rfl) ge_int ⟨W, h, 0, d, g, hl, sm, by omega, rd, ed, rfl, rfl⟩ (Nat.le_of_ble_eq_true rfl) rfl rfl (fun _ => rfl) (fun _ => rfl) (fun _ => rfl) (fun _ => rfl)) (by rw [← e]; exact .t .sh) (fun _ => rfl)) ge_int og_ge rfl)) (retS ?_)
  congr 1
  rw [Bool.eq_iff_iff, hb, Bool.and_eq_true, decide_eq_true_iff, decide_eq_true_iff, min_nn e, ld, canF_red g.toGood hl rd ed]
  constructor
  · rintro ⟨_, h2⟩
    exact h2 0 (by omega)
  · intro h0
    have hc := (canF_red g.toGood hl rd ed).mpr h0
    refine ⟨canF_sum g.ok hl hc, fun i hi => ?_⟩
    by_cases z : i = 0
    · subst z; exact h0
    · exact rd.nn i hi z
/-! ### taken -/
def lotD (l : List Nat) : D := .tuple (natsD l)
theorem pl_lotD {l : List Nat} : Pl 1 (lotD l) := fun d hd => pl_nats d hd
def pTaken (ds : List D) (r : D) : Prop := ∃ (n : Nat) (h : List Int) (l : List Nat), n ≤ 50 ∧ h.length = n ∧ (∀ i, i ∈ l → i < n) ∧ ds = [hpD h, lotD l] ∧ r = hpD (takenL n h l)
theorem sc_taken : FnScope ["heap", "places", "found", "place"] ["heap", "places"] (defScope (top 43)) := ⟨rfl, rfl, rfl, by decide +kernel, rfl, by decide +kernel, by decide +kernel⟩
theorem sc_ltaken : FnScope ["heap", "places", "found", "place"] ["heap", "places"] (defScope (top 71)) := ⟨rfl, rfl, rfl, by decide +kernel, rfl, by decide +kernel, by decide +kernel⟩
theorem ok_taken (T : Txt mg) (F : Fun K "taken" "taken" (top 43) f fd) : FnOk P w K mg base CX0 1 f fd ["heap", "places"] (pureSp pTaken) := by
  refine fn_pure F sc_taken (fun ds r h => by obtain ⟨_, _, _, _, _, _, rfl, _⟩ := h; rfl) fun ds r h => ?_
  obtain ⟨n, h, l, hn, hl, hlt, rfl, rfl⟩ := h
  refine seq (asg 2 (ge_list rfl T.list (v 0 rfl) (.t .sh) (fun _ => rfl)) rfl rfl rfl (.inl rfl) (Nat.le_of_ble_eq_true rfl) (fun _ => rfl)) ?_
  refine gss_cons (Mid := fun Γ => ∃ s, Γ = [.sh (hpD h), .sh (lotD l), .ol ((takenL n h l).map .int), s])
    (gs_for (L := natsD l) (p := .nm 3) (I := fun k Γ => ∃ s, Γ = [.sh (hpD h), .sh (lotD l), .ol ((takenL n h (l.take k)).map .int), s])
      (ig_tup (v 1 rfl)) (pg_nm rfl (.inl rfl)) ⟨.no, by rw [List.take_zero, taken_nil hl]; rfl⟩ ?_ ?_ (fun _ _ => rfl)) ?_
  · rintro k Γ d ⟨s, rfl⟩ hd
    unfold natsD at hd
    rw [List.getElem?_map] at hd
    cases hk : l[k]? with
    | none => rw [hk] at hd; cases hd
    | some p =>
      rw [hk] at hd
      cases hd
      have hp := hlt p (List.mem_of_getElem? hk)
      have hlk := taken_len (l := l.take k) hl
      refine ⟨_, rfl, ?_⟩
      refine seq (gs_asgT (ge_bin (ge_ixL (bo 2 rfl) (v 3 rfl) (.bo rfl) (at_ints (by rw [hlk]; exact hp)) (pix (fun _ _ => rfl))) ge_int og_sub) (tg_sub (kn := p) (fun τ => bo 2 rfl) (fun τ => v 3 rfl) rfl (ixN_at (by rw [List.length_map, hlk]; exact hp)) (fun _ _ => rfl)) rfl (fun _ _ => rfl) (fun _ _ => rfl) (fun _ => rfl)) (gss_nil ⟨.sh (.int p), ?_⟩)
      rw [List.take_succ, hk]
      show _ = ([.sh (hpD h), .sh (lotD l), .ol ((takenL n h (l.take k ++ [p])).map .int), _] : List Sl)
      rw [← taken_snoc hl hp, List.map_set]
      rfl
  · rintro Γ ⟨s, rfl⟩
    refine ⟨s, ?_⟩
    unfold natsD
    rw [List.length_map, List.take_length]
  · rintro Γ ⟨s, rfl⟩
    exact ret (ge_tuple rfl T.tuple (bo 2 rfl) (.bo rfl) (fun _ => rfl)) .sh
theorem ok_ltaken (T : Txt mg) (F : Fun K "_law_taken" "_law_taken" (top 71) f fd) : FnOk P w K mg base CX0 1 f fd ["heap", "places"] (pureSp pTaken) := by
  refine fn_pure F sc_ltaken (fun ds r h => by obtain ⟨_, _, _, _, _, _, rfl, _⟩ := h; rfl) fun ds r h => ?_
  obtain ⟨n, h, l, hn, hl, hlt, rfl, rfl⟩ := h
  refine seq (asg 2 (ge_list rfl T.list (v 0 rfl) (.t .sh) (fun _ => rfl)) rfl rfl rfl (.inl rfl) (Nat.le_of_ble_eq_true rfl) (fun _ => rfl)) ?_
  refine gss_cons (Mid := fun Γ => ∃ s, Γ = [.sh (hpD h), .sh (lotD l), .ol ((takenL n h l).map .int), s])
    (gs_for (L := natsD l) (p := .nm 3) (I := fun k Γ => ∃ s, Γ = [.sh (hpD h), .sh (lotD l), .ol ((takenL n h (l.take k)).map .int), s])
      (ig_tup (v 1 rfl)) (pg_nm rfl (.inl rfl)) ⟨.no, by rw [List.take_zero, taken_nil hl]; rfl⟩ ?_ ?_ (fun _ _ => rfl)) ?_
  · rintro k Γ d ⟨s, rfl⟩ hd
    unfold natsD at hd
    rw [List.getElem?_map] at hd
    cases hk : l[k]? with
    | none => rw [hk] at hd; cases hd
    | some p =>
      rw [hk] at hd
      cases hd
      have hp := hlt p (List.mem_of_getElem? hk)
      have hlk := taken_len (l := l.take k) hl
      refine ⟨_, rfl, ?_⟩
      refine seq (gs_asgT (ge_bin (ge_ixL (bo 2 rfl) (v 3 rfl) (.bo rfl) (at_ints (by rw [hlk]; exact hp)) (pix (fun _ _ => rfl))) ge_int og_sub) (tg_sub (kn := p) (fun τ => bo 2 rfl) (fun τ => v 3 rfl) rfl (ixN_at (by rw [List.length_map, hlk]; exact hp)) (fun _ _ => rfl)) rfl (fun _ _ => rfl) (fun _ _ => rfl) (fun _ => rfl)) (gss_nil ⟨.sh (.int p), ?_⟩)
      rw [List.take_succ, hk]
      show _ = ([.sh (hpD h), .sh (lotD l), .ol ((takenL n h (l.take k ++ [p])).map .int), _] : List Sl)
      rw [← taken_snoc hl hp, List.map_set]
      rfl
  · rintro Γ ⟨s, rfl⟩
    refine ⟨s, ?_⟩
    unfold natsD
    rw [List.length_map, List.take_length]
  · rintro Γ ⟨s, rfl⟩
    exact ret (ge_tuple rfl T.tuple (bo 2 rfl) (.bo rfl) (fun _ => rfl)) .sh
end K79
set_option maxHeartbeats 4000000
namespace K79
open PySem L2 Evl Lf
variable {P : Program} {w : World} {K : PySem.W.Frag} {mg : Str → Option Value} {base : Heap} {f : Addr} {fd : FuncData}
/-! ### lots_of -/
theorem rg2_eq (a n : Nat) : rgD (a : Int) 1 ((n : Int) - (a : Int)).toNat = (rngA a n).map fun i => .int (i : Nat) := by
  unfold rgD rngA
  rw [show ((n : Int) - (a : Int)).toNat = n - a by omega, List.map_map]
  refine List.map_congr_left fun i hi => ?_
  show PyData.int ((a : Int) + (i : Int) * 1) = .int ((a + i : Nat) : Int)
  congr 1
  omega
theorem acc2_lotsA (n m : Nat) : acc2 (lotsA n m) (fun l => rngA (lastN l) n) (fun (l : List Nat) (p : Nat) => lotD (l ++ [p])) = (lotsA n (m + 1)).map lotD := by
  show _ = ((lotsA n m).flatMap fun l => (rngA (lastN l) n).map fun p => l ++ [p]).map lotD
  unfold acc2
  rw [List.map_flatMap]
  congr 1
  funext l
  rw [List.map_map]
  rfl
theorem lot_snoc {l : List Nat} {p : Nat} : PyData.tuple (natsD l ++ [.int (p : Nat)]) = lotD (l ++ [p]) := by
  unfold lotD natsD
  rw [List.map_append]
  rfl
theorem eqv_lot0 (l : List Nat) : PyData.eqv (lotD l) (.tuple []) = decide (l = []) := by
  cases l with
  | nil => rfl
  | cons a l => rfl
theorem lot_last {l : List Nat} (h : l ≠ []) : atI (natsD l) (-1) = some (.int (lastN l : Nat)) := by
  obtain ⟨l', x, rfl⟩ : ∃ l' x, l = l' ++ [x] := ⟨l.dropLast, l.getLast h, (List.dropLast_concat_getLast h).symm⟩
  unfold natsD lastN
  rw [List.map_append]
  simpa using at_last (xs := l'.map fun i => PyData.int (i : Nat)) (a := .int (x : Nat))
theorem lastE (l : List Nat) : (if (!decide (l = [])) = true then ((lastN l : Nat) : Int) else 0) = ((lastN l : Nat) : Int) := by
  cases l with
  | nil => rfl
  | cons a l => simp
def pLotsOf (ds : List D) (r : D) : Prop := ∃ n m : Nat, n ≤ 4 ∧ m ≤ 8 ∧ ds = [.int n, .int m] ∧ r = .list ((lotsA n m).map lotD)
theorem sc_lotsof : FnScope ["places", "many", "found", "lap", "lot", "place"] ["places", "many"] (defScope (top 44)) := ⟨rfl, rfl, rfl, by decide +kernel, rfl, by decide +kernel, by decide +kernel⟩
theorem ok_lotsof (T : Txt mg) (F : Fun K "lots_of" "lots_of" (top 44) f fd) : FnOk P w K mg base CX0 1 f fd ["places", "many"] (pureSp pLotsOf) := by
  refine fn_pure F sc_lotsof (fun ds r h => by obtain ⟨_, _, _, _, rfl, _⟩ := h; rfl) fun ds r h => ?_
  obtain ⟨n, m, n4, m8, rfl, rfl⟩ := h
  refine seq (asg 2 (l1 (ge_tup (ds := []) ga_nil (by simp)) (fun _ => rfl)) rfl rfl rfl (.inl rfl) (Nat.le_of_ble_eq_true rfl) (fun _ => rfl)) ?_
  refine gss_cons (Mid := fun Γ => ∃ sl, Γ = [.sh (.int n), .sh (.int m), .ol ((lotsA n m).map lotD), sl, .no, .no])
    (gs_for (L := (List.range m).map fun i => .int (i : Nat)) (p := .nm 3) (I := fun k Γ => ∃ sl, Γ = [.sh (.int n), .sh (.int m), .ol ((lotsA n k).map lotD), sl, .no, .no])
      (IG.of (rg1_eq m) (ig_rg1 rfl T.range (v 1 rfl) (by omega) (fun _ => rfl))) (pg_nm rfl (.inl rfl)) ⟨.no, rfl⟩ ?_ ?_ (fun _ _ => rfl)) ?_
  · rintro k Γ d ⟨sl, rfl⟩ hd
    rw [List.getElem?_map] at hd
    by_cases hj : k < m
    · rw [List.getElem?_range hj] at hd
      cases hd
      refine ⟨_, rfl, ?_⟩
      refine seq (gs_lc2 (i := 2) (xs := lotsA n k) (ys := fun l => rngA (lastN l) n) (rep := lotD) (rep1 := fun i => .int (i : Nat)) (g := fun (l : List Nat) (p : Nat) => lotD (l ++ [p])) (own := [("lot", 4), ("place", 5)]) (p := .nm 4) (q := .nm 5) (vs1 := [5]) rfl rfl (Nat.le_of_ble_eq_true rfl)
        (lok (ig_list (ge_frzB (bo 2 rfl) rfl .ol (by simp))) (pg_nm rfl (.inl rfl)) rfl rfl rfl (fun _ _ => rfl)) ⟨pg_nm rfl (.inl rfl), by decide, by decide, (fun _ _ => rfl)⟩ ?_
        (fun l hl => ⟨_, rfl, _, IG.of (rg2_eq (lastN l) n) (ig_rg2 rfl T.range (geq (ge_ifI (k := !decide (l = [])) (by rw [← eqv_lot0]; exact gt_cmp (v 4 rfl) (ge_tup (ds := []) ga_nil (by simp)) (og_neD (pl_shaped pl_lotD (by decide)) (pl_shaped (k := 1) (d := .tuple []) (fun d hd => by cases hd) (by decide))) rfl) (fun z => ge_ixT (v 4 rfl) (ge_neg ge_int) .sh (lot_last (by simpa using z)) (pix (fun _ _ => rfl))) (fun z => ge_int)) (congrArg PyData.int (lastE l))) (vc 0 rfl) ?_ (fun _ => rfl) (fun _ => rfl)), by rfl, fun z hz => ⟨_, rfl, geq (ge_tupStar (v 4 rfl) (v 5 rfl) ?_ (fun _ => rfl) (fun _ => rfl)) lot_snoc⟩⟩) rfl rfl rfl) ?_
      · rw [acc2_lotsA, List.length_map]
        exact lotsA_small n4 (by omega)
      · obtain ⟨h1, h2⟩ := lotsA_in k l hl
        have : lastN l ≤ 4 := by
          unfold lastN
          by_cases z : l = []
          · subst z; simp
          · rw [List.getLastD_eq_getLast?, List.getLast?_eq_some_getLast z]
            have := h2 _ (List.getLast_mem z)
            show l.getLast z ≤ 4
            omega
        omega
      · obtain ⟨h1, h2⟩ := lotsA_in k l hl
        rw [natsD_len]
        omega
      · rw [acc2_lotsA]
        exact gss_nil ⟨_, rfl⟩
    · rw [List.getElem?_eq_none (by simp; omega)] at hd
      cases hd
  · rintro Γ ⟨sl, rfl⟩
    refine ⟨sl, ?_⟩
    rw [List.length_map, List.length_range]
  · rintro Γ ⟨sl, rfl⟩
    exact ret (bo 2 rfl) (.bo rfl .ol)
end K79
set_option maxHeartbeats 4000000
namespace K79
open PySem L2 Evl Lf
variable {P : Program} {w : World} {K : PySem.W.Frag} {mg : Str → Option Value} {base : Heap} {f : Addr} {fd : FuncData}
section
variable {S : Stat} {Γ Γ1 Γ2 τ : List Sl} {e : Expr} {pos p : Pos} {P P' : Sl → Prop}
theorem gx_len (hg : GlB S "len") (hm : S.mg "len" = none) (ha : GX S e Γ τ Γ1 P) (hP : ∀ s, P s → ∃ ds : List D, RdS Γ1 s ds ∧ P' (.sh (.int ds.length))) (he : ∀ env, starEach [e] env = (false, eval e env) :: starEach [] env) : GX S (.Call (.Name "len" p) [e] [] pos) Γ τ Γ1 P' :=
  gx_callBI (r := fun xs H Q => ∃ p ys, xs = [.ref p] ∧ (SqL S.K H p ys ∨ SqT S.K H p ys) ∧ Q (.int ys.length) H) (fun X I => by rw [← I.K]; exact call_len_seq) hg hm PySem.boot_len (gax_one ha he) (fun ss ⟨s, e1, hs⟩ => by
    subst e1
    obtain ⟨ds, r, h4⟩ := hP s hs
    refine ⟨_, h4, ra1 fun F G0 G H σ ws w wk Q q => ?_⟩
    obtain ⟨O, A⟩ := id wk
    obtain ⟨p, vs, e, hp, B⟩ := A.rdh A.ts.1 r
    subst e
    refine ⟨p, vs, rfl, hp.imp sq_of st_of, ?_⟩
    rw [dpa_len B]
    exact q _ G H (wk.drop.sh (.int _))) (by decide) (by decide) he (fun _ => rfl)
end
theorem red_bddS {W : Wb} (g : W.Fit) {h : List Int} (rd : Red W 0 h) (hs : -2 ≤ h.sum ∧ h.sum ≤ 10) : Bdd 200 h := bdd_of rd.len (by omega) fun i hi => by
  have n2 := g.n2
  by_cases e : i = 0
  · subst e
    have := off_bd (B := 12) rd.len hi (by omega) fun i hi hip => by
      have := red_deg g.ok (by omega) rd hi hip
      have := rd.nn i hi hip
      have := deg12 g.ok i
      omega
    have := mul4 (B := 12) g.n4 (by omega)
    omega
  · have := red_deg g.ok (by omega) rd hi e
    have := rd.nn i hi e
    have := deg12 g.ok i
    omega
theorem taken_sm {n : Nat} {h : List Int} {l : List Nat} (hl : h.length = n) (hb : Bdd 200 h) (hz : l.length ≤ 8) : Sm (takenL n h l) := sm_of (taken_len hl) fun i hi => by
  rw [taken_at hl hi]
  have := hb i
  have := List.count_le_length (a := i) (l := l)
  omega
/-! ### small_bar -/
def preBar (ds : List D) : Prop := ∃ (W : Wb) (h : List Int), W.Fit ∧ h.length = W.n ∧ Sm h ∧ (-1 ≤ h.sum ∧ h.sum ≤ 7) ∧ ds = [W.D, hpD h]
def postBar (ds : List D) (r : D) : Prop := ∃ (W : Wb) (h : List Int) (l : List Nat), ds = [W.D, hpD h] ∧ Rk W h ((l.length : Int) - 1) ∧ r = lotD l
theorem sc_bar : FnScope ["web", "heap", "here", "many", "places"] ["web", "heap"] (defScope (top 45)) := ⟨rfl, rfl, rfl, by decide +kernel, rfl, by decide +kernel, by decide +kernel⟩
theorem ok_bar (T : Txt mg) (F : Fun K "small_bar" "small_bar" (top 45) f fd) (F1 : FnG P w K mg base "reduced_by" 5 pReducedBy) (F2 : FnG P w K mg base "lots_of" 1 pLotsOf) (F3 : FnG P w K mg base "can_by" 6 pCanBy) (F4 : FnG P w K mg base "taken" 1 pTaken) : FnOk P w K mg base CX0 7 f fd ["web", "heap"] (relSp preBar postBar) := by
  classical
  refine fn_rel F sc_bar (fun ds h => by obtain ⟨_, _, _, _, _, _, rfl⟩ := h; rfl) fun ds h => ?_
  obtain ⟨W, h, g, hl, sm, hs, rfl⟩ := h
  have n2 := g.n2
  have n4 := g.n4
  have rd := (redO_spec g (p := 0) (by omega) hl).1
  have ed := (redO_spec g (p := 0) (by omega) hl).2
  have sd := redO_sum g (p := 0) (by omega) hl
  generalize redO W 0 h = d at rd ed sd
  have ld := rd.len
  have bd : Bdd 200 d := red_bddS g rd (by omega)
  obtain ⟨M, hM⟩ : ∃ M : Nat, (M : Int) = d.sum + 2 := ⟨(d.sum + 2).toNat, by omega⟩
  refine seq (asg 2 (c3 F1 (v 0 rfl) (v 1 rfl) ge_int ⟨W, h, 0, d, g, hl, sm, by omega, rd, ed, rfl, rfl⟩ (Nat.le_of_ble_eq_true rfl) rfl rfl (fun _ => rfl) (fun _ => rfl) (fun _ => rfl) (fun _ => rfl)) rfl rfl rfl (.inl rfl) (Nat.le_of_ble_eq_true rfl) (fun _ => rfl)) ?_
  refine gss_cons (Mid := fun Γ => False)
    (gs_for (L := (List.range M).map fun i => .int (i : Nat)) (p := .nm 3) (I := fun k Γ => (∀ k', k' < k → ∀ l', l' ∈ lotsA W.n k' → CanF W (takenL W.n d l')) ∧ ∃ s3 s4, Γ = [.sh W.D, .sh (hpD h), .sh (hpD d), s3, s4])
      (IG.of (rg1_eq M) (ig_rg1 rfl T.range (geq (ge_bin (ge_sumH rfl T.sum (v 2 rfl) (.t .sh) (fun _ => rfl)) ge_int og_add) (by rw [hM])) (by omega) (fun _ => rfl))) (pg_nm rfl (.inl rfl)) ⟨fun k' hk => by omega, .no, .no, rfl⟩ ?_ ?_ (fun _ _ => rfl)) (fun Γ h => h.elim)
  · rintro k Γ x ⟨hk, s3, s4, rfl⟩ hd
    rw [List.getElem?_map] at hd
    by_cases hj : k < M
    · rw [List.getElem?_range hj] at hd
      cases hd
      refine ⟨_, rfl, gss_cons (Mid := fun Γ => (∀ k', k' < k + 1 → ∀ l', l' ∈ lotsA W.n k' → CanF W (takenL W.n d l')) ∧ ∃ s3 s4, Γ = [.sh W.D, .sh (hpD h), .sh (hpD d), s3, s4])
        (gs_for (L := (lotsA W.n k).map lotD) (p := .nm 4) (I := fun j Γ => (∀ l', l' ∈ (lotsA W.n k).take j → CanF W (takenL W.n d l')) ∧ ∃ s4, Γ = [.sh W.D, .sh (hpD h), .sh (hpD d), .sh (.int k), s4])
          (ig_list (c2 F2 (ge_ixT (v 0 rfl) ge_int .sh (d := .int W.n) rfl (pix (fun _ _ => rfl))) (v 3 rfl) ⟨W.n, k, n4, by omega, rfl, rfl⟩ (Nat.le_of_ble_eq_true rfl) rfl rfl (fun _ => rfl) (fun _ => rfl) (fun _ => rfl))) (pg_nm rfl (.inl rfl)) ⟨fun l' hl' => by simp at hl', s4, rfl⟩ ?_ ?_ (fun _ _ => rfl)) (fun Γ hΓ => gss_nil hΓ)⟩
      · rintro j Γ x ⟨hj', s4, rfl⟩ hd
        rw [List.getElem?_map] at hd
        cases hlj : (lotsA W.n k)[j]? with
        | none => rw [hlj] at hd; cases hd
        | some l =>
          rw [hlj] at hd
          cases hd
          have hmem := List.mem_of_getElem? hlj
          obtain ⟨h1, h2⟩ := lotsA_in k l hmem
          by_cases z : CanF W (takenL W.n d l)
          · have hc : pCanBy [W.D, hpD (takenL W.n d l)] (.bool true) := ⟨W, takenL W.n d l, _, g, taken_len ld, taken_sm ld bd (by omega), by simpa using z, rfl, rfl⟩
            refine ⟨_, rfl, noif (gt_not (k := true) (gt_val (c2 F3 (v 0 rfl) (c2 F4 (v 2 rfl) (v 4 rfl) ⟨W.n, d, l, by omega, ld, h2, rfl, rfl⟩ (Nat.le_of_ble_eq_true rfl) rfl rfl (fun _ => rfl) (fun _ => rfl) (fun _ => rfl)) hc (Nat.le_of_ble_eq_true rfl) rfl rfl (fun _ => rfl) (fun _ => rfl) (fun _ => rfl)) (fun _ _ => rfl))) (gss_nil ⟨fun l' hl' => ?_, .sh (lotD l), rfl⟩)⟩
            rw [List.take_succ, hlj] at hl'
            rcases List.mem_append.mp hl' with y | y
            · exact hj' l' y
            · rw [show l' = l by simpa using y]
              exact z
          · have hc : pCanBy [W.D, hpD (takenL W.n d l)] (.bool false) := ⟨W, takenL W.n d l, _, g, taken_len ld, taken_sm ld bd (by omega), by simpa using z, rfl, rfl⟩
            refine ⟨_, rfl, yesif (gt_not (k := false) (gt_val (c2 F3 (v 0 rfl) (c2 F4 (v 2 rfl) (v 4 rfl) ⟨W.n, d, l, by omega, ld, h2, rfl, rfl⟩ (Nat.le_of_ble_eq_true rfl) rfl rfl (fun _ => rfl) (fun _ => rfl) (fun _ => rfl)) hc (Nat.le_of_ble_eq_true rfl) rfl rfl (fun _ => rfl) (fun _ => rfl) (fun _ => rfl)) (fun _ _ => rfl))) (ret (v 4 rfl) ⟨_, .sh, W, h, l, rfl, ?_, rfl⟩)⟩
            rw [h1]
            exact rk_eqv ld (eqv_sym hl ed) (rk_found hmem z hk)
      · rintro Γ ⟨ha, s4, rfl⟩
        rw [List.length_map, List.take_length] at ha
        refine ⟨fun k' hk' => ?_, _, _, rfl⟩
        by_cases e : k' = k
        · subst e; exact ha
        · exact hk k' (by omega)
    · rw [List.getElem?_eq_none (by simp; omega)] at hd
      cases hd
  · rintro Γ ⟨hk, _⟩
    rw [List.length_map, List.length_range] at hk
    exact rk_stop g.ok ld (m := M - 1) (by omega) (hk _ (by omega))
/-! ### rank_by -/
def pRankLow (ds : List D) (r : D) : Prop := ∃ (W : Wb) (h : List Int) (k : Int), W.Few ∧ h.length = W.n ∧ Bdd 2000 h ∧ 2 * h.sum ≤ 2 * rngs W - 2 ∧ Rk W h k ∧ ds = [W.D, hpD h] ∧ r = .int k
def pRankBy (ds : List D) (r : D) : Prop := ∃ (W : Wb) (h : List Int) (k : Int), W.Few ∧ h.length = W.n ∧ Bdd 1000 h ∧ Rk W h k ∧ ds = [W.D, hpD h] ∧ r = .int k
theorem two_inj {W V : Wb} {h k : List Int} (e : [W.D, hpD h] = [V.D, hpD k]) : W = V ∧ h = k := by
  simp only [List.cons.injEq] at e
  exact ⟨wbD_inj e.1, hp_inj e.2.1⟩
theorem rngs_bd {W : Wb} (g : W.Few) : rngs W ≤ 6 ∧ -4 ≤ rngs W := by
  have := g.m7
  have := g.n2
  have := g.n4
  unfold rngs
  omega
theorem far_bdd {W : Wb} (g : W.Few) {h : List Int} (hl : h.length = W.n) (hb : Bdd 1000 h) : Bdd 2000 (zipP (farL W) h (-1)) := bdd_of (zipP_len far_len hl) (by omega) fun i hi => by
  rw [zip_at far_len hl hi, far_at hi]
  have := hb i
  have := deg12 g.ok i
  omega
theorem sc_rankby : FnScope ["web", "heap", "coins", "rings"] ["web", "heap"] (defScope (top 46)) := ⟨rfl, rfl, rfl, by decide +kernel, rfl, by decide +kernel, by decide +kernel⟩
theorem ok_ranklow (T : Txt mg) (F : Fun K "rank_by" "rank_by" (top 46) f fd) (F1 : FnG P w K mg base "rings_by" 1 pRings) (F2 : FnX P w K mg base "small_bar" 7 preBar postBar) : FnOk P w K mg base CX0 8 f fd ["web", "heap"] (pureSp pRankLow) := by
  refine fn_pure F sc_rankby (fun ds r h => by obtain ⟨_, _, _, _, _, _, _, _, rfl, _⟩ := h; rfl) fun ds r h => ?_
  obtain ⟨W, h, k, g, hl, hb, hs, rk, rfl, rfl⟩ := h
  have hr := rngs_bd g
  refine seq (gs_par2 (i := 2) (j := 3) rfl rfl (by decide) (.inl rfl) (.inl rfl) (ga_cons (ge_sumH rfl T.sum (v 1 rfl) (.t .sh) (fun _ => rfl)) (ga_cons (c1 F1 (v 0 rfl) ⟨W, rfl, rfl⟩ (Nat.le_of_ble_eq_true rfl) rfl rfl (fun _ => rfl)) ga_nil (fun _ => rfl)) (fun _ => rfl)) rfl rfl (Nat.le_of_ble_eq_true rfl) (Nat.le_of_ble_eq_true rfl) rfl (.inl ⟨rfl, rfl, sw_at rfl⟩)) ?_
  by_cases h0 : h.sum < 0
  · refine yesif (geq_t (gt_cmp (v 2 rfl) ge_int og_lt rfl) (decide_eq_true h0)) (ret (ge_neg ge_int) (retS ?_))
    rw [rk_uniq rk (rk_low g.ok hl h0)]
  · refine noif (geq_t (gt_cmp (v 2 rfl) ge_int og_lt rfl) (decide_eq_false h0)) ?_
    refine noif (geq_t (gt_cmp (v 2 rfl) (ge_bin (ge_bin ge_int (v 3 rfl) (og_mul (.inl (by omega)))) ge_int og_sub) og_gt rfl) (decide_eq_false (by omega))) ?_
    refine noif (geq_t (gt_cmp (ge_bin ge_int (v 2 rfl) (og_mul (.inl (by omega)))) (ge_bin (ge_bin ge_int (v 3 rfl) (og_mul (.inl (by omega)))) ge_int og_sub) og_gt rfl) (decide_eq_false (by omega))) ?_
    refine gss_last (gs_retX (gx_subI (P := fun s => s = .sh (.int (k + 1))) (P2 := fun s => s = .sh (.int 1)) (Q2 := fun s => s = .sh (.int k))
      (gx_len rfl T.len (gx_call (ds := [W.D, hpD h]) F2 (Nat.le_of_ble_eq_true rfl) rfl (ga_cons (v 0 rfl) (ga_cons (v 1 rfl) ga_nil (fun _ => rfl)) (fun _ => rfl)) ⟨W, h, g.toFit, hl, bdd_sm (by omega) hb, by omega, rfl⟩ rfl (fun _ => rfl) (fun _ => rfl)) ?_ (fun _ => rfl)) (fun s hs => ge_int.toX) ?_) ?_)
    · rintro s ⟨r, rfl, V, q, l, e, rl, rfl⟩
      obtain ⟨rfl, rfl⟩ := two_inj e
      refine ⟨natsD l, .t .sh, ?_⟩
      rw [natsD_len, rk_uniq rk rl]
      congr 2
      omega
    · rintro s1 s2 rfl rfl
      exact ⟨_, _, rfl, rfl, by congr 2; omega⟩
    · rintro s rfl
      exact .sh
theorem ok_rankby (T : Txt mg) (F : Fun K "rank_by" "rank_by" (top 46) f fd) (F1 : FnG P w K mg base "rings_by" 1 pRings) (F2 : FnX P w K mg base "small_bar" 7 preBar postBar) (F3 : FnG P w K mg base "partner_by" 3 pPartnerBy) (F4 : FnG P w K mg base "rank_by" 8 pRankLow) : FnOk P w K mg base CX0 9 f fd ["web", "heap"] (pureSp pRankBy) := by
  refine fn_pure F sc_rankby (fun ds r h => by obtain ⟨_, _, _, _, _, _, _, rfl, _⟩ := h; rfl) fun ds r h => ?_
  obtain ⟨W, h, k, g, hl, hb, rk, rfl, rfl⟩ := h
  have hr := rngs_bd g
  have n6 := g.ok.n6
  have hsb : -100000 < h.sum ∧ h.sum < 100000 := by
    rw [sum_list hl]
    have h1 : (sumN W.n fun i => h.getD i 0) ≤ sumN W.n fun _ => 1000 := sumN_le fun i hi => (hb i).2
    have h2 : (sumN W.n fun _ => -1000) ≤ sumN W.n fun i => h.getD i 0 := sumN_le fun i hi => (hb i).1
    rw [sumN_const] at h1 h2
    omega
  have lk := zipP_len (m := -1) (far_len (W := W)) hl
  refine seq (gs_par2 (i := 2) (j := 3) rfl rfl (by decide) (.inl rfl) (.inl rfl) (ga_cons (ge_sumH rfl T.sum (v 1 rfl) (.t .sh) (fun _ => rfl)) (ga_cons (c1 F1 (v 0 rfl) ⟨W, rfl, rfl⟩ (Nat.le_of_ble_eq_true rfl) rfl rfl (fun _ => rfl)) ga_nil (fun _ => rfl)) (fun _ => rfl)) rfl rfl (Nat.le_of_ble_eq_true rfl) (Nat.le_of_ble_eq_true rfl) rfl (.inl ⟨rfl, rfl, sw_at rfl⟩)) ?_
  by_cases h0 : h.sum < 0
  · refine yesif (geq_t (gt_cmp (v 2 rfl) ge_int og_lt rfl) (decide_eq_true h0)) (ret (ge_neg ge_int) (retS ?_))
    rw [rk_uniq rk (rk_low g.ok hl h0)]
  · refine noif (geq_t (gt_cmp (v 2 rfl) ge_int og_lt rfl) (decide_eq_false h0)) ?_
    by_cases h1 : 2 * rngs W - 2 < h.sum
    · refine yesif (geq_t (gt_cmp (v 2 rfl) (ge_bin (ge_bin ge_int (v 3 rfl) (og_mul (.inl (by omega)))) ge_int og_sub) og_gt rfl) (decide_eq_true h1)) (ret (ge_bin (v 2 rfl) (v 3 rfl) og_sub) (retS ?_))
      rw [rk_high g.toGood hl rk h1]
    · refine noif (geq_t (gt_cmp (v 2 rfl) (ge_bin (ge_bin ge_int (v 3 rfl) (og_mul (.inl (by omega)))) ge_int og_sub) og_gt rfl) (decide_eq_false h1)) ?_
      by_cases h2 : 2 * rngs W - 2 < 2 * h.sum
      · obtain ⟨k', rk'⟩ := rk_ex g.toGood lk
        have hd := rk_dual g.toGood hl rk rk'
        refine yesif (geq_t (gt_cmp (ge_bin ge_int (v 2 rfl) (og_mul (.inl (by omega)))) (ge_bin (ge_bin ge_int (v 3 rfl) (og_mul (.inl (by omega)))) ge_int og_sub) og_gt rfl) (decide_eq_true h2))
          (ret (ge_bin (ge_bin (ge_bin (c2 F4 (v 0 rfl) (c2 F3 (v 0 rfl) (v 1 rfl) ⟨W, h, g.toGood, hl, rfl, rfl⟩ (Nat.le_of_ble_eq_true rfl) rfl rfl (fun _ => rfl) (fun _ => rfl) (fun _ => rfl)) ⟨W, _, k', g, lk, far_bdd g hl hb, by rw [zip_sum far_len hl, far_sum g.ok]; omega, rk', rfl, rfl⟩ (Nat.le_of_ble_eq_true rfl) rfl rfl (fun _ => rfl) (fun _ => rfl) (fun _ => rfl)) (v 2 rfl) og_add) ge_int og_add) (v 3 rfl) og_sub) (retS ?_))
        congr 1
        omega
      · refine noif (geq_t (gt_cmp (ge_bin ge_int (v 2 rfl) (og_mul (.inl (by omega)))) (ge_bin (ge_bin ge_int (v 3 rfl) (og_mul (.inl (by omega)))) ge_int og_sub) og_gt rfl) (decide_eq_false h2)) ?_
        refine gss_last (gs_retX (gx_subI (P := fun s => s = .sh (.int (k + 1))) (P2 := fun s => s = .sh (.int 1)) (Q2 := fun s => s = .sh (.int k))
          (gx_len rfl T.len (gx_call (ds := [W.D, hpD h]) F2 (Nat.le_of_ble_eq_true rfl) rfl (ga_cons (v 0 rfl) (ga_cons (v 1 rfl) ga_nil (fun _ => rfl)) (fun _ => rfl)) ⟨W, h, g.toFit, hl, bdd_sm (by omega) hb, by omega, rfl⟩ rfl (fun _ => rfl) (fun _ => rfl)) ?_ (fun _ => rfl)) (fun s hs => ge_int.toX) ?_) ?_)
        · rintro s ⟨r, rfl, V, q, l, e, rl, rfl⟩
          obtain ⟨rfl, rfl⟩ := two_inj e
          refine ⟨natsD l, .t .sh, ?_⟩
          rw [natsD_len, rk_uniq rk rl]
          congr 2
          omega
        · rintro s1 s2 rfl rfl
          exact ⟨_, _, rfl, rfl, by congr 2; omega⟩
        · rintro s rfl
          exact .sh
theorem sc_rank : FnScope ["web", "heap"] ["web", "heap"] (defScope (top 47)) := ⟨rfl, rfl, rfl, by decide +kernel, rfl, by decide +kernel, by decide +kernel⟩
theorem ok_rank (F : Fun K "rank" "rank" (top 47) f fd) (F1 : FnG P w K mg base "need_heap" 7 pNeedHeap) (F2 : FnG P w K mg base "rank_by" 9 pRankBy) : FnOk P w K mg base CX0 10 f fd ["web", "heap"] (pureSp pRankBy) := by
  refine fn_pure F sc_rank (fun ds r h => by obtain ⟨_, _, _, _, _, _, _, rfl, _⟩ := h; rfl) fun ds r h => ?_
  obtain ⟨W, h, k, g, hl, hb, rk, rfl, rfl⟩ := h
  refine seq (gs_expr (c2 F1 (v 0 rfl) (v 1 rfl) ⟨W, h, g.toGood, hl, rfl, rfl⟩ (Nat.le_of_ble_eq_true rfl) rfl rfl (fun _ => rfl) (fun _ => rfl) (fun _ => rfl)) rfl (fun _ => rfl)) ?_
  exact ret (c2 F2 (v 0 rfl) (v 1 rfl) ⟨W, h, k, g, hl, hb, rk, rfl, rfl⟩ (Nat.le_of_ble_eq_true rfl) rfl rfl (fun _ => rfl) (fun _ => rfl) (fun _ => rfl)) .sh
end K79
set_option maxHeartbeats 4000000
namespace K79
open PySem L2 Evl Lf
variable {P : Program} {w : World} {K : PySem.W.Frag} {mg : Str → Option Value} {base : Heap} {f : Addr} {fd : FuncData}
/-! ### _law_small_web -/
def postSWF (ds : List D) (r : D) : Prop := ∃ W : Wb, W.Few ∧ r = W.D
/-! ### _law_lots_of -/
theorem lotsA_ne {n m : Nat} (hn : 1 ≤ n) : lotsA n m ≠ [] := by
  obtain ⟨l', h3, e⟩ := lots_all (n := n) m ((List.range n).map fun j => if 0 = j then (m : Int) else 0) ⟨by simp, fun j hj => by rw [getD_map hj]; split <;> omega⟩ (by rw [sum_range, sumN_one (by omega)])
  exact List.ne_nil_of_mem h3
def lotsIn (n : Nat) (l : List Nat) : List D := (rngA (lastN l) n).map fun p => lotD (l ++ [p])
theorem lots_flat (n m : Nat) : ((lotsA n m).map (lotsIn n)).flatten = (lotsA n (m + 1)).map lotD := by
  rw [← acc2_lotsA]
  unfold acc2
  rw [List.flatMap_def]
  rfl
def pLLots (ds : List D) (r : D) : Prop := ∃ n m : Nat, 1 ≤ n ∧ n ≤ 4 ∧ m ≤ 8 ∧ ds = [.int n, .int m] ∧ r = .list ((lotsA n m).map lotD)
end K79
set_option maxHeartbeats 4000000
namespace K79
open PySem L2 Evl Lf
/-! ### the fewest coins of a rank -/
theorem rk_ge {W : Wb} (g : W.Good) {h : List Int} {r : Int} (hl : h.length = W.n) (k : Rk W h r) : h.sum - rngs W ≤ r := by
  obtain ⟨s, ks⟩ := rk_ex g (zipP_len (m := -1) (far_len (W := W)) hl)
  have := rk_dual g hl k ks
  have := ks.lo
  omega
theorem rk_cliff {W : Wb} (g : W.Good) {h : List Int} {r : Int} (hl : h.length = W.n) (k : Rk W h r) {m : Int} (h0 : 0 ≤ m) (hm : m ≤ r) : (m < rngs W → 2 * m ≤ h.sum) ∧ (rngs W ≤ m → m + rngs W ≤ h.sum) := by
  have lk := zipP_len (m := -1) (far_len (W := W)) hl
  obtain ⟨s, ks⟩ := rk_ex g lk
  obtain ⟨rf, kf⟩ := rk_ex g (far_len (W := W))
  have ef := rk_far g kf
  have hd := rk_dual g hl k ks
  have esum : zipP h (zipP (farL W) h (-1)) 1 = farL W := list_ext (zipP_len hl lk) far_len fun i hi => by rw [zip_at hl lk hi, zip_at far_len hl hi]; omega
  by_cases z : 0 ≤ s
  · have := rk_add (t := rf) hl lk k ks (by rw [esum]; exact kf) (by omega) z
    constructor <;> intro <;> omega
  · have := ks.lo
    constructor <;> intro <;> omega
structure Lst (W : Wb) (m c : Int) : Prop where
  ex : ∃ h r, h.length = W.n ∧ h.sum = c ∧ Rk W h r ∧ m ≤ r
  lo : ∀ h r, h.length = W.n → Rk W h r → m ≤ r → c ≤ h.sum
theorem lst_uniq {W : Wb} {m c d : Int} (a : Lst W m c) (b : Lst W m d) : c = d := by
  obtain ⟨h, r, h1, h2, h3, h4⟩ := a.ex
  obtain ⟨h', r', h1', h2', h3', h4'⟩ := b.ex
  have := a.lo h' r' h1' h3' h4'
  have := b.lo h r h1 h3 h4
  omega
def lowN (W : Wb) (m : Int) : Int := if m < rngs W then 2 * m else m + rngs W
theorem lowN_le {W : Wb} {m : Int} : lowN W m ≤ m + rngs W := by unfold lowN; split <;> omega
theorem lowN_lo {W : Wb} (g : W.Good) {m : Int} (h0 : 0 ≤ m) : ∀ h r, h.length = W.n → Rk W h r → m ≤ r → lowN W m ≤ h.sum := fun h r hl k hm => by
  have := rk_cliff g hl k h0 hm
  unfold lowN
  split
  · exact this.1 ‹_›
  · exact this.2 (by omega)
/-- a coin at place 0 and nothing else -/
def atZ (W : Wb) (c : Int) : List Int := c :: List.replicate (W.n - 1) 0
theorem atZ_len {W : Wb} (h : 1 ≤ W.n) {c : Int} : (atZ W c).length = W.n := by unfold atZ; simp; omega
theorem atZ_sum {W : Wb} {c : Int} : (atZ W c).sum = c := by
  unfold atZ
  rw [List.sum_cons]
  have : (List.replicate (W.n - 1) (0 : Int)).sum = 0 := by
    generalize W.n - 1 = k
    induction k with
    | zero => rfl
    | succ k ih => rw [List.replicate_succ, List.sum_cons, ih]; rfl
  omega
theorem lst_ex {W : Wb} (g : W.Good) {m : Int} (h0 : 0 ≤ m) : ∃ c, Lst W m c ∧ lowN W m ≤ c ∧ c ≤ m + rngs W := by
  classical
  have n1 := g.ok.n1
  have hz := atZ_len n1 (c := m + rngs W)
  obtain ⟨rz, kz⟩ := rk_ex g hz
  have h1 := rk_ge g hz kz
  rw [atZ_sum] at h1
  have hex : ∃ k : Nat, ∃ h r, h.length = W.n ∧ h.sum = lowN W m + (k : Nat) ∧ Rk W h r ∧ m ≤ r := ⟨(m + rngs W - lowN W m).toNat, _, rz, hz, by rw [atZ_sum]; have := lowN_le (W := W) (m := m); omega, kz, by omega⟩
  obtain ⟨k0, hk0⟩ := hex
  obtain ⟨k, _, hk, hmin⟩ := least (P := fun k => ∃ h r, h.length = W.n ∧ h.sum = lowN W m + (k : Nat) ∧ Rk W h r ∧ m ≤ r) k0 hk0
  have lo : ∀ h r, h.length = W.n → Rk W h r → m ≤ r → lowN W m + (k : Int) ≤ h.sum := fun h r hl kr hm => by
    have h2 := lowN_lo g h0 h r hl kr hm
    refine Int.not_lt.mp fun z => ?_
    exact hmin (h.sum - lowN W m).toNat (by omega) ⟨h, r, hl, by omega, kr, hm⟩
  refine ⟨_, ⟨hk, lo⟩, by omega, ?_⟩
  have := lo _ rz hz kz (by omega)
  rw [atZ_sum] at this
  exact this
theorem lst_zero {W : Wb} (g : W.Good) {c : Int} (a : Lst W 0 c) : c = 0 := by
  obtain ⟨h, r, h1, h2, h3, h4⟩ := a.ex
  have h5 := a.lo (z0 W) 0 z0_len (rk_zero g.ok) (by omega)
  rw [z0_sum] at h5
  have := rk_nn g.ok h1 h3
  omega
/-- one coin less: one rank less at most -/
theorem rk_less {W : Wb} {h e : List Int} {r s : Int} (hl : h.length = W.n) (he : Eff W.n e) (hs : e.sum = 1) (k : Rk W h r) (ks : Rk W (zipP h e (-1)) s) : r - 1 ≤ s := by
  refine Int.not_lt.mp fun z => ?_
  obtain ⟨E, hE, e1, hc⟩ := ks.bar
  have lE := zipP_len (m := 1) hE.1 he.1
  refine hc ?_
  rw [show zipP (zipP h e (-1)) E (-1) = zipP h (zipP E e 1) (-1) from list_ext (zipP_len (zipP_len hl he.1) hE.1) (zipP_len hl lE) fun i hi => by
    rw [zip_at (zipP_len hl he.1) hE.1 hi, zip_at hl he.1 hi, zip_at hl lE hi, zip_at hE.1 he.1 hi]; omega]
  refine k.all _ ⟨lE, fun i hi => ?_⟩ (by rw [zip_sum hE.1 he.1]; omega)
  rw [zip_at hE.1 he.1 hi]
  have := hE.2 i hi
  have := he.2 i hi
  omega
theorem lst_climb {W : Wb} (g : W.Good) {m c d : Int} (a : Lst W m c) (b : Lst W (m + 1) d) : c < d := by
  have n1 := g.ok.n1
  obtain ⟨h, r, h1, h2, h3, h4⟩ := b.ex
  obtain ⟨u1, u2⟩ := eff_unit (n := W.n) (i := 0) (by omega)
  generalize ((List.range W.n).map fun j => if 0 = j then (1 : Int) else 0) = e at u1 u2
  have lz := zipP_len (m := -1) h1 u1.1
  obtain ⟨s, ks⟩ := rk_ex g lz
  have := rk_less h1 u1 u2 h3 ks
  have := a.lo _ s lz ks (by omega)
  rw [zip_sum h1 u1.1] at this
  omega
theorem lst_top {W : Wb} (g : W.Good) {m c : Int} (h0 : 0 ≤ m) (hm : rngs W ≤ m) (a : Lst W m c) : c = m + rngs W := by
  obtain ⟨d, hd, h1, h2⟩ := lst_ex g h0
  rw [lst_uniq a hd]
  unfold lowN at h1
  rw [if_neg (by omega)] at h1
  omega
theorem lst_two {W : Wb} (g : W.Good) {c : Int} (hr : rngs W = 2) (a : Lst W 1 c) : c = 2 := by
  obtain ⟨d, hd, h1, h2⟩ := lst_ex g (m := 1) (by omega)
  rw [lst_uniq a hd]
  unfold lowN at h1
  rw [if_pos (by omega)] at h1
  obtain ⟨rf, kf⟩ := rk_ex g (far_len (W := W))
  have ef := rk_far g kf
  have := hd.lo _ rf far_len kf (by omega)
  rw [far_sum g.ok] at this
  omega
end K79
set_option maxHeartbeats 4000000
namespace K79
open PySem L2 Evl Lf
variable {P : Program} {w : World} {K : PySem.W.Frag} {mg : Str → Option Value} {base : Heap} {f : Addr} {fd : FuncData}
structure NumR (mg : Str → Option Value) : Prop where
  mr : ∃ t, mg "MOST_RANK" = some (.int 3 t)
theorem Bdd.leB {A B : Int} {h : List Int} (hAB : A ≤ B) (hb : Bdd A h) : Bdd B h := fun i => by have := hb i; omega
def pNeedFew (ds : List D) (r : D) : Prop := ∃ m : Nat, m ≤ 3 ∧ ds = [.int m] ∧ r = .none
theorem sc_needfew : FnScope ["many"] ["many"] (defScope (top 50)) := ⟨rfl, rfl, rfl, by decide +kernel, rfl, by decide +kernel, by decide +kernel⟩
theorem ok_needfew (R : NumR mg) (F : Fun K "need_few_rank" "need_few_rank" (top 50) f fd) (F1 : FnG P w K mg base "is_number" 1 pIsNumber) : FnOk P w K mg base CX0 2 f fd ["many"] (pureSp pNeedFew) := by
  refine fn_pure F sc_needfew (fun ds r h => by obtain ⟨_, _, rfl, _⟩ := h; rfl) fun ds r h => ?_
  obtain ⟨m, hm, rfl, rfl⟩ := h
  refine noif (geq_t (gt_bool (gw_or (gt_not (k := true) (gt_val (c1 F1 (v 0 rfl) ⟨_, rfl, rfl⟩ (Nat.le_of_ble_eq_true rfl) rfl rfl (fun _ => rfl)) (fun _ _ => rfl))) fun _ => gw_or1 (gt_not (gt_chain ge_int (v 0 rfl) (fun τ => og_le) (fun _ => ⟨ge_globI rfl R.mr rfl, og_le⟩) rfl)))) ?_) (gss_nil rfl)
  rw [decide_eq_true (show (0 : Int) ≤ m by omega), decide_eq_true (show (m : Int) ≤ 3 by omega)]
  rfl
/-! ### fewest_by -/
def preFew2 (ds : List D) : Prop := ∃ (W : Wb) (m : Nat), W.Few ∧ m ≤ 3 ∧ ds = [W.D, .int m]
structure FewOk (W : Wb) (m : Nat) (c : Int) (h : List Int) : Prop where
  lst : Lst W m c
  len : h.length = W.n
  sum : h.sum = c
  bd : Bdd 200 h
  rk : ∃ k, Rk W h k ∧ (m : Int) ≤ k
def postFew2 (ds : List D) (r : D) : Prop := ∃ (W : Wb) (m : Nat) (c : Int) (h : List Int), ds = [W.D, .int m] ∧ FewOk W m c h ∧ r = .tuple [.int c, hpD h]
theorem wm_inj {W V : Wb} {m k : Nat} (e : [W.D, PyData.int m] = [V.D, .int k]) : W = V ∧ m = k := by
  simp only [List.cons.injEq, PyData.int.injEq] at e
  exact ⟨wbD_inj e.1, by omega⟩
theorem rg_at {lo : Int} {c k : Nat} {d : D} (h : (rgD lo 1 c)[k]? = some d) : k < c ∧ d = .int (lo + k) := by
  unfold rgD at h
  rw [List.getElem?_map] at h
  by_cases hk : k < c
  · rw [List.getElem?_range hk] at h
    cases h
    exact ⟨hk, by simp⟩
  · rw [List.getElem?_eq_none (by simp; omega)] at h
    cases h
theorem sc_fewest : FnScope ["web", "many", "rings", "number", "heap"] ["web", "many"] (defScope (top 51)) := ⟨rfl, rfl, rfl, by decide +kernel, rfl, by decide +kernel, by decide +kernel⟩
theorem ok_fewest (T : Txt mg) (F : Fun K "fewest_by" "fewest_by" (top 51) f fd) (F1 : FnG P w K mg base "rings_by" 1 pRings) (F2 : FnG P w K mg base "all_by" 4 pAllBy) (F3 : FnG P w K mg base "rank_by" 9 pRankBy) : FnOk P w K mg base CX0 10 f fd ["web", "many"] (relSp preFew2 postFew2) := by
  refine fn_rel F sc_fewest (fun ds h => by obtain ⟨_, _, _, _, rfl⟩ := h; rfl) fun ds h => ?_
  obtain ⟨W, m, g, m3, rfl⟩ := h
  have n2 := g.n2
  have n4 := g.n4
  have hr := rngs_bd g
  have G := g.toGood
  have hlo := lowN_le (W := W) (m := m)
  have hlow : 0 ≤ lowN W m ∨ lowN W m = m + rngs W := by unfold lowN; split <;> omega
  have hlb : -100 < lowN W m := by unfold lowN; split <;> omega
  refine seq (asg 2 (c1 F1 (v 0 rfl) ⟨W, rfl, rfl⟩ (Nat.le_of_ble_eq_true rfl) rfl rfl (fun _ => rfl)) rfl rfl rfl (.inl rfl) (Nat.le_of_ble_eq_true rfl) (fun _ => rfl)) ?_
  refine gss_cons (Mid := fun Γ => (∀ h r, h.length = W.n → Rk W h r → (m : Int) ≤ r → (m : Int) + rngs W ≤ h.sum) ∧ ∃ s3 s4, Γ = [.sh W.D, .sh (.int m), .sh (.int (rngs W)), s3, s4])
    (gs_for (L := rgD (lowN W m) 1 ((m : Int) + rngs W - lowN W m).toNat) (p := .nm 3) (I := fun k Γ => (∀ h r, h.length = W.n → Rk W h r → (m : Int) ≤ r → lowN W m + (k : Nat) ≤ h.sum) ∧ ∃ s3 s4, Γ = [.sh W.D, .sh (.int m), .sh (.int (rngs W)), s3, s4])
      (ig_rg2 rfl T.range (geq (ge_ifI (k := decide ((m : Int) < rngs W)) (gt_cmp (v 1 rfl) (v 2 rfl) og_lt rfl) (fun _ => ge_bin ge_int (v 1 rfl) (og_mul (.inl (by omega)))) (fun _ => ge_bin (v 1 rfl) (v 2 rfl) og_add)) (by congr 1; unfold lowN; simp)) (ge_bin (v 1 rfl) (v 2 rfl) og_add) (by omega) (fun _ => rfl) (fun _ => rfl)) (pg_nm rfl (.inl rfl))
      ⟨fun h r hl k hm => by have := lowN_lo G (by omega) h r hl k hm; omega, .no, .no, rfl⟩ ?_ ?_ (fun _ _ => rfl)) ?_
  · rintro k Γ d ⟨hk, s3, s4, rfl⟩ hd
    obtain ⟨hkc, rfl⟩ := rg_at hd
    have hnb : lowN W m + (k : Int) < m + rngs W := by omega
    have hnn : 0 ≤ lowN W m + (k : Int) := by omega
    refine ⟨_, rfl, gss_cons (Mid := fun Γ => (∀ h, h ∈ allBy W 0 (lowN W m + k) → ∀ r, Rk W h r → r < m) ∧ ∃ s4, Γ = [.sh W.D, .sh (.int m), .sh (.int (rngs W)), .sh (.int (lowN W m + k)), s4])
      (gs_for (L := (allBy W 0 (lowN W m + k)).map hpD) (p := .nm 4) (I := fun j Γ => (∀ h, h ∈ (allBy W 0 (lowN W m + k)).take j → ∀ r, Rk W h r → r < m) ∧ ∃ s4, Γ = [.sh W.D, .sh (.int m), .sh (.int (rngs W)), .sh (.int (lowN W m + k)), s4])
        (ig_list (c3 F2 (v 0 rfl) ge_int (v 3 rfl) ⟨W, 0, lowN W m + k, g.ok, n4, by omega, rfl, rfl⟩ (Nat.le_of_ble_eq_true rfl) rfl rfl (fun _ => rfl) (fun _ => rfl) (fun _ => rfl) (fun _ => rfl))) (pg_nm rfl (.inl rfl)) ⟨fun h hh => by simp at hh, s4, rfl⟩ ?_ ?_ (fun _ _ => rfl)) ?_⟩
    · rintro j Γ x ⟨hj, s4, rfl⟩ hd
      rw [List.getElem?_map] at hd
      cases hlj : (allBy W 0 (lowN W m + k))[j]? with
      | none => rw [hlj] at hd; cases hd
      | some h =>
        rw [hlj] at hd
        cases hd
        obtain ⟨rd, hs⟩ := (mem_allBy g.ok (by omega)).mp (List.mem_of_getElem? hlj)
        obtain ⟨r, kr⟩ := rk_ex G rd.len
        have bd := red_bddS g.toFit rd (by omega)
        have pr : pRankBy [W.D, hpD h] (.int r) := ⟨W, h, r, g, rd.len, bd.leB (by omega), kr, rfl, rfl⟩
        by_cases z : (m : Int) ≤ r
        · refine ⟨_, rfl, yesif (geq_t (gt_cmp (c2 F3 (v 0 rfl) (v 4 rfl) pr (Nat.le_of_ble_eq_true rfl) rfl rfl (fun _ => rfl) (fun _ => rfl) (fun _ => rfl)) (v 1 rfl) og_ge rfl) (decide_eq_true z)) (ret (t2 (v 3 rfl) (v 4 rfl) (fun _ => rfl) (fun _ => rfl)) ⟨_, .sh, W, m, _, h, rfl, ⟨⟨⟨h, r, rd.len, hs, kr, z⟩, hk⟩, rd.len, hs, bd, r, kr, z⟩, rfl⟩)⟩
        · refine ⟨_, rfl, noif (geq_t (gt_cmp (c2 F3 (v 0 rfl) (v 4 rfl) pr (Nat.le_of_ble_eq_true rfl) rfl rfl (fun _ => rfl) (fun _ => rfl) (fun _ => rfl)) (v 1 rfl) og_ge rfl) (decide_eq_false z)) (gss_nil ⟨fun h' hh' => ?_, .sh (hpD h), rfl⟩)⟩
          rw [List.take_succ, hlj] at hh'
          rcases List.mem_append.mp hh' with y | y
          · exact hj h' y
          · rw [show h' = h by simpa using y]
            intro r' kr'
            rw [rk_uniq kr' kr]
            omega
    · rintro Γ ⟨ha, s4, rfl⟩
      rw [List.length_map, List.take_length] at ha
      exact ⟨ha, s4, rfl⟩
    · rintro Γ ⟨ha, s4, rfl⟩
      refine gss_nil ⟨fun h r hl kr hm => ?_, _, _, rfl⟩
      have h1 := hk h r hl kr hm
      by_cases e : h.sum = lowN W m + k
      · obtain ⟨rd, ed⟩ := redO_spec g.toFit (p := 0) (by omega) hl
        have := ha _ ((mem_allBy g.ok (by omega)).mpr ⟨rd, (redO_sum g.toFit (by omega) hl).trans e⟩) r (rk_eqv hl ed kr)
        omega
      · omega
  · rintro Γ ⟨hk, s3, s4, rfl⟩
    refine ⟨fun h r hl kr hm => ?_, _, _, rfl⟩
    have := hk h r hl kr hm
    rw [show (rgD (lowN W m) 1 ((m : Int) + rngs W - lowN W m).toNat).length = ((m : Int) + rngs W - lowN W m).toNat by simp [rgD]] at this
    omega
  · rintro Γ ⟨hk, s3, s4, rfl⟩
    have lz := atZ_len (W := W) (by omega) (c := m + rngs W)
    obtain ⟨r, kr⟩ := rk_ex G lz
    have hge := rk_ge G lz kr
    rw [atZ_sum] at hge
    have hbz : Bdd 200 (atZ W (m + rngs W)) := bdd_of lz (by omega) fun i hi => by
      unfold atZ
      cases i with
      | zero => rw [List.getD_cons_zero]; omega
      | succ i =>
        rw [List.getD_cons_succ]
        have : (List.replicate (W.n - 1) (0 : Int)).getD i 0 = 0 := by
          rw [List.getD_eq_getElem?_getD, List.getElem?_replicate]
          split <;> rfl
        omega
    refine ret (t2 (ge_bin (v 1 rfl) (v 2 rfl) og_add) (geq (ge_tupStarL (ge_bin (v 1 rfl) (v 2 rfl) og_add) (ge_frz (ge_bin (l1 ge_int (fun _ => rfl)) (ge_bin (ge_ixT (v 0 rfl) ge_int .sh (d := .int W.n) rfl (pix (fun _ _ => rfl))) ge_int og_sub) (og_mulL (by omega) (by omega) .ol))) (by simp; omega) (fun _ => rfl) (fun _ => rfl)) ?_) (fun _ => rfl) (fun _ => rfl))
      ⟨_, .sh, W, m, _, atZ W (m + rngs W), rfl, ⟨⟨⟨_, r, lz, atZ_sum, kr, by omega⟩, hk⟩, lz, atZ_sum, hbz, r, kr, by omega⟩, rfl⟩
    unfold hpD atZ
    rw [show ((W.n : Int) - 1).toNat = W.n - 1 by omega, List.map_cons, List.map_replicate]
/-! ### least_coins, heap_of_rank, is_heap_of_rank -/
def pLeast (ds : List D) (r : D) : Prop := ∃ (W : Wb) (m : Nat) (c : Int), W.Few ∧ m ≤ 3 ∧ Lst W m c ∧ ds = [W.D, .int m] ∧ r = .int c
section
variable {S : Stat} {Γ τ : List Sl} {a b c : Expr} {pos pos2 p : Pos}
/-- fewest_by(web, many)[0] -/
theorem few0 {W : Wb} {m : Nat} {x : Int} (Fn : FnX S.P S.w S.K S.mg S.base "fewest_by" 10 preFew2 postFew2) (hk : 10 ≤ S.k) (hg : GlB S "fewest_by") (ha : GE S a Γ τ Γ (.sh W.D)) (hb : GE S b Γ (.sh W.D :: τ) Γ (.sh (.int m))) (hc : ∀ τ, GE S c Γ τ Γ (.sh (.int 0))) (g : W.Few) (m3 : m ≤ 3) (hx : Lst W m x)
    (he : ∀ env, starEach [a, b] env = (false, eval a env) :: starEach [b] env) (he2 : ∀ env, starEach [b] env = (false, eval b env) :: starEach [] env) (hpl : ∀ env, (backTo pos (starEach [b] env)).any (·.1) = false) (hp : PlainIx c) :
    GE S (.Subscript (.Call (.Name "fewest_by" p) [a, b] [] pos) c pos2) Γ τ Γ (.sh (.int x)) :=
  GX.toE (gx_ixT (P' := fun s => s = .sh (.int x)) (gx_call (ds := [W.D, .int m]) Fn hk hg (ga_cons ha (ga_cons hb ga_nil he2) he) ⟨W, m, g, m3, rfl⟩ (by decide) he hpl) (fun s hs => hc _) (fun s hs => by
    obtain ⟨r, rfl, V, k, c', h, e, ok, rfl⟩ := hs
    obtain ⟨rfl, rfl⟩ := wm_inj e
    refine ⟨_, _, rfl, rfl, ?_⟩
    rw [lst_uniq ok.lst hx]) hp)
end
theorem sc_least : FnScope ["web", "many"] ["web", "many"] (defScope (top 52)) := ⟨rfl, rfl, rfl, by decide +kernel, rfl, by decide +kernel, by decide +kernel⟩
theorem ok_least (F : Fun K "least_coins" "least_coins" (top 52) f fd) (F1 : FnG P w K mg base "need_web" 6 pNeedWeb) (F2 : FnG P w K mg base "need_few_rank" 2 pNeedFew) (F3 : FnX P w K mg base "fewest_by" 10 preFew2 postFew2) : FnOk P w K mg base CX0 11 f fd ["web", "many"] (pureSp pLeast) := by
  refine fn_pure F sc_least (fun ds r h => by obtain ⟨_, _, _, _, _, _, rfl, _⟩ := h; rfl) fun ds r h => ?_
  obtain ⟨W, m, c, g, m3, hc, rfl, rfl⟩ := h
  refine seq (gs_expr (c1 F1 (v 0 rfl) ⟨W, g.toGood, rfl, rfl⟩ (Nat.le_of_ble_eq_true rfl) rfl rfl (fun _ => rfl)) rfl (fun _ => rfl)) ?_
  refine seq (gs_expr (c1 F2 (v 1 rfl) ⟨m, m3, rfl, rfl⟩ (Nat.le_of_ble_eq_true rfl) rfl rfl (fun _ => rfl)) rfl (fun _ => rfl)) ?_
  exact ret (few0 F3 (Nat.le_of_ble_eq_true rfl) rfl (v 0 rfl) (v 1 rfl) (fun τ => ge_int) g m3 hc (fun _ => rfl) (fun _ => rfl) (fun _ => rfl) (pix (fun _ _ => rfl))) .sh
def postHR (ds : List D) (r : D) : Prop := ∃ (W : Wb) (m : Nat) (c : Int) (h : List Int), ds = [W.D, .int m] ∧ FewOk W m c h ∧ r = hpD h
theorem sc_hrank : FnScope ["web", "many"] ["web", "many"] (defScope (top 53)) := ⟨rfl, rfl, rfl, by decide +kernel, rfl, by decide +kernel, by decide +kernel⟩
theorem ok_hrank (F : Fun K "heap_of_rank" "heap_of_rank" (top 53) f fd) (F1 : FnG P w K mg base "need_web" 6 pNeedWeb) (F2 : FnG P w K mg base "need_few_rank" 2 pNeedFew) (F3 : FnX P w K mg base "fewest_by" 10 preFew2 postFew2) : FnOk P w K mg base CX0 11 f fd ["web", "many"] (relSp preFew2 postHR) := by
  refine fn_rel F sc_hrank (fun ds h => by obtain ⟨_, _, _, _, rfl⟩ := h; rfl) fun ds h => ?_
  obtain ⟨W, m, g, m3, rfl⟩ := h
  refine seq (gs_expr (c1 F1 (v 0 rfl) ⟨W, g.toGood, rfl, rfl⟩ (Nat.le_of_ble_eq_true rfl) rfl rfl (fun _ => rfl)) rfl (fun _ => rfl)) ?_
  refine seq (gs_expr (c1 F2 (v 1 rfl) ⟨m, m3, rfl, rfl⟩ (Nat.le_of_ble_eq_true rfl) rfl rfl (fun _ => rfl)) rfl (fun _ => rfl)) ?_
  refine gss_last (gs_retX (gx_ixT (P' := fun s => ∃ h c, s = .sh (hpD h) ∧ FewOk W m c h) (gx_call (ds := [W.D, .int m]) F3 (Nat.le_of_ble_eq_true rfl) rfl (ga_cons (v 0 rfl) (ga_cons (v 1 rfl) ga_nil (fun _ => rfl)) (fun _ => rfl)) ⟨W, m, g, m3, rfl⟩ rfl (fun _ => rfl) (fun _ => rfl))
    (fun s hs => ge_int) (fun s hs => by
      obtain ⟨r, rfl, V, k, c, h, e, ok, rfl⟩ := hs
      obtain ⟨rfl, rfl⟩ := wm_inj e
      exact ⟨_, _, rfl, atI_at (k := 1) rfl, h, c, rfl, ok⟩) (pix (fun _ _ => rfl))) fun s hs => ?_)
  obtain ⟨h, c, rfl, ok⟩ := hs
  exact ⟨_, .sh, W, m, c, h, rfl, ok, rfl⟩
def pIHR (ds : List D) (r : D) : Prop := ∃ (W : Wb) (m : Nat) (c k : Int) (h : List Int), W.Few ∧ m ≤ 3 ∧ Lst W m c ∧ h.length = W.n ∧ Bdd 1000 h ∧ Rk W h k ∧ ds = [W.D, .int m, hpD h] ∧ r = .bool (decide ((m : Int) ≤ k) && decide (h.sum = c))
theorem sc_ihr : FnScope ["web", "many", "thing"] ["web", "many", "thing"] (defScope (top 54)) := ⟨rfl, rfl, rfl, by decide +kernel, rfl, by decide +kernel, by decide +kernel⟩
theorem ok_ihr (T : Txt mg) (F : Fun K "is_heap_of_rank" "is_heap_of_rank" (top 54) f fd) (F1 : FnG P w K mg base "need_web" 6 pNeedWeb) (F2 : FnG P w K mg base "need_few_rank" 2 pNeedFew) (F3 : FnX P w K mg base "fewest_by" 10 preFew2 postFew2) (F4 : FnG P w K mg base "is_heap_of" 3 pIsHeapOf) (F5 : FnG P w K mg base "rank_by" 9 pRankBy) : FnOk P w K mg base CX0 11 f fd ["web", "many", "thing"] (pureSp pIHR) := by
  refine fn_pure F sc_ihr (fun ds r h => by obtain ⟨_, _, _, _, _, _, _, _, _, _, _, rfl, _⟩ := h; rfl) fun ds r h => ?_
  obtain ⟨W, m, c, k, h, g, m3, hc, hl, hb, kr, rfl, rfl⟩ := h
  have n4 := g.n4
  refine seq (gs_expr (c1 F1 (v 0 rfl) ⟨W, g.toGood, rfl, rfl⟩ (Nat.le_of_ble_eq_true rfl) rfl rfl (fun _ => rfl)) rfl (fun _ => rfl)) ?_
  refine seq (gs_expr (c1 F2 (v 1 rfl) ⟨m, m3, rfl, rfl⟩ (Nat.le_of_ble_eq_true rfl) rfl rfl (fun _ => rfl)) rfl (fun _ => rfl)) ?_
  have tst : ∀ {τ : List Sl}, True := trivial
  by_cases z : (m : Int) ≤ k
  · refine noif (geq_t (gt_bool (gw_or (gt_not (k := true) (gt_val (c2 F4 (v 0 rfl) (v 2 rfl) ⟨W, h, by omega, hl, rfl, rfl⟩ (Nat.le_of_ble_eq_true rfl) rfl rfl (fun _ => rfl) (fun _ => rfl) (fun _ => rfl)) (fun _ _ => rfl))) fun _ => gw_or1 (gt_cmp (c2 F5 (v 0 rfl) (v 2 rfl) ⟨W, h, k, g, hl, hb, kr, rfl, rfl⟩ (Nat.le_of_ble_eq_true rfl) rfl rfl (fun _ => rfl) (fun _ => rfl) (fun _ => rfl)) (v 1 rfl) og_lt rfl))) ?_) ?_
    · rw [decide_eq_false (show ¬ k < (m : Int) by omega)]
      rfl
    · refine ret (ge_cmp (ge_sumH rfl T.sum (v 2 rfl) (.t .sh) (fun _ => rfl)) (few0 F3 (Nat.le_of_ble_eq_true rfl) rfl (v 0 rfl) (v 1 rfl) (fun τ => ge_int) g m3 hc (fun _ => rfl) (fun _ => rfl) (fun _ => rfl) (pix (fun _ _ => rfl))) og_eqI rfl) (retS ?_)
      rw [decide_eq_true z, Bool.true_and]
  · refine yesif (geq_t (gt_bool (gw_or (gt_not (k := true) (gt_val (c2 F4 (v 0 rfl) (v 2 rfl) ⟨W, h, by omega, hl, rfl, rfl⟩ (Nat.le_of_ble_eq_true rfl) rfl rfl (fun _ => rfl) (fun _ => rfl) (fun _ => rfl)) (fun _ _ => rfl))) fun _ => gw_or1 (gt_cmp (c2 F5 (v 0 rfl) (v 2 rfl) ⟨W, h, k, g, hl, hb, kr, rfl, rfl⟩ (Nat.le_of_ble_eq_true rfl) rfl rfl (fun _ => rfl) (fun _ => rfl) (fun _ => rfl)) (v 1 rfl) og_lt rfl))) ?_) (ret ge_bl (retS ?_))
    · rw [decide_eq_true (show k < (m : Int) by omega)]
      rfl
    · rw [decide_eq_false z]
      rfl
/-! ### can_be_freed -/
def pFreedBy (ds : List D) (r : D) : Prop := ∃ (W : Wb) (h d : List Int), W.Fit ∧ h.length = W.n ∧ Sm h ∧ Red W 0 d ∧ Eqv W h d ∧ ds = [W.D, hpD h] ∧ r = if 0 ≤ d.getD 0 0 then hpD d else .none
theorem sc_freedby : FnScope ["web", "heap", "found"] ["web", "heap"] (defScope (top 56)) := ⟨rfl, rfl, rfl, by decide +kernel, rfl, by decide +kernel, by decide +kernel⟩
theorem ok_freedby (F : Fun K "freed_by" "freed_by" (top 56) f fd) (F1 : FnG P w K mg base "reduced_by" 5 pReducedBy) : FnOk P w K mg base CX0 6 f fd ["web", "heap"] (pureSp pFreedBy) := by
  refine fn_pure F sc_freedby (fun ds r h => by obtain ⟨_, _, _, _, _, _, _, _, rfl, _⟩ := h; rfl) fun ds r h => ?_
  obtain ⟨W, h, d, g, hl, sm, rd, ed, rfl, rfl⟩ := h
  have n2 := g.n2
  have ld := rd.len
  refine seq (asg 2 (c3 F1 (v 0 rfl) (v 1 rfl) ge_int ⟨W, h, 0, d, g, hl, sm, by omega, rd, ed, rfl, rfl⟩ (Nat.le_of_ble_eq_true rfl) rfl rfl (fun _ => rfl) (fun _ => rfl) (fun _ => rfl) (fun _ => rfl)) rfl rfl rfl (.inl rfl) (Nat.le_of_ble_eq_true rfl) (fun _ => rfl)) ?_
  refine ret (s := .sh (if 0 ≤ d.getD 0 0 then hpD d else .none)) (ge_ifC (k := decide (0 ≤ d.getD 0 0)) (gt_cmp (ge_ixT (v 2 rfl) ge_int .sh (at_ints (i := 0) (by omega)) (pix (fun _ _ => rfl))) ge_int og_ge rfl) (fun z => geq (v 2 rfl) (by rw [if_pos (of_decide_eq_true z)])) (fun z => geq ge_non (by rw [if_neg (of_decide_eq_false z)]))) .sh
def pCanFreed (ds : List D) (r : D) : Prop := ∃ (W : Wb) (h : List Int) (b : Bool), W.Fit ∧ h.length = W.n ∧ Sm h ∧ (b = true ↔ CanF W h) ∧ ds = [W.D, hpD h] ∧ r = .bool b
theorem sc_canfreed : FnScope ["web", "heap"] ["web", "heap"] (defScope (top 57)) := ⟨rfl, rfl, rfl, by decide +kernel, rfl, by decide +kernel, by decide +kernel⟩
theorem ok_canfreed (F : Fun K "can_be_freed" "can_be_freed" (top 57) f fd) (F1 : FnG P w K mg base "need_heap" 7 pNeedHeap) (F2 : FnG P w K mg base "freed_by" 6 pFreedBy) : FnOk P w K mg base CX0 8 f fd ["web", "heap"] (pureSp pCanFreed) := by
  refine fn_pure F sc_canfreed (fun ds r h => by obtain ⟨_, _, _, _, _, _, _, rfl, _⟩ := h; rfl) fun ds r h => ?_
  obtain ⟨W, h, b, g, hl, sm, hb, rfl, rfl⟩ := h
  have n2 := g.n2
  obtain ⟨rd, ed⟩ := redO_spec g (p := 0) (by omega) hl
  generalize redO W 0 h = d at rd ed
  refine seq (gs_expr (c2 F1 (v 0 rfl) (v 1 rfl) ⟨W, h, g.toGood, hl, rfl, rfl⟩ (Nat.le_of_ble_eq_true rfl) rfl rfl (fun _ => rfl) (fun _ => rfl) (fun _ => rfl)) rfl (fun _ => rfl)) ?_
  refine ret (ge_cmp (c2 F2 (v 0 rfl) (v 1 rfl) ⟨W, h, d, g, hl, sm, rd, ed, rfl, rfl⟩ (Nat.le_of_ble_eq_true rfl) rfl rfl (fun _ => rfl) (fun _ => rfl) (fun _ => rfl)) ge_non og_notN rfl) (retS ?_)
  congr 1
  rw [Bool.eq_iff_iff, hb, canF_red g.toGood hl rd ed]
  by_cases z : 0 ≤ d.getD 0 0
  · rw [if_pos z]
    exact ⟨fun _ => z, fun _ => rfl⟩
  · rw [if_neg z]
    exact ⟨fun y => by simp [isN] at y, fun y => absurd y z⟩
end K79
set_option maxHeartbeats 4000000
namespace K79
open PySem L2 Evl Lf
variable {P : Program} {w : World} {K : PySem.W.Frag} {mg : Str → Option Value} {base : Heap} {f : Addr} {fd : FuncData}
/-! ### _law_can_be_freed -/
def pLCan (ds : List D) (r : D) : Prop := ∃ (W : Wb) (h : List Int) (b : Bool), W.Fit ∧ h.length = W.n ∧ (b = true ↔ CanF W h) ∧ ds = [W.D, hpD h] ∧ r = .bool b
theorem sc_lcan : FnScope ["web", "heap"] ["web", "heap"] (defScope (top 70)) := ⟨rfl, rfl, rfl, by decide +kernel, rfl, by decide +kernel, by decide +kernel⟩
theorem ok_lcan (F : Fun K "_law_can_be_freed" "_law_can_be_freed" (top 70) f fd) (F1 : FnG P w K mg base "_law_reduced" 4 pLRed) : FnOk P w K mg base CX0 5 f fd ["web", "heap"] (pureSp pLCan) := by
  refine fn_pure F sc_lcan (fun ds r h => by obtain ⟨_, _, _, _, _, _, rfl, _⟩ := h; rfl) fun ds r h => ?_
  obtain ⟨W, h, b, g, hl, hb, rfl, rfl⟩ := h
  have n2 := g.n2
  obtain ⟨rd, ed⟩ := redO_spec g (p := 0) (by omega) hl
  generalize redO W 0 h = d at rd ed
  have ld := rd.len
  refine ret (ge_cmp (ge_ixT (c3 F1 (v 0 rfl) (v 1 rfl) ge_int ⟨W, h, 0, d, g, hl, by omega, law_ok g (by omega), rd, eqv_trans (startF_len hl) (eqv_sym hl (start_eqv g hl)) ed, rfl, rfl⟩ (Nat.le_of_ble_eq_true rfl) rfl rfl (fun _ => rfl) (fun _ => rfl) (fun _ => rfl) (fun _ => rfl)) ge_int .sh (at_ints (i := 0) (by omega)) (pix (fun _ _ => rfl))) ge_int og_ge rfl) (retS ?_)
  congr 1
  rw [Bool.eq_iff_iff, hb, decide_eq_true_iff, canF_red g.toGood hl rd ed]
/-! ### _law_taken, of a list of places -/
def pTakenLs (ds : List D) (r : D) : Prop := ∃ (n : Nat) (h : List Int) (l : List Nat), n ≤ 50 ∧ h.length = n ∧ (∀ i, i ∈ l → i < n) ∧ ds = [hpD h, lstD l] ∧ r = hpD (takenL n h l)
theorem ok_ltakenLs (T : Txt mg) (F : Fun K "_law_taken" "_law_taken" (top 71) f fd) : FnOk P w K mg base CX0 1 f fd ["heap", "places"] (pureSp pTakenLs) := by
  refine fn_pure F sc_ltaken (fun ds r h => by obtain ⟨_, _, _, _, _, _, rfl, _⟩ := h; rfl) fun ds r h => ?_
  obtain ⟨n, h, l, hn, hl, hlt, rfl, rfl⟩ := h
  refine seq (asg 2 (ge_list rfl T.list (v 0 rfl) (.t .sh) (fun _ => rfl)) rfl rfl rfl (.inl rfl) (Nat.le_of_ble_eq_true rfl) (fun _ => rfl)) ?_
  refine gss_cons (Mid := fun Γ => ∃ s, Γ = [.sh (hpD h), .sh (lstD l), .ol ((takenL n h l).map .int), s])
    (gs_for (L := natsD l) (p := .nm 3) (I := fun k Γ => ∃ s, Γ = [.sh (hpD h), .sh (lstD l), .ol ((takenL n h (l.take k)).map .int), s])
      (ig_list (v 1 rfl)) (pg_nm rfl (.inl rfl)) ⟨.no, by rw [List.take_zero, taken_nil hl]; rfl⟩ ?_ ?_ (fun _ _ => rfl)) ?_
  · rintro k Γ d ⟨s, rfl⟩ hd
    unfold natsD at hd
    rw [List.getElem?_map] at hd
    cases hk : l[k]? with
    | none => rw [hk] at hd; cases hd
    | some p =>
      rw [hk] at hd
      cases hd
      have hp := hlt p (List.mem_of_getElem? hk)
      have hlk := taken_len (l := l.take k) hl
      refine ⟨_, rfl, ?_⟩
      refine seq (gs_asgT (ge_bin (ge_ixL (bo 2 rfl) (v 3 rfl) (.bo rfl) (at_ints (by rw [hlk]; exact hp)) (pix (fun _ _ => rfl))) ge_int og_sub) (tg_sub (kn := p) (fun τ => bo 2 rfl) (fun τ => v 3 rfl) rfl (ixN_at (by rw [List.length_map, hlk]; exact hp)) (fun _ _ => rfl)) rfl (fun _ _ => rfl) (fun _ _ => rfl) (fun _ => rfl)) (gss_nil ⟨.sh (.int p), ?_⟩)
      rw [List.take_succ, hk]
      show _ = ([.sh (hpD h), .sh (lstD l), .ol ((takenL n h (l.take k ++ [p])).map .int), _] : List Sl)
      rw [← taken_snoc hl hp, List.map_set]
      rfl
  · rintro Γ ⟨s, rfl⟩
    refine ⟨s, ?_⟩
    unfold natsD
    rw [List.length_map, List.take_length]
  · rintro Γ ⟨s, rfl⟩
    exact ret (ge_tuple rfl T.tuple (bo 2 rfl) (.bo rfl) (fun _ => rfl)) .sh
/-! ### _law_few_heap -/
def preFew (ds : List D) : Prop := ∃ (W : Wb) (q : Nat), W.Fit ∧ q ≤ 20 ∧ ds = [W.D, .int q]
def postFew (ds : List D) (r : D) : Prop := ∃ (W : Wb) (q : Nat) (h : List Int), ds = [W.D, .int q] ∧ h.length = W.n ∧ Bdd 60 h ∧ (-1 ≤ h.sum ∧ h.sum ≤ q) ∧ r = hpD h
theorem sc_few : FnScope ["draw", "web", "most", "coins", "found", "place"] ["draw", "web", "most"] (defScope (top 73)) := ⟨rfl, rfl, rfl, by decide +kernel, rfl, by decide +kernel, by decide +kernel⟩
theorem ok_few (T : Txt mg) (F : Fun K "_law_few_heap" "_law_few_heap" (top 73) f fd) (F1 : FnB P w K mg base "_law_take" 2 preTake postTake) : FnOk P w K mg base CX0 3 f fd ["draw", "web", "most"] (blobSp RD preFew postFew) := by
  refine fn_blob F sc_few RD_w (fun ds h => by obtain ⟨_, _, _, _, rfl⟩ := h; rfl) fun w0 ds h => ?_
  obtain ⟨W, q, g, hq, rfl⟩ := h
  have n2 := g.n2
  have n4 := g.n4
  refine gss_cons (Mid := fun Γ => ∃ c : Int, (-1 ≤ c ∧ c ≤ q) ∧ Γ = [.ob (RD w0), .sh W.D, .sh (.int q), .sh (.int c), .no, .no])
    (gs_setX (i := 3) rfl (.inl rfl) (gx_subI (P := fun s => ∃ u : Nat, u < q + 2 ∧ s = .sh (.int u)) (P2 := fun s => s = .sh (.int 1)) (Q2 := fun s => ∃ c : Int, (-1 ≤ c ∧ c ≤ q) ∧ s = .sh (.int c))
      ((gx_callB F1 RD_w (Nat.le_of_ble_eq_true rfl) rfl (boc 0 rfl) (ds := [.int (q + 2)]) (ga_cons (ge_bin (v 2 rfl) ge_int og_add) ga_nil (fun _ => rfl)) rfl (ni_of rfl) ⟨q + 2, by omega, by omega, rfl⟩ rfl (fun _ => rfl) (fun _ => rfl)).imp ?_) (fun s hs => ge_int.toX) ?_) (Nat.le_of_ble_eq_true rfl) ?_ (fun _ _ => rfl)) ?_
  · rintro s ⟨r, rfl, m, u, e, hu, rfl⟩
    simp at e
    exact ⟨u, by omega, rfl⟩
  · rintro s1 s2 ⟨u, hu, rfl⟩ rfl
    exact ⟨_, _, rfl, rfl, _, by omega, rfl⟩
  · rintro s ⟨c, hc, rfl⟩
    exact ⟨rfl, c, hc, rfl⟩
  · rintro Γ ⟨c, hc, rfl⟩
    refine gss_cons (Mid := fun Γ => ∃ L : List Int, L.length = W.n ∧ (∀ i, i < W.n → -2 ≤ L.getD i 0 ∧ L.getD i 0 ≤ 2) ∧ Γ = [.ob (RD w0), .sh W.D, .sh (.int q), .sh (.int c), .ol (L.map .int), .no])
      (gs_setLc (i := 4) (own := [("place", 5)]) (p := .nm 5) (L := (List.range W.n).map fun i => .int (i : Nat)) (A := fun n s => ∃ L : List Int, s = .ol (L.map .int) ∧ L.length = n ∧ ∀ i, i < n → -2 ≤ L.getD i 0 ∧ L.getD i 0 ≤ 2) rfl rfl (Nat.le_of_ble_eq_true rfl)
        (lok (IG.of (rg1_eq W.n) (ig_rg1 rfl T.range (ge_ixT (v 1 rfl) ge_int .sh (d := .int W.n) rfl (pix (fun _ _ => rfl))) (by omega) (fun _ => rfl))) (pg_nm rfl (.inl rfl)) rfl rfl rfl (fun _ _ => rfl)) ⟨_, .ol, [], rfl, rfl, fun i hi => by omega⟩ (fun n s ⟨L, e, _⟩ => by rw [e]; rfl) ?_ ?_ rfl rfl) ?_
    · intro i d hd
      rw [List.getElem?_map] at hd
      by_cases hi : i < W.n
      · rw [List.getElem?_range hi] at hd
        cases hd
        refine ⟨_, rfl, true, gts_nil, fun _ => ⟨fun s => ∃ x : Int, (-2 ≤ x ∧ x ≤ 2) ∧ s = .sh (.int x), gx_subI (P := fun s => ∃ u : Nat, u < 5 ∧ s = .sh (.int u)) (P2 := fun s => s = .sh (.int 2))
          ((gx_callB F1 RD_w (Nat.le_of_ble_eq_true rfl) rfl (boc 0 rfl) (ds := [.int 5]) (ga_cons ge_int ga_nil (fun _ => rfl)) rfl (ni_of rfl) ⟨5, by omega, by omega, rfl⟩ rfl (fun _ => rfl) (fun _ => rfl)).imp ?_) (fun s hs => ge_int.toX) ?_, ?_⟩, fun z => by cases z⟩
        · rintro s ⟨r, rfl, m, u, e, hu, rfl⟩
          simp at e
          exact ⟨u, by omega, rfl⟩
        · rintro s1 s2 ⟨u, hu, rfl⟩ rfl
          exact ⟨_, _, rfl, rfl, _, by omega, rfl⟩
        · rintro r s ⟨u, hu, rfl⟩ ⟨L, rfl, hl, hb⟩
          refine ⟨_, ⟨L ++ [u], rfl, by rw [List.length_append, hl]; rfl, fun j hj => ?_⟩, push_int (by omega)⟩
          rw [getD_app, hl]
          by_cases e : j < i
          · rw [if_pos e]; exact hb j e
          · rw [if_neg e, if_pos (by omega)]; omega
      · rw [List.getElem?_eq_none (by simp; omega)] at hd
        cases hd
    · rintro s ⟨L, rfl, hl, hb⟩
      rw [List.length_map, List.length_range] at hl hb
      exact ⟨L, hl, hb, rfl⟩
    · rintro Γ ⟨L, hl, hb, rfl⟩
      refine gss_cons (Mid := fun Γ => ∃ (i : Nat), i < W.n ∧ Γ = [.ob (RD w0), .sh W.D, .sh (.int q), .sh (.int c), .ol ((L.set i (L.getD i 0 + (c - L.sum))).map .int), .no])
        (gs_augX (i := 4) (y' := c - L.sum) (bo 4 rfl) (gx_callB F1 RD_w (Nat.le_of_ble_eq_true rfl) rfl (boc 0 rfl) (ds := [.int W.n]) (ga_cons (ge_ixT (v 1 rfl) ge_int .sh (d := .int W.n) rfl (pix (fun _ _ => rfl))) ga_nil (fun _ => rfl)) rfl (ni_of rfl) ⟨W.n, by omega, by omega, rfl⟩ rfl (fun _ => rfl) (fun _ => rfl)) rfl
          (fun τ hτ => ge_bin (v 3 rfl) (ge_sumH rfl T.sum (bo 4 rfl) (.l (.bo rfl)) (fun _ => rfl)) og_sub) ?_ (fun _ _ _ => rfl)) ?_
      · rintro s ⟨r, rfl, m, u, e, hu, rfl⟩
        simp at e
        have hu' : u < W.n := by omega
        refine ⟨u, L.getD u 0, rfl, ?_, u, hu', ?_⟩
        · rw [List.getElem?_map, List.getElem?_eq_getElem (by omega), List.getD_eq_getElem?_getD, List.getElem?_eq_getElem (by omega)]
          rfl
        · rw [List.map_set]
          rfl
      · rintro Γ ⟨i, hi, rfl⟩
        have hls : (L.set i (L.getD i 0 + (c - L.sum))).length = W.n := by rw [List.length_set, hl]
        have hsum : (L.set i (L.getD i 0 + (c - L.sum))).sum = c := by rw [set_sum hi hl]; omega
        have hsb : -8 ≤ L.sum ∧ L.sum ≤ 8 := by
          rw [sum_list hl]
          have h1 : (sumN W.n fun i => L.getD i 0) ≤ sumN W.n fun _ => 2 := sumN_le fun i hi => (hb i hi).2
          have h2 : (sumN W.n fun _ => -2) ≤ sumN W.n fun i => L.getD i 0 := sumN_le fun i hi => (hb i hi).1
          rw [sumN_const] at h1 h2
          omega
        refine ret (ge_tuple rfl T.tuple (bo 4 rfl) (.bo rfl) (fun _ => rfl)) ⟨rfl, _, .sh, W, q, _, rfl, hls, bdd_of hls (by omega) fun j hj => ?_, by rw [hsum]; exact hc, rfl⟩
        by_cases e : j = i
        · subst e
          rw [List.getD_eq_getElem?_getD, List.getElem?_set_self (by omega)]
          have := hb j hj
          show -60 ≤ L.getD j 0 + (c - L.sum) ∧ L.getD j 0 + (c - L.sum) ≤ 60
          omega
        · rw [List.getD_eq_getElem?_getD, List.getElem?_set_ne (fun z => e z.symm), ← List.getD_eq_getElem?_getD]
          have := hb j hj
          omega
end K79
set_option maxHeartbeats 16000000
namespace K79
open PySem L2 Evl Lf
variable {P : Program} {w : World} {K : PySem.W.Frag} {mg : Str → Option Value} {base : Heap} {f : Addr} {fd : FuncData}
open Classical in
noncomputable def leastZ (W : Wb) (m : Nat) : Nat := if h : ∃ c : Nat, Lst W m c then Classical.choose h else 0
theorem leastZ_spec {W : Wb} (g : W.Good) (m : Nat) : Lst W m (leastZ W m) := by
  have hex : ∃ c : Nat, Lst W m c := by
    obtain ⟨c, hc, h1, h2⟩ := lst_ex g (m := m) (by omega)
    obtain ⟨h, r, e1, e2, e3, e4⟩ := hc.ex
    have := rk_nn g.ok e1 e3
    have h0 : 0 ≤ c := by omega
    exact ⟨c.toNat, by rw [show ((c.toNat : Nat) : Int) = c by omega]; exact hc⟩
  unfold leastZ
  rw [dif_pos hex]
  exact Classical.choose_spec hex
theorem leastZ_lo {W : Wb} (g : W.Good) (m : Nat) : (leastZ W m : Int) ≤ m + rngs W ∧ ((m : Int) < rngs W → 2 * (m : Int) ≤ leastZ W m) ∧ (rngs W ≤ m → (leastZ W m : Int) = m + rngs W) := by
  obtain ⟨c, hc, h1, h2⟩ := lst_ex g (m := m) (by omega)
  rw [lst_uniq (leastZ_spec g m) hc]
  refine ⟨h2, fun h => ?_, fun h => lst_top g (by omega) h hc⟩
  unfold lowN at h1
  rwa [if_pos h] at h1
theorem sc_law : FnScope ["script", "draw", "turn", "web", "rings", "many", "heap", "coins", "lap", "lot", "place", "some", "numbers", "spot", "more", "at"] ["script"] (defScope (top 74)) := ⟨rfl, rfl, rfl, by decide +kernel, rfl, by decide +kernel, by decide +kernel⟩
section
variable {S : Stat} {Γ Γ1 : List Sl} {c : Expr} {bs rest : List Stmt} {pos : Pos} {E : Endv}
theorem noifE {k : Bool} (hc : GT S c Γ [] Γ1 k) (e : k = false) (h : GSs S rest Γ1 E) : GSs S (.If c bs [] pos :: rest) Γ E := by subst e; exact noif hc h
end
def preNone (ds : List D) : Prop := ds = []
def postTrue (_ : List D) (r : D) : Prop := r = .bool true
theorem eqv_int (a b : Int) : PyData.eqv (.int a) (.int b) = decide (a = b) := by
  rw [Bool.eq_iff_iff, pl_eqv (k := 0) pl_int pl_int, decide_eq_true_iff]
  constructor
  · intro h; injection h
  · rintro rfl; rfl
theorem ok_law (T : Txt mg) (ns : List Int) (hns : ns.length ≤ 63) (F : Fun K "law" "law" (top 74) f fd)
    (Fbeg : FnS P w K mg base "_law_begun" 1 (spBegun K)) (Fwo : FnB P w K mg base "_law_web_of" 4 preWeb postWeb) (Ftk : FnB P w K mg base "_law_take" 2 preTake postTake) (Ffh : FnB P w K mg base "_law_few_heap" 3 preFew postFew)
    (Flr : FnG P w K mg base "_law_rings" 1 pRings) (Frk : FnG P w K mg base "rank" 10 pRankBy) (Fhr : FnX P w K mg base "heap_of_rank" 11 preFew2 postHR) (Flc : FnG P w K mg base "least_coins" 11 pLeast) (Fih : FnG P w K mg base "is_heap_of_rank" 11 pIHR)
    (Fcf : FnG P w K mg base "can_be_freed" 8 pCanFreed) (Flf : FnG P w K mg base "_law_can_be_freed" 5 pLCan) (Flt : FnG P w K mg base "_law_taken" 1 pTakenLs) : FnOk P w K mg base CX0 12 f fd ["script"] (blobSp (RS K ns) preNone postTrue) := by
  refine fn_blob F sc_law RS_w (fun ds h => by cases h; rfl) fun w0 ds h => ?_
  cases h
  refine gss_cons (Mid := fun Γ => ∃ wd, Γ = [.ob (RS K ns w0), .ob (RD wd), .no, .no, .no, .no, .no, .no, .no, .no, .no, .no, .no, .no, .no, .no])
    (gs_setX (i := 1) rfl (.inr ⟨rfl, rfl⟩) (gx_begun Fbeg (Nat.le_of_ble_eq_true rfl) rfl (bo 0 rfl) rfl hns rfl (fun _ => rfl)) (Nat.le_of_ble_eq_true rfl) (fun s ⟨wd, e⟩ => by subst e; exact ⟨rfl, wd, rfl⟩) (sw_cell rfl)) ?_
  rintro Γ ⟨wd, rfl⟩
  refine gss_cons (Mid := fun Γ => Γ[0]? = some (.ob (RS K ns w0)))
    (gs_for (L := (List.range (2 + min ns.length 4)).map fun i => .int (i : Nat)) (p := .nm 2) (I := fun k Γ => ∃ s2 s3 s4 s5 s6 s7 s8 s9 s10 s11 s12, Γ = [.ob (RS K ns w0), .ob (RD wd), s2, s3, s4, s5, s6, s7, s8, s9, s10, s11, s12, .no, .no, .no])
      (IG.of (rg1_eq (2 + min ns.length 4)) (ig_rg1 rfl T.range (geq (ge_bin ge_int (ge_min2 rfl T.min (ge_lenS rfl T.len (bo 0 rfl) rfl (fun _ => rfl)) ge_int (fun _ => rfl) (fun _ => rfl) (fun _ => rfl)) og_add) ?_) (by omega) (fun _ => rfl))) (pg_nm rfl (.inl rfl)) ⟨.no, .no, .no, .no, .no, .no, .no, .no, .no, .no, .no, rfl⟩ ?_ ?_ (fun _ _ => rfl)) ?_
  · congr 1
    split <;> omega
  · rintro k Γ d ⟨s2, s3, s4, s5, s6, s7, s8, s9, s10, s11, s12, rfl⟩ hd
    rw [List.getElem?_map] at hd
    by_cases hk : k < 2 + min ns.length 4
    · rw [List.getElem?_range hk] at hd
      cases hd
      refine ⟨_, rfl, ?_⟩
      -- web
      refine gss_cons (Mid := fun Γ => ∃ W : Wb, W.Few ∧ Γ = [.ob (RS K ns w0), .ob (RD wd), .sh (.int k), .sh W.D, s4, s5, s6, s7, s8, s9, s10, s11, s12, .no, .no, .no])
        (gs_setX (i := 3) rfl (.inr ⟨rfl, rfl⟩) (gx_callBX Fwo RD_w (Nat.le_of_ble_eq_true rfl) rfl (boc 1 rfl) (gax_two
          (gx_addI (P := fun s => s = .sh (.int 2)) (P2 := fun s => ∃ u : Nat, u < 3 ∧ s = .sh (.int u)) (Q2 := fun s => ∃ n : Nat, 2 ≤ n ∧ n ≤ 4 ∧ s = .sh (.int n)) ge_int.toX
            (fun s hs => (gx_callB Ftk RD_w (Nat.le_of_ble_eq_true rfl) rfl (boc 1 rfl) (ds := [.int 3]) (ga_cons ge_int ga_nil (fun _ => rfl)) rfl (by subst hs; exact (ni_of rfl)) ⟨3, by omega, by omega, rfl⟩ rfl (fun _ => rfl) (fun _ => rfl)).imp ?_) ?_)
          (fun s hs => gx_callB Ftk RD_w (Nat.le_of_ble_eq_true rfl) rfl (boc 1 rfl) (ds := [.int 4]) (ga_cons ge_int ga_nil (fun _ => rfl)) rfl (by obtain ⟨n, _, _, rfl⟩ := hs; exact (ni_of rfl)) ⟨4, by omega, by omega, rfl⟩ rfl (fun _ => rfl) (fun _ => rfl)) (fun _ => rfl) (fun _ => rfl)) rfl (ni_of rfl) ?_ rfl (fun _ => rfl) (fun _ => rfl)) (Nat.le_of_ble_eq_true rfl) ?_ (sw_cell rfl)) ?_
      · rintro s ⟨r, rfl, m, u, e, hu, rfl⟩
        simp at e
        exact ⟨u, by omega, rfl⟩
      · rintro s1 s2 rfl ⟨u, hu, rfl⟩
        exact ⟨_, _, rfl, rfl, 2 + u, by omega, by omega, by congr 2⟩
      · rintro ss ⟨s1, s2, rfl, ⟨n, n2, n4, rfl⟩, r, rfl, m, u, e, hu, rfl⟩
        simp at e
        exact ⟨[.int n, .int u], rfl, n, u, by omega, by omega, by omega, rfl⟩
      · rintro s ⟨ds, r, rfl, ⟨s1, s2, e1, ⟨n, n2, n4, rfl⟩, r2, rfl, m, u, e2, hu, rfl⟩, n', m', W, rfl, g, hn, hl, rfl⟩
        simp at e1 e2
        have h1 : n' = n := by have := e1.1; omega
        have h2 : m' = u := by have := e1.2; omega
        refine ⟨rfl, W, ⟨⟨g, by omega, by omega⟩, ?_⟩, rfl⟩
        rw [hl]
        unfold moreN
        split <;> omega
      rintro Γ ⟨W, g, rfl⟩
      have n2 := g.n2
      have n4 := g.n4
      have G := g.toGood
      -- rings, many
      refine gss_cons (Mid := fun Γ => ∃ m : Nat, m ≤ 2 ∧ Γ = [.ob (RS K ns w0), .ob (RD wd), .sh (.int k), .sh W.D, .sh (.int (rngs W)), .sh (.int m), s6, s7, s8, s9, s10, s11, s12, .no, .no, .no])
        (gs_par2X (i := 4) (j := 5) rfl rfl (by decide) (.inl rfl) (.inl rfl) (gax_two (c1 Flr (vc 3 rfl) ⟨W, rfl, rfl⟩ (Nat.le_of_ble_eq_true rfl) rfl rfl (fun _ => rfl)).toX (fun s hs => gx_callB Ftk RD_w (Nat.le_of_ble_eq_true rfl) rfl (boc 1 rfl) (ds := [.int 3]) (ga_cons ge_int ga_nil (fun _ => rfl)) rfl (by subst hs; exact (ni_of rfl)) ⟨3, by omega, by omega, rfl⟩ rfl (fun _ => rfl) (fun _ => rfl)) (fun _ => rfl) (fun _ => rfl)) (Nat.le_of_ble_eq_true rfl) (Nat.le_of_ble_eq_true rfl) ?_ (.inl ⟨rfl, rfl, sw_at rfl⟩)) ?_
      · rintro ss ⟨s1, s2, rfl, rfl, r, rfl, m, u, e, hu, rfl⟩
        simp at e
        exact ⟨_, _, rfl, rfl, rfl, u, by omega, rfl⟩
      rintro Γ ⟨m, m2, rfl⟩
      have lst := leastZ_spec G m
      obtain ⟨b1, b2, b3⟩ := leastZ_lo G m
      have hrb := rngs_bd g
      generalize hq : leastZ W m = q at lst b1 b2 b3
      -- heap, coins
      refine gss_cons (Mid := fun Γ => ∃ h : List Int, FewOk W m q h ∧ Γ = [.ob (RS K ns w0), .ob (RD wd), .sh (.int k), .sh W.D, .sh (.int (rngs W)), .sh (.int m), .sh (hpD h), .sh (.int q), s8, s9, s10, s11, s12, .no, .no, .no])
        (gs_par2X (i := 6) (j := 7) rfl rfl (by decide) (.inl rfl) (.inl rfl) (gax_two (gx_call (ds := [W.D, .int m]) Fhr (Nat.le_of_ble_eq_true rfl) rfl (ga_cons (vc 3 rfl) (ga_cons (v 5 rfl) ga_nil (fun _ => rfl)) (fun _ => rfl)) ⟨W, m, g, by omega, rfl⟩ rfl (fun _ => rfl) (fun _ => rfl)) (fun s hs => (c2 Flc (vc 3 rfl) (v 5 rfl) ⟨W, m, q, g, by omega, lst, rfl, rfl⟩ (Nat.le_of_ble_eq_true rfl) rfl rfl (fun _ => rfl) (fun _ => rfl) (fun _ => rfl)).toX) (fun _ => rfl) (fun _ => rfl)) (Nat.le_of_ble_eq_true rfl) (Nat.le_of_ble_eq_true rfl) ?_ (.inl ⟨rfl, rfl, sw_at rfl⟩)) ?_
      · rintro ss ⟨s1, s2, rfl, ⟨r, rfl, V, m', c, h, e, ok, rfl⟩, rfl⟩
        obtain ⟨rfl, rfl⟩ := wm_inj e
        have := lst_uniq ok.lst lst
        subst this
        exact ⟨_, _, rfl, rfl, rfl, h, ok, rfl⟩
      rintro Γ ⟨h, ok, rfl⟩
      have hl := ok.len
      obtain ⟨kk, kr, hkk⟩ := ok.rk
      have ph : pRankBy [W.D, hpD h] (.int kk) := ⟨W, h, kk, g, hl, ok.bd.leB (by omega), kr, rfl, rfl⟩
      have pih : pIHR [W.D, .int m, hpD h] (.bool (decide ((m : Int) ≤ kk) && decide (h.sum = q))) := ⟨W, m, q, kk, h, g, by omega, lst, hl, ok.bd.leB (by omega), kr, rfl, rfl⟩
      refine noifE (gt_bool (gw_or (gt_cmp (ge_sumH rfl T.sum (v 6 rfl) (.t .sh) (fun _ => rfl)) (v 7 rfl) og_neI rfl) fun _ => gw_or (gt_cmp (c2 Frk (vc 3 rfl) (v 6 rfl) ph (Nat.le_of_ble_eq_true rfl) rfl rfl (fun _ => rfl) (fun _ => rfl) (fun _ => rfl)) (v 5 rfl) og_lt rfl) fun _ => gw_or1 (gt_cmp (c3 Fih (vc 3 rfl) (v 5 rfl) (v 6 rfl) pih (Nat.le_of_ble_eq_true rfl) rfl rfl (fun _ => rfl) (fun _ => rfl) (fun _ => rfl) (fun _ => rfl)) ge_bl og_notB rfl))) ?_ ?_
      · rw [ok.sum, decide_eq_true hkk, decide_eq_false (show ¬ kk < (m : Int) by omega)]
        simp
      -- coins taken at drawn places
      refine gss_cons (Mid := fun Γ => ∃ s8 s9, Γ = [.ob (RS K ns w0), .ob (RD wd), .sh (.int k), .sh W.D, .sh (.int (rngs W)), .sh (.int m), .sh (hpD h), .sh (.int q), s8, s9, s10, s11, s12, .no, .no, .no])
        (gs_for (L := (List.range 3).map fun i => .int (i : Nat)) (p := .nm 8) (I := fun _ Γ => ∃ s8 s9, Γ = [.ob (RS K ns w0), .ob (RD wd), .sh (.int k), .sh W.D, .sh (.int (rngs W)), .sh (.int m), .sh (hpD h), .sh (.int q), s8, s9, s10, s11, s12, .no, .no, .no])
          (IG.of (rg1_eq 3) (ig_rg1 rfl T.range ge_int (by omega) (fun _ => rfl))) (pg_nm rfl (.inl rfl)) ⟨s8, s9, rfl⟩ ?_ (fun Γ h => h) (fun _ _ => rfl)) ?_
      · rintro j Γ x ⟨t8, t9, rfl⟩ hd
        refine ⟨_, rfl, ?_⟩
        refine gss_cons (Mid := fun Γ => ∃ (t8 : Sl) (l : List Nat), l.length = m ∧ (∀ i, i ∈ l → i < W.n) ∧ Γ = [.ob (RS K ns w0), .ob (RD wd), .sh (.int k), .sh W.D, .sh (.int (rngs W)), .sh (.int m), .sh (hpD h), .sh (.int q), t8, .ol (natsD l), s10, s11, s12, .no, .no, .no])
          (gs_setLc (i := 9) (own := [("spot", 13)]) (p := .nm 13) (L := (List.range m).map fun i => .int (i : Nat)) (A := fun n s => ∃ l : List Nat, s = .ol (natsD l) ∧ l.length = n ∧ ∀ i, i ∈ l → i < W.n) rfl rfl (Nat.le_of_ble_eq_true rfl)
            (lok (IG.of (rg1_eq m) (ig_rg1 rfl T.range (v 5 rfl) (by omega) (fun _ => rfl))) (pg_nm rfl (.inl rfl)) rfl rfl rfl (fun _ _ => rfl)) ⟨_, .ol, [], rfl, rfl, fun i hi => by simp at hi⟩ (fun n s ⟨L, e, _⟩ => by rw [e]; rfl) ?_ ?_ rfl rfl) ?_
        · intro i d hd
          rw [List.getElem?_map] at hd
          by_cases hi : i < m
          · rw [List.getElem?_range hi] at hd
            cases hd
            refine ⟨_, rfl, true, gts_nil, fun _ => ⟨fun s => ∃ u : Nat, u < W.n ∧ s = .sh (.int u),
              ((gx_callB Ftk RD_w (Nat.le_of_ble_eq_true rfl) rfl (boc 1 rfl) (ds := [.int W.n]) (ga_cons (ge_ixT (vc 3 rfl) ge_int .sh (d := .int W.n) rfl (pix (fun _ _ => rfl))) ga_nil (fun _ => rfl)) rfl (ni_of rfl) ⟨W.n, by omega, by omega, rfl⟩ rfl (fun _ => rfl) (fun _ => rfl)).imp ?_), ?_⟩, fun z => by cases z⟩
            · rintro s ⟨r, rfl, m', u, e, hu, rfl⟩
              simp at e
              exact ⟨u, by omega, rfl⟩
            · rintro r s ⟨u, hu, rfl⟩ ⟨l, rfl, hl', hb⟩
              refine ⟨_, ⟨l ++ [u], rfl, by rw [List.length_append, hl']; rfl, fun i hi => ?_⟩, ?_⟩
              · rcases List.mem_append.mp hi with y | y
                · exact hb i y
                · rw [List.mem_singleton.mp y]; exact hu
              · unfold natsD
                rw [List.map_append]
                exact push_sh (by rw [List.length_map]; omega)
          · rw [List.getElem?_eq_none (by simp; omega)] at hd
            cases hd
        · rintro s ⟨l, rfl, hl', hb⟩
          rw [List.length_map, List.length_range] at hl'
          exact ⟨_, l, hl', hb, rfl⟩
        · rintro Γ ⟨t8, l, hl', hb, rfl⟩
          have hcan : CanF W (takenL W.n h l) := kr.all (cntL W.n l) cnt_eff (by rw [cnt_sum hb, hl']; exact hkk)
          refine noifE (gt_bool (gw_or (gt_cmp (c2 Fcf (vc 3 rfl) (c2 Flt (v 6 rfl) (ge_frzB (bo 9 rfl) rfl .ol (fun s hs => .inl (by simp at hs; rcases hs with rfl | rfl <;> rfl))) ⟨W.n, h, l, by omega, hl, hb, rfl, rfl⟩ (Nat.le_of_ble_eq_true rfl) rfl rfl (fun _ => rfl) (fun _ => rfl) (fun _ => rfl)) ⟨W, _, true, g.toFit, taken_len hl, taken_sm hl ok.bd (by omega), by simpa using hcan, rfl, rfl⟩ (Nat.le_of_ble_eq_true rfl) rfl rfl (fun _ => rfl) (fun _ => rfl) (fun _ => rfl)) ge_bl og_notB rfl) fun _ =>
            gw_or1 (gt_not (k := true) (gt_val (c2 Flf (vc 3 rfl) (c2 Flt (v 6 rfl) (v 9 rfl) ⟨W.n, h, l, by omega, hl, hb, rfl, rfl⟩ (Nat.le_of_ble_eq_true rfl) rfl rfl (fun _ => rfl) (fun _ => rfl) (fun _ => rfl)) ⟨W, _, true, g.toFit, taken_len hl, by simpa using hcan, rfl, rfl⟩ (Nat.le_of_ble_eq_true rfl) rfl rfl (fun _ => rfl) (fun _ => rfl) (fun _ => rfl)) (fun _ _ => rfl))))) rfl (gss_nil ⟨_, _, rfl⟩)
      rintro Γ ⟨t8, t9, rfl⟩
      -- place
      refine gss_cons (Mid := fun Γ => ∃ p : Nat, p < W.n ∧ Γ = [.ob (RS K ns w0), .ob (RD wd), .sh (.int k), .sh W.D, .sh (.int (rngs W)), .sh (.int m), .sh (hpD h), .sh (.int q), t8, t9, .sh (.int p), s11, s12, .no, .no, .no])
        (gs_setX (i := 10) rfl (.inl rfl) (gx_callB Ftk RD_w (Nat.le_of_ble_eq_true rfl) rfl (boc 1 rfl) (ds := [.int W.n]) (ga_cons (ge_ixT (vc 3 rfl) ge_int .sh (d := .int W.n) rfl (pix (fun _ _ => rfl))) ga_nil (fun _ => rfl)) rfl (ni_of rfl) ⟨W.n, by omega, by omega, rfl⟩ rfl (fun _ => rfl) (fun _ => rfl)) (Nat.le_of_ble_eq_true rfl) (fun s ⟨r, e, m', u, e2, hu, e3⟩ => by subst e e3; simp at e2; exact ⟨rfl, u, by omega, rfl⟩) (fun _ _ => rfl)) ?_
      rintro Γ ⟨p, hp, rfl⟩
      have hp1 : ∀ i, i ∈ [p] → i < W.n := fun i hi => by rw [List.mem_singleton.mp hi]; exact hp
      have lt1 := taken_len (l := [p]) hl
      obtain ⟨k1, kr1⟩ := rk_ex G lt1
      have hk1 : k1 < m := Int.not_le.mp fun z => by
        have := lst.lo _ k1 lt1 kr1 z
        unfold takenL at this
        rw [zip_sum hl cnt_len, cnt_sum hp1, ok.sum] at this
        simp at this
        omega
      have bt1 : Bdd 1000 (takenL W.n h [p]) := bdd_of lt1 (by omega) fun i hi => by
        rw [taken_at hl hi]
        have := ok.bd i
        have := List.count_le_length (a := i) (l := [p])
        simp only [List.length_singleton] at this
        omega
      refine noifE (gt_bool (gw_or (gt_cmp (c2 Frk (vc 3 rfl) (c2 Flt (v 6 rfl) (geq (d' := lstD [p]) (ge_frz (l1 (v 10 rfl) (fun _ => rfl))) rfl) ⟨W.n, h, [p], by omega, hl, hp1, rfl, rfl⟩ (Nat.le_of_ble_eq_true rfl) rfl rfl (fun _ => rfl) (fun _ => rfl) (fun _ => rfl)) ⟨W, _, k1, g, lt1, bt1, kr1, rfl, rfl⟩ (Nat.le_of_ble_eq_true rfl) rfl rfl (fun _ => rfl) (fun _ => rfl) (fun _ => rfl)) (v 5 rfl) og_ge rfl) fun _ =>
        gw_or (gt_cmp (v 7 rfl) (ge_bin (v 5 rfl) (v 4 rfl) og_add) og_gt rfl) fun _ => gw_or (gt_bool (gw_and (gt_cmp (v 5 rfl) (v 4 rfl) og_lt rfl) fun _ => gw_and1 (gt_cmp (v 7 rfl) (ge_bin ge_int (v 5 rfl) (og_mul (.inl (by omega)))) og_lt rfl))) fun _ =>
        gw_or1 (gt_bool (gw_and (gt_cmp (v 5 rfl) (v 4 rfl) og_ge rfl) fun _ => gw_and1 (gt_cmp (v 7 rfl) (ge_bin (v 5 rfl) (v 4 rfl) og_add) og_neI rfl))))) ?_ ?_
      · rw [decide_eq_false (show ¬ (m : Int) ≤ k1 by omega), decide_eq_false (show ¬ (m : Int) + rngs W < q by omega)]
        by_cases z : (m : Int) < rngs W
        · have := b2 z
          rw [decide_eq_false (show ¬ (q : Int) < 2 * m by omega), decide_eq_false (show ¬ rngs W ≤ (m : Int) by omega)]
          simp
        · rw [decide_eq_false z, b3 (by omega)]
          simp
      -- some
      refine gss_cons (Mid := fun Γ => ∃ b : List Int, (b.length = W.n ∧ Bdd 60 b ∧ -1 ≤ b.sum ∧ b.sum ≤ q) ∧ Γ = [.ob (RS K ns w0), .ob (RD wd), .sh (.int k), .sh W.D, .sh (.int (rngs W)), .sh (.int m), .sh (hpD h), .sh (.int q), t8, t9, .sh (.int p), .sh (hpD b), s12, .no, .no, .no])
        (gs_setX (i := 11) rfl (.inl rfl) (gx_callB Ffh RD_w (Nat.le_of_ble_eq_true rfl) rfl (boc 1 rfl) (ds := [W.D, .int q]) (ga_cons (vc 3 rfl) (ga_cons (v 7 rfl) ga_nil (fun _ => rfl)) (fun _ => rfl)) rfl (ni_of rfl) ⟨W, q, g.toFit, by omega, rfl⟩ rfl (fun _ => rfl) (fun _ => rfl)) (Nat.le_of_ble_eq_true rfl) ?_ (fun _ _ => rfl)) ?_
      · rintro s ⟨r, rfl, V, q', b, e, lb, bb, sb, rfl⟩
        obtain ⟨rfl, rfl⟩ := wm_inj e
        exact ⟨rfl, b, ⟨lb, bb, sb⟩, rfl⟩
      rintro Γ ⟨b, ⟨lb, bb, sb⟩, rfl⟩
      obtain ⟨rb, kb⟩ := rk_ex G lb
      have pb : pRankBy [W.D, hpD b] (.int rb) := ⟨W, b, rb, g, lb, bb.leB (by omega), kb, rfl, rfl⟩
      have pib : pIHR [W.D, .int m, hpD b] (.bool (decide ((m : Int) ≤ rb) && decide (b.sum = q))) := ⟨W, m, q, rb, b, g, by omega, lst, lb, bb.leB (by omega), kb, rfl, rfl⟩
      refine noifE (gt_bool (gw_or (gt_bool (gw_and (gt_cmp (ge_sumH rfl T.sum (v 11 rfl) (.t .sh) (fun _ => rfl)) (v 7 rfl) og_lt rfl) fun _ => gw_and1 (gt_cmp (c2 Frk (vc 3 rfl) (v 11 rfl) pb (Nat.le_of_ble_eq_true rfl) rfl rfl (fun _ => rfl) (fun _ => rfl) (fun _ => rfl)) (v 5 rfl) og_ge rfl))) fun _ =>
        gw_or1 (gt_bool (gw_and (gt_cmp (ge_sumH rfl T.sum (v 11 rfl) (.t .sh) (fun _ => rfl)) (v 7 rfl) og_eqI rfl) fun _ => gw_and1 (gt_cmp (c3 Fih (vc 3 rfl) (v 5 rfl) (v 11 rfl) pib (Nat.le_of_ble_eq_true rfl) rfl rfl (fun _ => rfl) (fun _ => rfl) (fun _ => rfl) (fun _ => rfl)) (ge_cmp (c2 Frk (vc 3 rfl) (v 11 rfl) pb (Nat.le_of_ble_eq_true rfl) rfl rfl (fun _ => rfl) (fun _ => rfl) (fun _ => rfl)) (v 5 rfl) og_ge rfl) og_neB rfl))))) ?_ ?_
      · by_cases z : (m : Int) ≤ rb
        · have := lst.lo b rb lb kb z
          rw [decide_eq_true z, decide_eq_false (show ¬ b.sum < (q : Int) by omega)]
          by_cases y : b.sum = q
          · simp [y]
          · simp [y]
        · rw [decide_eq_false z]
          simp
      -- numbers
      refine seq (asgC 12 (lcA (xs := List.range (m + 1)) (rep := fun i => .int (i : Nat)) (g := fun i => .int (leastZ W i : Nat)) (own := [("more", 14)]) (p := .nm 14)
        (lok (IG.of (rg1_eq (m + 1)) (ig_rg1 rfl T.range (geq (ge_bin (v 5 rfl) ge_int og_add) (congrArg PyData.int (by omega))) (by omega) (fun _ => rfl))) (pg_nm rfl (.inl rfl)) rfl rfl rfl (fun _ _ => rfl))
        (fun i hi => ⟨_, rfl, c2 Flc (vc 3 rfl) (v 14 rfl) ⟨W, i, leastZ W i, g, by have := List.mem_range.mp hi; omega, leastZ_spec G i, rfl, rfl⟩ (Nat.le_of_ble_eq_true rfl) rfl rfl (fun _ => rfl) (fun _ => rfl) (fun _ => rfl)⟩) (by rw [List.length_range]; omega) (ni_of rfl)) rfl rfl rfl rfl rfl (Nat.le_of_ble_eq_true rfl)) ?_
      have hn : ∀ i, i < m + 1 → ((List.range (m + 1)).map fun i => PyData.int (leastZ W i : Nat))[i]? = some (.int (leastZ W i : Nat)) := fun i hi => by rw [List.getElem?_map, List.getElem?_range hi]; rfl
      have climb : ∀ i, leastZ W i < leastZ W (i + 1) := fun i => by
        have := lst_climb G (leastZ_spec G i) (by have := leastZ_spec G (i + 1); rwa [show ((i + 1 : Nat) : Int) = (i : Int) + 1 by omega] at this)
        omega
      have l0' : leastZ W 0 = 0 := by
        have := lst_zero G (leastZ_spec G 0)
        omega
      have p1 : pLeast [W.D, .int 1] (.int (leastZ W 1 : Nat)) := ⟨W, 1, _, g, by omega, leastZ_spec G 1, rfl, rfl⟩
      have s1 := leastZ_spec G 1
      have one : rngs W ≤ 1 → (leastZ W 1 : Int) = 1 + rngs W := fun h => lst_top G (by omega) h s1
      have two : rngs W = 2 → (leastZ W 1 : Int) = 2 := fun h => lst_two G h s1
      have eF : ((List.range m).filter fun i => decide ((leastZ W (i + 1) : Int) ≤ leastZ W i)) = [] := List.filter_eq_nil_iff.mpr fun i _ => by
        have := climb i
        simp
        omega
      refine noifE (gt_bool (gw_or (gt_cmp (ge_ixL (boc 12 rfl) ge_int (.bo rfl) (atI_at (k := 0) (hn 0 (by omega))) (pix (fun _ _ => rfl))) ge_int og_neI rfl) fun _ =>
        gw_or (gt_cmp (lc (xs := List.range m) (rep := fun i => .int (i : Nat)) (kf := fun i => decide ((leastZ W (i + 1) : Int) ≤ leastZ W i)) (g := fun i => .int (i : Nat)) (own := [("at", 15)]) (p := .nm 15)
          (lok (IG.of (rg1_eq m) (ig_rg1 rfl T.range (v 5 rfl) (by omega) (fun _ => rfl))) (pg_nm rfl (.inl rfl)) rfl rfl rfl (fun _ _ => rfl))
          (fun i hi => ⟨_, rfl, gts_one (gt_cmp (ge_ixL (boc 12 rfl) (ge_bin (v 15 rfl) ge_int og_add) (.bo rfl) (atI_at (k := i + 1) (hn (i + 1) (by have := List.mem_range.mp hi; omega))) (pix (fun _ _ => rfl))) (ge_ixL (boc 12 rfl) (v 15 rfl) (.bo rfl) (atI_at (k := i) (hn i (by have := List.mem_range.mp hi; omega))) (pix (fun _ _ => rfl))) og_le rfl), fun _ => v 15 rfl⟩) (by rw [List.length_range]; omega) (ni_of rfl)) l0 (og_neL .ol .ol (pl_shaped (k := 1) (fun d hd => pl_nats d hd) (by decide)) (pl_shaped pl_nil (by decide))) rfl) fun _ =>
        gw_or (gt_bool (gw_and (gt_cmp (v 4 rfl) (ge_lst (ds := [.int 1, .int 2]) (ga_cons ge_int (ga_cons ge_int ga_nil (fun _ => rfl)) (fun _ => rfl)) (by simp)) (og_in (dss := [.int 1, .int 2]) (.l .ol) rfl rfl (by simp [PyData.depth])) rfl) fun _ => gw_and1 (gt_cmp (c2 Flc (vc 3 rfl) ge_int p1 (Nat.le_of_ble_eq_true rfl) rfl rfl (fun _ => rfl) (fun _ => rfl) (fun _ => rfl)) ge_int og_neI rfl))) fun _ =>
        gw_or1 (gt_bool (gw_and (gt_cmp (v 4 rfl) ge_int og_eqI rfl) fun _ => gw_and1 (gt_cmp (c2 Flc (vc 3 rfl) ge_int p1 (Nat.le_of_ble_eq_true rfl) rfl rfl (fun _ => rfl) (fun _ => rfl) (fun _ => rfl)) ge_int og_neI rfl))))) ?_ (gss_nil ?_)
      · rw [eF, l0']
        simp only [List.any_cons, List.any_nil, eqv_int]
        by_cases z0 : rngs W = 0
        · have e1 : (leastZ W 1 : Int) = 1 := by have := one (by omega); omega
          rw [e1, z0]
          rfl
        · by_cases z1 : rngs W = 1
          · have e1 : (leastZ W 1 : Int) = 2 := by have := one (by omega); omega
            rw [e1, z1]
            rfl
          · by_cases z2 : rngs W = 2
            · have e1 : (leastZ W 1 : Int) = 2 := two z2
              rw [e1, z2]
              rfl
            · rw [decide_eq_false (show ¬ (1 : Int) = rngs W by omega), decide_eq_false (show ¬ (2 : Int) = rngs W by omega), decide_eq_false (show ¬ rngs W = 0 by omega)]
              rfl
      · exact ⟨_, _, _, _, _, _, _, _, _, _, _, rfl⟩
    · rw [List.getElem?_eq_none (by simp; omega)] at hd
      cases hd
  · rintro Γ ⟨s2, s3, s4, s5, s6, s7, s8, s9, s10, s11, s12, rfl⟩
    rfl
  · rintro Γ hΓ
    exact ret ge_bl ⟨hΓ, _, .sh, rfl⟩
end K79
set_option maxHeartbeats 4000000
namespace K79
open PySem L2 Evl Lf
/-! ### all promises together -/
def DefAt (K : PySem.W.Frag) (mg : Str → Option Value) (x : Str) (i : Nat) (ps : List Str) : Prop := ∃ (f : Addr) (fd : FuncData), mg x = some (.ref f) ∧ PySem.W.keepIn K (.ref f) = true ∧ Binds K fd ps [] ∧ Fun K x x (top i) f fd
theorem fnS_of {P : Program} {w : World} {K : PySem.W.Frag} {mg : Str → Option Value} {base : Heap} {x : Str} {i j k : Nat} {ps : List Str} {sp : Sp} (D : DefAt K mg x i ps) (ok : ∀ f fd, Fun K x x (top i) f fd → FnOk P w K mg base CX0 j f fd ps sp) (h : j ≤ k) : FnS P w K mg base x k sp :=
  let ⟨f, fd, h1, h2, h3, h4⟩ := D
  ⟨f, fd, ps, h1, h2, h3, (ok f fd h4).mono h⟩
structure Defs (K : PySem.W.Frag) (mg : Str → Option Value) : Prop where
  d6 : DefAt K mg "is_number" 6 ["thing"]
  d7 : DefAt K mg "are_numbers" 7 ["many", "thing"]
  d8 : DefAt K mg "determinant" 8 ["rows"]
  d9 : DefAt K mg "solved" 9 ["rows", "goal"]
  d13 : DefAt K mg "hangs_together" 13 ["places", "ties"]
  d14 : DefAt K mg "is_tie" 14 ["places", "thing"]
  d15 : DefAt K mg "is_web_of" 15 ["thing"]
  d16 : DefAt K mg "need_web" 16 ["web"]
  d17 : DefAt K mg "ties_by" 17 ["web", "place"]
  d18 : DefAt K mg "rings_by" 18 ["web"]
  d19 : DefAt K mg "table_by" 19 ["web"]
  d21 : DefAt K mg "is_heap_of" 21 ["web", "thing"]
  d22 : DefAt K mg "need_heap" 22 ["web", "heap"]
  d23 : DefAt K mg "plus_by" 23 ["one", "other", "many"]
  d25 : DefAt K mg "rounds_by" 25 ["web", "heap", "place"]
  d26 : DefAt K mg "unburnt_by" 26 ["web", "heap", "place"]
  d28 : DefAt K mg "given_by_row" 28 ["web", "heap", "row"]
  d29 : DefAt K mg "row_of_places" 29 ["web", "places"]
  d31 : DefAt K mg "without" 31 ["line", "place"]
  d32 : DefAt K mg "whole_row" 32 ["web", "heap", "place"]
  d33 : DefAt K mg "layers" 33 ["web", "place"]
  d34 : DefAt K mg "paid_with" 34 ["web", "heap", "place"]
  d35 : DefAt K mg "reduced_with" 35 ["web", "heap", "place"]
  d36 : DefAt K mg "reduced_by" 36 ["web", "heap", "place"]
  d37 : DefAt K mg "all_by" 37 ["web", "place", "number"]
  d39 : DefAt K mg "far_by" 39 ["web"]
  d40 : DefAt K mg "partner_by" 40 ["web", "heap"]
  d42 : DefAt K mg "can_by" 42 ["web", "heap"]
  d43 : DefAt K mg "taken" 43 ["heap", "places"]
  d44 : DefAt K mg "lots_of" 44 ["places", "many"]
  d45 : DefAt K mg "small_bar" 45 ["web", "heap"]
  d46 : DefAt K mg "rank_by" 46 ["web", "heap"]
  d47 : DefAt K mg "rank" 47 ["web", "heap"]
  d50 : DefAt K mg "need_few_rank" 50 ["many"]
  d51 : DefAt K mg "fewest_by" 51 ["web", "many"]
  d52 : DefAt K mg "least_coins" 52 ["web", "many"]
  d53 : DefAt K mg "heap_of_rank" 53 ["web", "many"]
  d54 : DefAt K mg "is_heap_of_rank" 54 ["web", "many", "thing"]
  d56 : DefAt K mg "freed_by" 56 ["web", "heap"]
  d57 : DefAt K mg "can_be_freed" 57 ["web", "heap"]
  d59 : DefAt K mg "_law_begun" 59 ["script"]
  d60 : DefAt K mg "_law_mixed" 60 ["draw"]
  d61 : DefAt K mg "_law_take" 61 ["draw", "amount"]
  d62 : DefAt K mg "_law_shuffled" 62 ["draw", "some"]
  d63 : DefAt K mg "_law_near_to" 63 ["web", "place"]
  d64 : DefAt K mg "_law_web_of" 64 ["draw", "places", "more"]
  d65 : DefAt K mg "_law_given" 65 ["web", "heap", "row"]
  d66 : DefAt K mg "_law_rounds" 66 ["web", "heap", "place"]
  d67 : DefAt K mg "_law_unburnt" 67 ["web", "heap", "place"]
  d68 : DefAt K mg "_law_many_trees" 68 ["web"]
  d69 : DefAt K mg "_law_reduced" 69 ["web", "heap", "place"]
  d70 : DefAt K mg "_law_can_be_freed" 70 ["web", "heap"]
  d71 : DefAt K mg "_law_taken" 71 ["heap", "places"]
  d72 : DefAt K mg "_law_rings" 72 ["web"]
  d73 : DefAt K mg "_law_few_heap" 73 ["draw", "web", "most"]
def spLaw (K : PySem.W.Frag) : Sp := fun vs H Q E => ∃ ns : List Int, ns.length ≤ 63 ∧ blobSp (RS K ns) preNone postTrue vs H Q E
theorem law_all {P : Program} {w : World} {K : PySem.W.Frag} {mg : Str → Option Value} {base : Heap} {f : Addr} {fd : FuncData} (T : Txt mg) (N : Nums mg) (R : NumR mg) (D : Defs K mg) (F : Fun K "law" "law" (top 74) f fd) : FnOk P w K mg base CX0 12 f fd ["script"] (spLaw K) := by
  have h_is_number : FnS P w K mg base "is_number" 1 (pureSp pIsNumber) := fnS_of D.d6 (fun f fd F => ok_is_number T F) (by decide)
  have h_are_numbers : FnS P w K mg base "are_numbers" 2 (pureSp pAreNumbers) := fnS_of D.d7 (fun f fd F => ok_are_numbers T F h_is_number) (by decide)
  have h_determinant : FnS P w K mg base "determinant" 1 (pureSp pDet) := fnS_of D.d8 (fun f fd F => ok_det T F) (by decide)
  have h_solved : FnS P w K mg base "solved" 2 (pureSp pSolved) := fnS_of D.d9 (fun f fd F => ok_solved T F h_determinant) (by decide)
  have h_hangs_together : FnS P w K mg base "hangs_together" 1 (pureSp pHangs) := fnS_of D.d13 (fun f fd F => ok_hangs T F) (by decide)
  have h_is_tie : FnS P w K mg base "is_tie" 2 (pureSp pIsTie) := fnS_of D.d14 (fun f fd F => ok_is_tie T F h_is_number) (by decide)
  have h_is_web_of : FnS P w K mg base "is_web_of" 5 (pureSp pIsWebOf) := fnS_of D.d15 (fun f fd F => ok_is_web_of T N F h_is_number h_is_tie h_hangs_together) (by decide)
  have h_need_web : FnS P w K mg base "need_web" 6 (pureSp pNeedWeb) := fnS_of D.d16 (fun f fd F => ok_need_web F h_is_web_of) (by decide)
  have h_ties_by : FnS P w K mg base "ties_by" 1 (pureSp pTiesBy) := fnS_of D.d17 (fun f fd F => ok_ties_by T F) (by decide)
  have h_rings_by : FnS P w K mg base "rings_by" 1 (pureSp pRings) := fnS_of D.d18 (fun f fd F => ok_rings T F) (by decide)
  have h_table_by : FnS P w K mg base "table_by" 1 (pureSp pTableBy) := fnS_of D.d19 (fun f fd F => ok_table_by T F) (by decide)
  have h_is_heap_of : FnS P w K mg base "is_heap_of" 3 (pureSp pIsHeapOf) := fnS_of D.d21 (fun f fd F => ok_is_heap_of F h_are_numbers) (by decide)
  have h_need_heap : FnS P w K mg base "need_heap" 7 (pureSp pNeedHeap) := fnS_of D.d22 (fun f fd F => ok_need_heap F h_need_web h_is_heap_of) (by decide)
  have h_plus_by : FnS P w K mg base "plus_by" 1 (pureSp pPlusBy) := fnS_of D.d23 (fun f fd F => ok_plus_by T F) (by decide)
  have h_rounds_by : FnS P w K mg base "rounds_by" 2 (pureSp pRounds) := fnS_of D.d25 (fun f fd F => ok_rounds T F h_table_by) (by decide)
  have h_unburnt_by : FnS P w K mg base "unburnt_by" 3 (pureSp pUnburnt) := fnS_of D.d26 (fun f fd F => ok_unburnt T F h_rounds_by) (by decide)
  have h_given_by_row : FnS P w K mg base "given_by_row" 2 (pureSp pGiven) := fnS_of D.d28 (fun f fd F => ok_given T F h_table_by) (by decide)
  have h_row_of_places : FnS P w K mg base "row_of_places" 1 (pureSp pRowOf) := fnS_of D.d29 (fun f fd F => ok_row_of T F) (by decide)
  have h_without : FnS P w K mg base "without" 1 (pureSp pWithout) := fnS_of D.d31 (fun f fd F => ok_without F) (by decide)
  have h_whole_row : FnS P w K mg base "whole_row" 3 (relSp preWhole postWhole) := fnS_of D.d32 (fun f fd F => ok_whole T F h_without h_table_by h_solved) (by decide)
  have h_layers : FnS P w K mg base "layers" 2 (pureSp pLayers) := fnS_of D.d33 (fun f fd F => ok_layers T F h_table_by) (by decide)
  have h_paid_with : FnS P w K mg base "paid_with" 3 (relSp prePaid postPaid) := fnS_of D.d34 (fun f fd F => ok_paid T F h_layers h_row_of_places h_given_by_row h_plus_by) (by decide)
  have h_reduced_with : FnS P w K mg base "reduced_with" 4 (relSp preRedWith postRedWith) := fnS_of D.d35 (fun f fd F => ok_red_with T F h_whole_row h_paid_with h_given_by_row h_plus_by h_unburnt_by h_row_of_places) (by decide)
  have h_reduced_by : FnS P w K mg base "reduced_by" 5 (pureSp pReducedBy) := fnS_of D.d36 (fun f fd F => ok_red_by uniq_fit facts F h_reduced_with) (by decide)
  have h_all_by : FnS P w K mg base "all_by" 4 (pureSp pAllBy) := fnS_of D.d37 (fun f fd F => ok_all_by T F h_ties_by h_unburnt_by) (by decide)
  have h_far_by : FnS P w K mg base "far_by" 2 (pureSp pFarBy) := fnS_of D.d39 (fun f fd F => ok_farby T F h_ties_by) (by decide)
  have h_partner_by : FnS P w K mg base "partner_by" 3 (pureSp pPartnerBy) := fnS_of D.d40 (fun f fd F => ok_partby T F h_far_by) (by decide)
  have h_can_by : FnS P w K mg base "can_by" 6 (pureSp pCanBy) := fnS_of D.d42 (fun f fd F => ok_canby T F h_reduced_by) (by decide)
  have h_taken : FnS P w K mg base "taken" 1 (pureSp pTaken) := fnS_of D.d43 (fun f fd F => ok_taken T F) (by decide)
  have h_lots_of : FnS P w K mg base "lots_of" 1 (pureSp pLotsOf) := fnS_of D.d44 (fun f fd F => ok_lotsof T F) (by decide)
  have h_small_bar : FnS P w K mg base "small_bar" 7 (relSp preBar postBar) := fnS_of D.d45 (fun f fd F => ok_bar T F h_reduced_by h_lots_of h_can_by h_taken) (by decide)
  have h0_rank_by : FnS P w K mg base "rank_by" 8 (pureSp pRankLow) := fnS_of D.d46 (fun f fd F => ok_ranklow T F h_rings_by h_small_bar) (by decide)
  have h_rank_by : FnS P w K mg base "rank_by" 9 (pureSp pRankBy) := fnS_of D.d46 (fun f fd F => ok_rankby T F h_rings_by h_small_bar h_partner_by h0_rank_by) (by decide)
  have h_rank : FnS P w K mg base "rank" 10 (pureSp pRankBy) := fnS_of D.d47 (fun f fd F => ok_rank F h_need_heap h_rank_by) (by decide)
  have h_need_few_rank : FnS P w K mg base "need_few_rank" 2 (pureSp pNeedFew) := fnS_of D.d50 (fun f fd F => ok_needfew R F h_is_number) (by decide)
  have h_fewest_by : FnS P w K mg base "fewest_by" 10 (relSp preFew2 postFew2) := fnS_of D.d51 (fun f fd F => ok_fewest T F h_rings_by h_all_by h_rank_by) (by decide)
  have h_least_coins : FnS P w K mg base "least_coins" 11 (pureSp pLeast) := fnS_of D.d52 (fun f fd F => ok_least F h_need_web h_need_few_rank h_fewest_by) (by decide)
  have h_heap_of_rank : FnS P w K mg base "heap_of_rank" 11 (relSp preFew2 postHR) := fnS_of D.d53 (fun f fd F => ok_hrank F h_need_web h_need_few_rank h_fewest_by) (by decide)
  have h_is_heap_of_rank : FnS P w K mg base "is_heap_of_rank" 11 (pureSp pIHR) := fnS_of D.d54 (fun f fd F => ok_ihr T F h_need_web h_need_few_rank h_fewest_by h_is_heap_of h_rank_by) (by decide)
  have h_freed_by : FnS P w K mg base "freed_by" 6 (pureSp pFreedBy) := fnS_of D.d56 (fun f fd F => ok_freedby F h_reduced_by) (by decide)
  have h_can_be_freed : FnS P w K mg base "can_be_freed" 8 (pureSp pCanFreed) := fnS_of D.d57 (fun f fd F => ok_canfreed F h_need_heap h_freed_by) (by decide)
  have h__law_begun : FnS P w K mg base "_law_begun" 1 (spBegun K) := fnS_of D.d59 (fun f fd F => ok_begun T F) (by decide)
  have h__law_mixed : FnS P w K mg base "_law_mixed" 1 (spMixed) := fnS_of D.d60 (fun f fd F => ok_mixed T F) (by decide)
  have h__law_take : FnS P w K mg base "_law_take" 2 (blobSp RD preTake postTake) := fnS_of D.d61 (fun f fd F => take_blob (ok_take T F h__law_mixed)) (by decide)
  have h__law_shuffled : FnS P w K mg base "_law_shuffled" 3 (blobSp RD preShuf postShuf) := fnS_of D.d62 (fun f fd F => ok_shuf T F h__law_take) (by decide)
  have h__law_near_to : FnS P w K mg base "_law_near_to" 1 (pureSp pNear) := fnS_of D.d63 (fun f fd F => ok_near F) (by decide)
  have h__law_web_of : FnS P w K mg base "_law_web_of" 4 (blobSp RD preWeb postWeb) := fnS_of D.d64 (fun f fd F => ok_webof T F h__law_take h__law_shuffled) (by decide)
  have h__law_given : FnS P w K mg base "_law_given" 1 (pureSp pLGiven) := fnS_of D.d65 (fun f fd F => ok_lgiven T F) (by decide)
  have h__law_rounds : FnS P w K mg base "_law_rounds" 2 (pureSp pLRounds) := fnS_of D.d66 (fun f fd F => ok_lrounds T F h__law_near_to) (by decide)
  have h__law_unburnt : FnS P w K mg base "_law_unburnt" 3 (pureSp pLUnburnt) := fnS_of D.d67 (fun f fd F => ok_lunburnt T F h__law_rounds) (by decide)
  have h__law_many_trees : FnS P w K mg base "_law_many_trees" 2 (pureSp pTrees) := fnS_of D.d68 (fun f fd F => ok_trees T F h__law_near_to) (by decide)
  have h__law_reduced : FnS P w K mg base "_law_reduced" 4 (pureSp pLRed) := fnS_of D.d69 (fun f fd F => ok_lred_sole uniq_fit (ok_lred T F h__law_many_trees h__law_unburnt h__law_given)) (by decide)
  have h__law_can_be_freed : FnS P w K mg base "_law_can_be_freed" 5 (pureSp pLCan) := fnS_of D.d70 (fun f fd F => ok_lcan F h__law_reduced) (by decide)
  have h__law_taken : FnS P w K mg base "_law_taken" 1 (pureSp pTakenLs) := fnS_of D.d71 (fun f fd F => ok_ltakenLs T F) (by decide)
  have h__law_rings : FnS P w K mg base "_law_rings" 1 (pureSp pRings) := fnS_of D.d72 (fun f fd F => ok_lrings T F) (by decide)
  have h__law_few_heap : FnS P w K mg base "_law_few_heap" 3 (blobSp RD preFew postFew) := fnS_of D.d73 (fun f fd F => ok_few T F h__law_take) (by decide)
  have key : ∀ ns : List Int, ns.length ≤ 63 → FnOk P w K mg base CX0 12 f fd ["script"] (blobSp (RS K ns) preNone postTrue) := fun ns hns => ok_law T ns hns F h__law_begun h__law_web_of h__law_take h__law_few_heap h__law_rings h_rank h_heap_of_rank h_least_coins h_is_heap_of_rank h_can_be_freed h__law_can_be_freed h__law_taken
  exact ⟨fun vs H Q E ⟨ns, hns, h⟩ => (key ns hns).len vs H Q E h, fun A outer s H args us vs Q E hr he hb hv hs => let ⟨ns, hns, h⟩ := hs; (key ns hns).run A outer s H args us vs Q E hr he hb hv h⟩
/-- the script's own promise -/
theorem spLaw_of {K : PySem.W.Frag} {H : Hp} {a : Addr} {ns : List Int} {E : XK} (hl : ns.length ≤ 63) (ho : Only H) (h : SqL K H a (ns.map V.int)) : spLaw K [.ref a] H (fun v _ => v = .bl true) E := by
  obtain ⟨os, hR, hc⟩ := RS.of ho h
  refine ⟨ns, hl, fun _ => none, .ref a, [], [], os, rfl, (fun b u e => nomatch (e : (none : Option HO) = some u)), .nil, rfl, hR, fun c m => ⟨hc c m, rfl⟩, fun r v G' H' cs' hp _ _ _ _ hd _ _ => ?_⟩
  cases hp
  cases hd
  rfl
end K79
set_option maxHeartbeats 0
namespace K79
open PySem PySem.Spec PyProof.Rows L2 Evl Lf
theorem fun_of {K : PySem.W.Frag} {x : Str} {i : Nat} {f : Addr} {fd : FuncData} (F : FunD K x x (defArgs (top i)) (defBody (top i)) (defScope (top i)) [] [] f fd) : Fun K x x (top i) f fd := by
  obtain ⟨⟨oc, od, dV, kV, doc, pm, an, cdv, ct, osl, rfl, lk, hcd, hD, hK⟩, kp⟩ := F
  rcases hD with ⟨_, rfl⟩ | ⟨e, _⟩
  · exact ⟨⟨oc, od, kV, doc, pm, an, cdv, ct, osl, rfl, lk, hcd⟩, kp⟩
  · exact absurd rfl e
theorem at_of {K : PySem.W.Frag} {h : Heap} {mg : Str → Option Value} {ps : List Str} (X : K.In h) (G : h.Ns mainGlobals mg) (c : He.SaysD faA fnA K) (n : Nat) (x : Str) (i : Nat) (hd : fnA[n]? = some (dd x i)) (hf : faA[n]? = some (.glo x))
    (hb : ∀ (f : Addr) (fd : FuncData), Fun K x x (top i) f fd → Binds K fd ps []) : DefAt K mg x i ps := by
  obtain ⟨fd, F⟩ := c.def_ n hd
  have F := fun_of (i := i) F
  exact ⟨_, fd, He.glo_ok X G (c.fact n hf), F.kp, hb _ _ F, F⟩
theorem facts_mg {K : PySem.W.Frag} {h : Heap} {mg : Str → Option Value} (X : K.In h) (G : h.Ns mainGlobals mg) (c : He.SaysD faA fnA K) : Txt mg ∧ Nums mg ∧ NumR mg :=
  ⟨⟨He.free_ok X G (c.fact 56 rfl), He.free_ok X G (c.fact 57 rfl), He.free_ok X G (c.fact 58 rfl), He.free_ok X G (c.fact 59 rfl), He.free_ok X G (c.fact 60 rfl), He.free_ok X G (c.fact 61 rfl), He.free_ok X G (c.fact 62 rfl), He.free_ok X G (c.fact 63 rfl), He.free_ok X G (c.fact 64 rfl), He.free_ok X G (c.fact 65 rfl), He.free_ok X G (c.fact 66 rfl), He.free_ok X G (c.fact 67 rfl), He.free_ok X G (c.fact 68 rfl), He.free_ok X G (c.fact 69 rfl), He.free_ok X G (c.fact 70 rfl), He.free_ok X G (c.fact 71 rfl)⟩, ⟨He.int_ok X G (c.fact 72 rfl), He.int_ok X G (c.fact 73 rfl)⟩, ⟨He.int_ok X G (c.fact 74 rfl)⟩⟩
theorem defs_mg {K : PySem.W.Frag} {h : Heap} {mg : Str → Option Value} (X : K.In h) (G : h.Ns mainGlobals mg) (c : He.SaysD faA fnA K) : Defs K mg :=
  ⟨at_of X G c 0 "is_number" 6 rfl rfl fun f fd F => F.binds fun _ _ _ _ _ _ us hl => match us, hl with | [_], _ => rfl,
    at_of X G c 1 "are_numbers" 7 rfl rfl fun f fd F => F.binds fun _ _ _ _ _ _ us hl => match us, hl with | [_, _], _ => rfl,
    at_of X G c 2 "determinant" 8 rfl rfl fun f fd F => F.binds fun _ _ _ _ _ _ us hl => match us, hl with | [_], _ => rfl,
    at_of X G c 3 "solved" 9 rfl rfl fun f fd F => F.binds fun _ _ _ _ _ _ us hl => match us, hl with | [_, _], _ => rfl,
    at_of X G c 4 "hangs_together" 13 rfl rfl fun f fd F => F.binds fun _ _ _ _ _ _ us hl => match us, hl with | [_, _], _ => rfl,
    at_of X G c 5 "is_tie" 14 rfl rfl fun f fd F => F.binds fun _ _ _ _ _ _ us hl => match us, hl with | [_, _], _ => rfl,
    at_of X G c 6 "is_web_of" 15 rfl rfl fun f fd F => F.binds fun _ _ _ _ _ _ us hl => match us, hl with | [_], _ => rfl,
    at_of X G c 7 "need_web" 16 rfl rfl fun f fd F => F.binds fun _ _ _ _ _ _ us hl => match us, hl with | [_], _ => rfl,
    at_of X G c 8 "ties_by" 17 rfl rfl fun f fd F => F.binds fun _ _ _ _ _ _ us hl => match us, hl with | [_, _], _ => rfl,
    at_of X G c 9 "rings_by" 18 rfl rfl fun f fd F => F.binds fun _ _ _ _ _ _ us hl => match us, hl with | [_], _ => rfl,
    at_of X G c 10 "table_by" 19 rfl rfl fun f fd F => F.binds fun _ _ _ _ _ _ us hl => match us, hl with | [_], _ => rfl,
    at_of X G c 11 "is_heap_of" 21 rfl rfl fun f fd F => F.binds fun _ _ _ _ _ _ us hl => match us, hl with | [_, _], _ => rfl,
    at_of X G c 12 "need_heap" 22 rfl rfl fun f fd F => F.binds fun _ _ _ _ _ _ us hl => match us, hl with | [_, _], _ => rfl,
    at_of X G c 13 "plus_by" 23 rfl rfl fun f fd F => F.binds fun _ _ _ _ _ _ us hl => match us, hl with | [_, _, _], _ => rfl,
    at_of X G c 14 "rounds_by" 25 rfl rfl fun f fd F => F.binds fun _ _ _ _ _ _ us hl => match us, hl with | [_, _, _], _ => rfl,
    at_of X G c 15 "unburnt_by" 26 rfl rfl fun f fd F => F.binds fun _ _ _ _ _ _ us hl => match us, hl with | [_, _, _], _ => rfl,
    at_of X G c 16 "given_by_row" 28 rfl rfl fun f fd F => F.binds fun _ _ _ _ _ _ us hl => match us, hl with | [_, _, _], _ => rfl,
    at_of X G c 17 "row_of_places" 29 rfl rfl fun f fd F => F.binds fun _ _ _ _ _ _ us hl => match us, hl with | [_, _], _ => rfl,
    at_of X G c 18 "without" 31 rfl rfl fun f fd F => F.binds fun _ _ _ _ _ _ us hl => match us, hl with | [_, _], _ => rfl,
    at_of X G c 19 "whole_row" 32 rfl rfl fun f fd F => F.binds fun _ _ _ _ _ _ us hl => match us, hl with | [_, _, _], _ => rfl,
    at_of X G c 20 "layers" 33 rfl rfl fun f fd F => F.binds fun _ _ _ _ _ _ us hl => match us, hl with | [_, _], _ => rfl,
    at_of X G c 21 "paid_with" 34 rfl rfl fun f fd F => F.binds fun _ _ _ _ _ _ us hl => match us, hl with | [_, _, _], _ => rfl,
    at_of X G c 22 "reduced_with" 35 rfl rfl fun f fd F => F.binds fun _ _ _ _ _ _ us hl => match us, hl with | [_, _, _], _ => rfl,
    at_of X G c 23 "reduced_by" 36 rfl rfl fun f fd F => F.binds fun _ _ _ _ _ _ us hl => match us, hl with | [_, _, _], _ => rfl,
    at_of X G c 24 "all_by" 37 rfl rfl fun f fd F => F.binds fun _ _ _ _ _ _ us hl => match us, hl with | [_, _, _], _ => rfl,
    at_of X G c 25 "far_by" 39 rfl rfl fun f fd F => F.binds fun _ _ _ _ _ _ us hl => match us, hl with | [_], _ => rfl,
    at_of X G c 26 "partner_by" 40 rfl rfl fun f fd F => F.binds fun _ _ _ _ _ _ us hl => match us, hl with | [_, _], _ => rfl,
    at_of X G c 27 "can_by" 42 rfl rfl fun f fd F => F.binds fun _ _ _ _ _ _ us hl => match us, hl with | [_, _], _ => rfl,
    at_of X G c 28 "taken" 43 rfl rfl fun f fd F => F.binds fun _ _ _ _ _ _ us hl => match us, hl with | [_, _], _ => rfl,
    at_of X G c 29 "lots_of" 44 rfl rfl fun f fd F => F.binds fun _ _ _ _ _ _ us hl => match us, hl with | [_, _], _ => rfl,
    at_of X G c 30 "small_bar" 45 rfl rfl fun f fd F => F.binds fun _ _ _ _ _ _ us hl => match us, hl with | [_, _], _ => rfl,
    at_of X G c 31 "rank_by" 46 rfl rfl fun f fd F => F.binds fun _ _ _ _ _ _ us hl => match us, hl with | [_, _], _ => rfl,
    at_of X G c 32 "rank" 47 rfl rfl fun f fd F => F.binds fun _ _ _ _ _ _ us hl => match us, hl with | [_, _], _ => rfl,
    at_of X G c 33 "need_few_rank" 50 rfl rfl fun f fd F => F.binds fun _ _ _ _ _ _ us hl => match us, hl with | [_], _ => rfl,
    at_of X G c 34 "fewest_by" 51 rfl rfl fun f fd F => F.binds fun _ _ _ _ _ _ us hl => match us, hl with | [_, _], _ => rfl,
    at_of X G c 35 "least_coins" 52 rfl rfl fun f fd F => F.binds fun _ _ _ _ _ _ us hl => match us, hl with | [_, _], _ => rfl,
    at_of X G c 36 "heap_of_rank" 53 rfl rfl fun f fd F => F.binds fun _ _ _ _ _ _ us hl => match us, hl with | [_, _], _ => rfl,
    at_of X G c 37 "is_heap_of_rank" 54 rfl rfl fun f fd F => F.binds fun _ _ _ _ _ _ us hl => match us, hl with | [_, _, _], _ => rfl,
    at_of X G c 38 "freed_by" 56 rfl rfl fun f fd F => F.binds fun _ _ _ _ _ _ us hl => match us, hl with | [_, _], _ => rfl,
    at_of X G c 39 "can_be_freed" 57 rfl rfl fun f fd F => F.binds fun _ _ _ _ _ _ us hl => match us, hl with | [_, _], _ => rfl,
    at_of X G c 40 "_law_begun" 59 rfl rfl fun f fd F => F.binds fun _ _ _ _ _ _ us hl => match us, hl with | [_], _ => rfl,
    at_of X G c 41 "_law_mixed" 60 rfl rfl fun f fd F => F.binds fun _ _ _ _ _ _ us hl => match us, hl with | [_], _ => rfl,
    at_of X G c 42 "_law_take" 61 rfl rfl fun f fd F => F.binds fun _ _ _ _ _ _ us hl => match us, hl with | [_, _], _ => rfl,
    at_of X G c 43 "_law_shuffled" 62 rfl rfl fun f fd F => F.binds fun _ _ _ _ _ _ us hl => match us, hl with | [_, _], _ => rfl,
    at_of X G c 44 "_law_near_to" 63 rfl rfl fun f fd F => F.binds fun _ _ _ _ _ _ us hl => match us, hl with | [_, _], _ => rfl,
    at_of X G c 45 "_law_web_of" 64 rfl rfl fun f fd F => F.binds fun _ _ _ _ _ _ us hl => match us, hl with | [_, _, _], _ => rfl,
    at_of X G c 46 "_law_given" 65 rfl rfl fun f fd F => F.binds fun _ _ _ _ _ _ us hl => match us, hl with | [_, _, _], _ => rfl,
    at_of X G c 47 "_law_rounds" 66 rfl rfl fun f fd F => F.binds fun _ _ _ _ _ _ us hl => match us, hl with | [_, _, _], _ => rfl,
    at_of X G c 48 "_law_unburnt" 67 rfl rfl fun f fd F => F.binds fun _ _ _ _ _ _ us hl => match us, hl with | [_, _, _], _ => rfl,
    at_of X G c 49 "_law_many_trees" 68 rfl rfl fun f fd F => F.binds fun _ _ _ _ _ _ us hl => match us, hl with | [_], _ => rfl,
    at_of X G c 50 "_law_reduced" 69 rfl rfl fun f fd F => F.binds fun _ _ _ _ _ _ us hl => match us, hl with | [_, _, _], _ => rfl,
    at_of X G c 51 "_law_can_be_freed" 70 rfl rfl fun f fd F => F.binds fun _ _ _ _ _ _ us hl => match us, hl with | [_, _], _ => rfl,
    at_of X G c 52 "_law_taken" 71 rfl rfl fun f fd F => F.binds fun _ _ _ _ _ _ us hl => match us, hl with | [_, _], _ => rfl,
    at_of X G c 53 "_law_rings" 72 rfl rfl fun f fd F => F.binds fun _ _ _ _ _ _ us hl => match us, hl with | [_], _ => rfl,
    at_of X G c 54 "_law_few_heap" 73 rfl rfl fun f fd F => F.binds fun _ _ _ _ _ _ us hl => match us, hl with | [_, _, _], _ => rfl⟩
theorem facts_law {P : Program} {w : World} {K : PySem.W.Frag} {h : Heap} {mg : Str → Option Value} {f : Addr} (X : K.In h) (G : h.Ns mainGlobals mg) (hfa : mg ("law" : Str) = some (.ref f)) (c : He.SaysD faA fnA K) :
    ∃ fd : FuncData, (∀ (s : Shared) (v : Value), BindsTo s fd ⟨[v], []⟩ [("script", v)]) ∧ ∀ base : Heap, K.In base → base.Ns mainGlobals mg → FnOk P w K mg base CX0 12 f fd ["script"] (spLaw K) := by
  obtain ⟨fd, F⟩ := c.def_ 55 (d := dd "law" 74) rfl
  have e := hfa.symm.trans (He.glo_ok X G (c.fact 55 (f := .glo "law") rfl))
  cases e
  have b := FunD.bindsA (ps := ["script"]) F fun _ _ _ _ _ _ us hl => match us, hl with | [_], _ => rfl
  obtain ⟨T, N, R⟩ := facts_mg X G c
  exact ⟨fd, fun s v => b s [v] rfl, fun base _ _ => law_all T N R (defs_mg X G c) (fun_of F)⟩
end K79
open PySem PySem.W PySem.Calls PyProof.Rows
theorem PySem.Challenge.cw_coinsonwebs_k72_across_least_coins_and_r_holds : PySem.Challenge.rw_coinsonwebs_k72_across_least_coins_and_r.Holds := by
  w_on; o_law
  refine HandSHeadRun.head_any (r := OpenLaw.row PySem.Challenge.rw_coinsonwebs_k72_across_least_coins_and_r) (q := view (OpenLaw.row PySem.Challenge.rw_coinsonwebs_k72_across_least_coins_and_r).prog [74]) (H := K79.hk) (ob := K79.ob) (M := 4000) (loose := K79.loA) (d := HandSHeadRun.topDef (OpenLaw.row PySem.Challenge.rw_coinsonwebs_k72_across_least_coins_and_r).prog 74) (kwd := []) K79.ob_eq
    (by kernel_rfl) (fun s => by kernel_rfl) K79.run (by kernel_rfl) (by kernel_rfl) (by kernel_rfl) (by rfl) (by first | assumption | decide +kernel) (by decide +kernel) ⟨rfl, rfl, rfl, rfl, rfl, by decide +kernel⟩ ?hw ?hc
  case hw => w_witness2
  case hc =>
    refine L2.walk_ofE (l := PySem.Challenge.rw_coinsonwebs_k72_across_least_coins_and_r) (n := 63) (k := 12) (x := "script") (CX := L2.CX0) rfl (by decide) (by kernel_rfl) ⟨rfl, by decide, by decide⟩ ?F (fun _ _ _ _ z => z)
    intro w mg fa h Y G hmg0
    obtain ⟨K, KX, c⟩ := Y
    have hmg : mg ("law" : PySem.Str) = some (.ref fa) := by
      have e : (HandSHeadRun.topDef (OpenLaw.row PySem.Challenge.rw_coinsonwebs_k72_across_least_coins_and_r).prog 74).name = ("law" : PySem.Str) := by kernel_rfl
      rw [← e]
      exact hmg0
    obtain ⟨fd, hb, hF⟩ := K79.facts_law (P := (PySem.Challenge.rw_coinsonwebs_k72_across_least_coins_and_r).prog) (w := w) KX G hmg c
    exact ⟨K, fd, K79.spLaw K, KX, hb, fun H a ns hl ho hS => K79.spLaw_of hl ho hS, hF⟩
