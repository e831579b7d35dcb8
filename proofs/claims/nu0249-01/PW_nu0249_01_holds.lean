import PyProof.Rows.All
import Wide.All
import OpenK.AllK
import Wide.FinOn
import Lean
import PySem.Challenge.RW_nu0249_01
open Or renaming elim → Qa
open PySem.Heap renaming get?_push_of_some → Qb, get?_push_size → Qc, get?_none_of_le → Qf, lt_size → Qi, get?_update_self → Qj, get?_update_other → Qk
open Option renaming casesOn → Qd
open PySem renaming mem_of_lookup → Qe
open List renaming range → Qg, casesOn → Qh
open Bool renaming casesOn → Ql
open Option.some renaming inj → Qm
open PySem.Obj renaming mapFields → Qn
open PySem renaming wpAny_bind → jk9, wpAny_pure → jv5, wpAny_holding → kx6, wpAny_mono → kx7, wpAny_newObj_type → kj5, wpAny_loadPart_at → kj6, wpAny_loadName_local → kj9, codeAny_of_tree → kk0, wpAny_setField → kv1, wpAny_call_entry → kv6, wpAny_standAt → kv7, wpAny_field → kw1, codeAny_builtin → kw4, wpAny_items_cons → lq1, wpAny_askSetting → lq2, wpAny_items_nil → lq3, wpAny_setState_of → lq5, wpAny_load → lx1, wpAny_call → lx2, wpAny_Name → lx3, wpAny_isSubtype_exc → lx7, wpAny_ite_split → lx9, wpAny_typeOf → lz3, wpAny_truthy_bool → lz4, wpAny_loadPart → lz5, wpAny_newList → lj0, wpAny_typeNameOfWhole_keyiter → lj1, wpAny_execs_nil → lj6, wpAny_loadName_free → lj8, wpAny_execs_cons → lv6, wpAny_eqBool_int → lv7, wpAny_callSpecial?_slot → lv8, wpAny_loadPart' → lw7, wpAny_of_eq → mq3, wpAny_noted → mq4, codeAny_call_builtin → mq5, wpAny_Constant_none → mx0, wpAny_rule → mx6, wpAny_Constant_str → mx7, wpAny_pyIter_slot → mz3, wpAny_pyIter_list → mz4, wpAny_mkText → mz5, wpAny_Return_some → mz6, codeAny_mono → mz7, wpAny_updatePart → mj2, wpAny_lookBehind → mj3, wpAny_isInstance → mj4, wpAny_updateSeq → mk0, wpAny_ite_false → mk1, wpAny_newTuple → mk5, wpAny_attempt → mv1, wpAny_list_append_plain → mw1, wpAny_storeName_local → nq4, wpAny_notOrdered_dict → nq5, wpAny_isOneOf_keyiter → nq6, wpAny_newFunctionEnv → nx7, wpAny_alloc → nx8, wpAny_setEntries_of → nz6
open List renaming mem_cons_self → jv0, length_map → jv1, mem_cons_of_mem → jv3, mem_singleton → jv4, mem_cons → jv6, mem_append_right → jv7, mem_append_left → jv8, mem_map → jv9, getElem?_eq_getElem → jw0, mem_append → jw1, mem_map_of_mem → jw3, map_map → jw5, getElem?_map → jw7, length_append → jw8, map_append → kq0, lookup_cons → kq2, all_eq_true → kq3, append_nil → kq4, filterMap_cons → kq5, nodup_cons → kq6, not_mem_nil → kq8, nodup_append → kq9, map_cons → kx1, filterMap_eq_map' → kx5, mem_range → kx9, mem_of_getElem? → kz2, getElem?_eq_none → kz3, set_set → kz4, mem_singleton_self → kz6, length_range → kz9, mem_filter → kj0, cons_ne_nil → kj1, length_eq_zero_iff → kj4, getElem?_eq_some_iff → kk3, append_assoc → kk4, range_succ → kk6, nodup_nil → kk9, mem_of_find?_eq_some → kv2, length_filter_le → kv3, pairwise_cons → kv4, pairwise_map → kv8, getElem?_cons_succ → kv9, find?_cons → kw0, take_of_length_le → kw3, getElem_mem → kw6, mem_filterMap → lq0, getD_eq_getElem?_getD → lq4, length_cons → lq6, pairwise_iff_getElem → lq9, getElem_of_mem → lx0, size_toArray → lz0, filter_eq_nil_iff → lz1, map_congr_left → lz9, map_filterMap → lj4, filter_append → lj5, getElem?_eq_none_iff → lj9, getElem?_append_left → lk0, flatMap_cons → lk2, length_erase_of_mem → lk5, pairwise_singleton → lk7, nil_append → lv1, find?_some → lv2, length_dropLast → lw0, length_take_le → lw8, lookup_append → mq1, length_zipIdx → mq2, findIdx?_eq_some_iff_getElem → mq7, map_dropLast → mq8, findIdx_lt_length_of_exists → mq9, mk_mem_zipIdx_iff_getElem? → mx2, forIn_cons → mx8, countP_eq_length_filter → mx9, length_eraseIdx_of_lt → mz9, getElem?_append_right → mj0, findIdx?_eq_none_iff → mj6, length_filterMap_le → mj7, any_cons → mj8, all_cons → mj9, sum_replicate_nat → mk2, pairwise_lt_range → mk3, drop_of_length_le → mk4, perm_append_comm → mk7, mem_of_mem_erase → mk8, length_pos_iff → mv5, length_flatMap → mv6, getElem?_range → mv7, flatMap_append → mv8, zipIdx_append → mw4, range_sublist → mw5, find?_eq_none → mw6, filterMap_map → mw7, reverse_cons → mw8, mem_of_head? → mw9, getLast_cons → nq0, ext_getElem? → nq1, nodup_range → nq8, mem_flatMap → nq9, map_fst_zip → nx0, map_flatMap → nx1, length_take → nx2, filter_cons → nx3, drop_length → nx4, cons_append → nx5, any_eq_true → nx6, of_mem_zip → nz2, map_const' → nz3, drop_zero → nz9
open Nat renaming le_of_ble_eq_true → jv2, le_refl → jw4, le_trans → jw9, le_antisymm → kq1, zero_le → kx0, succ_pos → kx3, le_of_not_gt → kx8, ne_of_lt → kz1, le_add_right → kz8, ne_of_gt → kj2, le_of_eq → kj3, sub_le → kj7, lt_of_le_of_lt → kj8, lt_succ_self → kv5, succ_ne_zero → kw7, lt_of_lt_of_le → kw8, add_le_add_left → kw9, lt_or_ge → lq7, le_of_lt → lq8, le_of_lt_succ → lz2, le_succ → lz6, not_lt_zero → lz8, lt_trans → lj2, lt_of_le_of_ne → lj7, lt_irrefl → lk6, succ_le_succ → lk9, lt_of_not_ge → lv0, le_sub_one_of_lt → lw2, add_le_add_right → lw3, sub_lt_sub_left → lw9, mod_lt → mq6, zero_add → mx1, mul_le_mul → mj5, lt_of_succ_lt_succ → mk6, sub_lt_sub_right → mv2, mul_le_mul_right → mv3, add_lt_of_lt_sub → mv4, sub_one_add_one → mw2, mul_le_mul_left → mw3, lt_succ_of_le → nq7, not_lt_of_ge → nx9, min_eq_right → nz0, le_of_not_lt → nz1, min_eq_left → nz7, le_add_left → nz8
open Array renaming length_toList → jw2, getElem?_toList → kq7, getElem?_eq_getElem → kx4, getElem?_eq_some_iff → kz5, getElem?_eq_none → kw2, toList_append → lz7, perm_iff_toList_perm → lj3, toList_push → lk1, toArray_toList → lv9, getD_eq_getD_getElem? → mz2, toList_inj → nq2, any_toList → nq3
open Bool renaming and_eq_true_iff → jw6, and_eq_true → kz7, false_eq_true → kk7, false_or → lx4, not_eq_false' → lx5, false_ne_true → lx6, not_eq_true' → lk3, not_eq_true → lk8, eq_iff_iff → lv5, false_and → lw1, not_true → mq0, not_false → mj1, and_false → nj2
open Int renaming natCast_nonneg → kx2, lt_of_le_of_lt → kk8, le_trans → kv0, zero_add → kw5, not_lt → lx8, lt_trans → lv3, add_zero → lv4, sub_nonneg_of_le → lw4, one_mul → lw5, add_nonneg → lw6, toNat_natCast → mx3, ofNat_le → mx4, mul_zero → mx5, mul_one → mz0, le_refl → mz1, le_antisymm → mz8, zero_mul → mk9, ne_of_lt → mv0, sub_nonpos_of_le → mv9, le_of_sub_nonneg → mw0, max_eq_right → nz4, le_max_right → nz5, natCast_mul → nj0, max_eq_left → nj1
open Option renaming map_eq_some_iff → kz0, isSome_iff_exists → kk5, bind_eq_some_iff → lk4
noncomputable section
section
set_option Elab.async false
set_option tactic.hygienic false
set_option bootstrap.genMatcherCode false
set_option backward.match.sparseCases false
set_option linter.unusedVariables false
namespace Mine
section
theorem tT:true=true:=rfl
@[elab_as_elim] theorem a5 {α:Sort u} {a b:α} {P:α→Prop} (h:a=b) (m:P b):P a:=h▸m
@[elab_as_elim] theorem p8 {α:Sort u} {a b:α} {P:α→Prop} (h:b=a) (m:P b):P a:=h▸m
theorem ul {a b c:Nat} (h:a≤b) (k:Nat.ble b c=true):a≤c:=jw9 h (jv2 k)
noncomputable abbrev Q9:=Nat.Internal.Linear.Expr
noncomputable def zA:Q9:=.var 0
noncomputable def zB:Q9:=.var 1
noncomputable def zC:Q9:=.var 2
noncomputable def zD:Q9:=.var 3
noncomputable def nA:Q9:=.num 1
noncomputable def atN {α:Type} (z:α) (c:List α):Nat→α:=c.rec (fun _=>z) fun x _ r i=>i.rec x fun j _=>r j
noncomputable def lA {α:Type} (f:Nat→α) (g:Nat→α) (p m:α→α→α) (t:Q9):α:=t.rec g f (fun _ _ x y=>p x y) (fun k _ x=>m (g k) x) (fun _ k x=>m x (g k))
noncomputable def dn (c:List Nat) (t:Q9):Nat:=t.rec (fun k=>k) (atN 0 c) (fun _ _ x y=>x+y) (fun k _ x=>k * x) fun _ k x=>x * k
noncomputable def di (c:List Int) (t:Q9):Int:=t.rec (fun k=>(k:Int)) (atN 0 c) (fun _ _ x y=>x+y) (fun k _ x=>k * x) fun _ k x=>x * k
noncomputable def R0 (k:Int) (p:List Int):List Int→List Int:=p.rec (fun q=>q.map (k * ·)) fun a p r q=>q.rec (a::p) fun b q _=>(a+k * b)::r q
noncomputable def po (t:Q9):List Int:=t.rec (fun k=>[(k:Int)]) (fun i=>0::i.rec [1] fun _ r=>0::r) (fun _ _ x y=>R0 1 x y) (fun k _ x=>R0 k [] x) fun _ k x=>R0 k [] x
noncomputable def ev (p:List Int):List Int→Int:=p.rec (fun _=>0) fun a _ r c=>c.rec 0 fun x c _=>a * x+r c
noncomputable def df (x y:Q9):List Int:=R0 (-1) (po y) (po x)
noncomputable def okN (p:List Int):Bool:=p.all fun a=>decide (0≤a)
noncomputable def okI (p:List Int):Bool:=p.rec true fun a p _=>decide (0≤a)&&p.all (· == 0)
theorem jj5 (k:Int) (q:List Int):∀ c,ev (q.map (k * ·)) c=k * ev q c:=by
 induction q with
 | nil=>exact fun c=>(mx5 k).symm
 | cons b q ih=>intro c;cases c with
  | nil=>exact (mx5 k).symm
  | cons x c=>exact (congrArg (k * b * x+·) (ih c)).trans (a5 (Int.mul_assoc ..) (Int.mul_add k (b * x) (ev q c)).symm)
theorem aq7 (k:Int) (p:List Int):∀ q c,ev (R0 k p q) c=ev p c+k * ev q c:=by
 induction p with
 | nil=>exact fun q c=>(jj5 k q c).trans (kw5 _).symm
 | cons a p ih=>intro q c;cases q with
  | nil=>exact (lv4 _).symm.trans (congrArg (ev (a::p) c+·) (mx5 k)).symm
  | cons b q=>cases c with
   | nil=>exact (congrArg (0+·) (mx5 k)).symm
   | cons x c =>
    refine (show (a+k * b) * x+ev (R0 k p q) c=a * x+ev p c+k * (b * x+ev q c) from ?_)
    rw [ih,Int.add_mul,Int.mul_add,Int.mul_assoc,Int.add_assoc,Int.add_assoc,Int.add_left_comm (k * (b * x))]
theorem vp_ev (i:Nat):∀ c,ev (i.rec [1] fun _ r=>0::r) c=atN 0 c i:=by
 induction i with
 | zero=>intro c;cases c with
  | nil=>rfl
  | cons x c=>exact (lv4 _).trans (lw5 x)
 | succ i ih=>intro c;cases c with
  | nil=>rfl
  | cons x c=>exact (congrArg (·+ev _ c) (mk9 x)).trans ((kw5 _).trans (ih c))
theorem ik2 (c:List Int) (t:Q9):ev (po t) (1::c)=di c t:=by
 induction t with
 | num k=>exact (lv4 _).trans (mz0 _)
 | var i=>exact (congrArg (·+ev _ c) (mk9 1)).trans ((kw5 _).trans (vp_ev i c))
 | add x y h1 h2=>exact (aq7 1 (po x) (po y) _).trans (a5 h1 (a5 h2 (congrArg (di c x+·) (lw5 _))))
 | mulL k x h=>exact (aq7 k [] (po x) _).trans (a5 h (kw5 _))
 | mulR x k h=>exact (aq7 k [] (po x) _).trans (a5 h ((kw5 _).trans (Int.mul_comm _ _)))
theorem iv0 (c:List Int) (x y:Q9):ev (df x y) (1::c)=di c y - di c x:=(aq7 ..).trans (a5 (ik2 ..) (a5 (ik2 ..) (a5 (Int.neg_mul ..) (a5 (lw5 _) rfl))))
theorem lnE (c:List Int) {s:List Int} (k:Nat) {x y:Q9} (h:0≤ev s (1::c)) (e:di c x≤di c y):0≤ev (R0 k s (df x y)) (1::c):=a5 (aq7 ..) (a5 (iv0 ..) (lw6 h (Int.mul_nonneg (kx2 k) (lw4 e))))
theorem lnF {c:List Int} {x y:Q9} {s:List Int} (h:0≤ev s (1::c)) (e:0≤ev (R0 (-1) (df x y) s) (1::c)):di c x≤di c y:=by
 rw [aq7,iv0,Int.neg_mul,lw5] at e
 exact mw0 (kv0 h (mw0 e))
theorem jx4 (p:List Int):∀ c:List Int,(∀ x∈c,0≤x)→okN p=true→0≤ev p c:=by
 induction p with
 | nil=>exact fun c u h=>mz1 0
 | cons a p ih=>intro c hc h;cases c with
  | nil=>exact mz1 0
  | cons x c =>
   have h:=jw6.mp h
   exact lw6 (Int.mul_nonneg (of_decide_eq_true h.1) (hc x (jv0 ..))) (ih c (fun x m=>hc x (jv3 _ m)) h.2)
theorem ix2 (p:List Int):∀ c,p.all (· == 0)=true→ev p c=0:=by
 induction p with
 | nil=>exact fun c h=>rfl
 | cons a p ih=>intro c h;cases c with
  | nil=>rfl
  | cons x c =>
   have h:=jw6.mp h
   exact a5 (show ev (a::p) (x::c)=a * x+ev p c from rfl) (a5 (ih c h.2) (a5 (eq_of_beq h.1) ((lv4 _).trans (mk9 x))))
theorem cq2 {c p:List Int} (h:okI p=true):0≤ev p (1::c):=by
 cases p with
 | nil=>exact mz1 0
 | cons a p =>
  have h:=jw6.mp h
  exact a5 (show ev (a::p) (1::c)=a * 1+ev p c from rfl) (a5 (ix2 p c h.2) (a5 (lv4 _) (a5 (mz0 a) (of_decide_eq_true h.1))))
noncomputable abbrev nc (c:List Nat):List Int:=c.map Nat.cast
theorem ij5 (c:List Nat):∀ i,((atN 0 c i:Nat):Int)=atN 0 (nc c) i:=by
 induction c with
 | nil=>exact fun i=>rfl
 | cons x c ih=>exact fun i=>by cases i with
  | zero=>rfl
  | succ i=>exact ih i
theorem ak3 (c:List Nat) (t:Q9):((dn c t:Nat):Int)=di (nc c) t:=by
 induction t with
 | num k=>rfl
 | var i=>exact ij5 c i
 | add x y h1 h2=>exact (Int.natCast_add (dn c x) (dn c y)).trans (a5 h1 (a5 h2 rfl))
 | mulL k x h=>exact (nj0 k (dn c x)).trans (a5 h rfl)
 | mulR x k h=>exact (nj0 (dn c x) k).trans (a5 h rfl)
theorem ck7 {c:List Nat} {p:List Int} (h:okN p=true):0≤ev p (1::nc c):=jx4 p _ (fun x m=>(jv6.mp m).elim (fun h=>a5 h (Int.zero_le_ofNat 1)) fun h=>(jv9.mp h).elim fun y e=>e.2▸kx2 y) h
theorem S0 {c:List Nat} {x y:Q9} (h:dn c x≤dn c y):di (nc c) x≤di (nc c) y:=p8 (ak3 ..) (p8 (ak3 ..) (mx4.mpr h))
theorem ck8 {c:List Nat} {x y:Q9} (h:di (nc c) x≤di (nc c) y):dn c x≤dn c y:=mx4.mp (a5 (ak3 ..) (a5 (ak3 ..) h))
theorem ev0 {c:List Int}:0≤ev [] c:=mz1 0
theorem sA {x y:Nat}:x≤x - y+y:=Nat.sub_le_iff_le_add.mp (jw4 _)
theorem sC {x y:Nat} (h:y≤x):x - y+y≤x:=kj3 (Nat.sub_add_cancel h)
theorem ic {a b:Nat} (h:a≤b):(a:Int)≤b:=mx4.mpr h
theorem o7 {a b:Nat} (h:a=b):a≤b:=kj3 h
theorem H6 {a b:Nat} (h:a=b):b≤a:=kj3 h.symm
theorem ln0 (c:List Nat) (x y:Q9) (h:okN (R0 (-1) (df x y) [])=true):dn c x≤dn c y:=ck8 (lnF ev0 (ck7 h))
theorem d6 (c:List Nat) (k:Nat) (a b x y:Q9) (h:okN (R0 (-1) (df x y) (R0 k [] (df a b)))=true) (e:dn c a≤dn c b):dn c x≤dn c y:=ck8 (lnF (lnE _ k ev0 (S0 e)) (ck7 h))
theorem i5 (c:List Nat) (k:Nat) (a b:Q9) (k2:Nat) (a2 b2 x y:Q9) (h:okN (R0 (-1) (df x y) (R0 k2 (R0 k [] (df a b)) (df a2 b2)))=true) (e:dn c a≤dn c b) (e2:dn c a2≤dn c b2):dn c x≤dn c y:=ck8 (lnF (lnE _ k2 (lnE _ k ev0 (S0 e)) (S0 e2)) (ck7 h))
theorem T5 (c:List Nat) (k:Nat) (a b:Q9) (k2:Nat) (a2 b2:Q9) (k3:Nat) (a3 b3 x y:Q9) (h:okN (R0 (-1) (df x y) (R0 k3 (R0 k2 (R0 k [] (df a b)) (df a2 b2)) (df a3 b3)))=true) (e:dn c a≤dn c b) (e2:dn c a2≤dn c b2) (e3:dn c a3≤dn c b3):dn c x≤dn c y:=ck8 (lnF (lnE _ k3 (lnE _ k2 (lnE _ k ev0 (S0 e)) (S0 e2)) (S0 e3)) (ck7 h))
theorem ln4 (c:List Nat) (k:Nat) (a b:Q9) (k2:Nat) (a2 b2:Q9) (k3:Nat) (a3 b3:Q9) (k4:Nat) (a4 b4 x y:Q9) (h:okN (R0 (-1) (df x y) (R0 k4 (R0 k3 (R0 k2 (R0 k [] (df a b)) (df a2 b2)) (df a3 b3)) (df a4 b4)))=true) (e:dn c a≤dn c b) (e2:dn c a2≤dn c b2) (e3:dn c a3≤dn c b3) (e4:dn c a4≤dn c b4):dn c x≤dn c y:=ck8 (lnF (lnE _ k4 (lnE _ k3 (lnE _ k2 (lnE _ k ev0 (S0 e)) (S0 e2)) (S0 e3)) (S0 e4)) (ck7 h))
theorem li0 (c:List Int) (x y:Q9) (h:okI (R0 (-1) (df x y) [])=true):di c x≤di c y:=lnF ev0 (cq2 h)
theorem F0 (c:List Int) (k:Nat) (a b x y:Q9) (h:okI (R0 (-1) (df x y) (R0 k [] (df a b)))=true) (e:di c a≤di c b):di c x≤di c y:=lnF (lnE _ k ev0 e) (cq2 h)
theorem li2 (c:List Int) (k:Nat) (a b:Q9) (k2:Nat) (a2 b2 x y:Q9) (h:okI (R0 (-1) (df x y) (R0 k2 (R0 k [] (df a b)) (df a2 b2)))=true) (e:di c a≤di c b) (e2:di c a2≤di c b2):di c x≤di c y:=lnF (lnE _ k2 (lnE _ k ev0 e) e2) (cq2 h)
theorem li3 (c:List Int) (k:Nat) (a b:Q9) (k2:Nat) (a2 b2:Q9) (k3:Nat) (a3 b3 x y:Q9) (h:okI (R0 (-1) (df x y) (R0 k3 (R0 k2 (R0 k [] (df a b)) (df a2 b2)) (df a3 b3)))=true) (e:di c a≤di c b) (e2:di c a2≤di c b2) (e3:di c a3≤di c b3):di c x≤di c y:=lnF (lnE _ k3 (lnE _ k2 (lnE _ k ev0 e) e2) e3) (cq2 h)
end
end Mine
end
section
open PySem PySem.W PyProof.Rows
set_option Elab.async false
set_option tactic.hygienic false
set_option bootstrap.genMatcherCode false
set_option backward.match.sparseCases false
set_option genSizeOf false
set_option genInjectivity false
set_option maxRecDepth 1000000
set_option maxHeartbeats 0
namespace Mine
theorem nn {α:Type} {a:α} {p:Prop} (h:none=some a):p:=nomatch h
theorem ns {α:Type} {a:α} {p:Prop} (h:some a=none):p:=nomatch h
theorem nb {p:Prop} (h:false=true):p:=nomatch h
theorem nt {p:Prop} (h:true=false):p:=nomatch h
theorem oE {α0:Sort u0} {P1:α0→Prop} {G:Prop} (h:∃ x0,P1 x0) (k:∀ x0,P1 x0→G):G:=by rcases h with ⟨x0,h1⟩;exact k x0 h1
theorem oA  {P0:Prop} {P1:Prop} {G:Prop} (h:P0∧P1) (k:P0→P1→G):G:=by rcases h with ⟨h0,h1⟩;exact k h0 h1
theorem c9 {α0:Sort u0} {P1:α0→Prop} {P2:α0→Prop} {G:Prop} (h:∃ x0,P1 x0∧P2 x0) (k:∀ x0,P1 x0→P2 x0→G):G:=by rcases h with ⟨x0,h1,h2⟩;exact k x0 h1 h2
theorem J7  {P0:Prop} {P1:Prop} {P2:Prop} {G:Prop} (h:P0∧P1∧P2) (k:P0→P1→P2→G):G:=by rcases h with ⟨h0,h1,h2⟩;exact k h0 h1 h2
theorem oEE {α0:Sort u0} {α1:Sort u1} {P2:α0→α1→Prop} {G:Prop} (h:∃ x0,∃ x1,P2 x0 x1) (k:∀ x0,∀ x1,P2 x0 x1→G):G:=by rcases h with ⟨x0,x1,h2⟩;exact k x0 x1 h2
theorem V7 {α1:Sort u1} {P0:Prop} {P2:α1→Prop} {G:Prop} (h:P0∧∃ x1,P2 x1) (k:P0→∀ x1,P2 x1→G):G:=by rcases h with ⟨h0,x1,h2⟩;exact k h0 x1 h2
theorem o9 {α0:Sort u0} {P1:α0→Prop} {P2:α0→Prop} {P3:α0→Prop} {G:Prop} (h:∃ x0,P1 x0∧P2 x0∧P3 x0) (k:∀ x0,P1 x0→P2 x0→P3 x0→G):G:=by rcases h with ⟨x0,h1,h2,h3⟩;exact k x0 h1 h2 h3
theorem y9 {α0:Sort u0} {α1:Sort u1} {P2:α0→α1→Prop} {P3:α0→α1→Prop} {G:Prop} (h:∃ x0,∃ x1,P2 x0 x1∧P3 x0 x1) (k:∀ x0,∀ x1,P2 x0 x1→P3 x0 x1→G):G:=by rcases h with ⟨x0,x1,h2,h3⟩;exact k x0 x1 h2 h3
theorem G9  {P0:Prop} {P1:Prop} {P2:Prop} {P3:Prop} {G:Prop} (h:P0∧P1∧P2∧P3) (k:P0→P1→P2→P3→G):G:=by rcases h with ⟨h0,h1,h2,h3⟩;exact k h0 h1 h2 h3
theorem ck6 {α0:Sort u0} {α1:Sort u1} {α2:Sort u2} {P3:α0→α1→α2→Prop} {G:Prop} (h:∃ x0,∃ x1,∃ x2,P3 x0 x1 x2) (k:∀ x0,∀ x1,∀ x2,P3 x0 x1 x2→G):G:=by rcases h with ⟨x0,x1,x2,h3⟩;exact k x0 x1 x2 h3
theorem o4 {α0:Sort u0} {P1:α0→Prop} {P2:α0→Prop} {P3:α0→Prop} {P4:α0→Prop} {G:Prop} (h:∃ x0,P1 x0∧P2 x0∧P3 x0∧P4 x0) (k:∀ x0,P1 x0→P2 x0→P3 x0→P4 x0→G):G:=by rcases h with ⟨x0,h1,h2,h3,h4⟩;exact k x0 h1 h2 h3 h4
theorem a8 {α0:Sort u0} {α1:Sort u1} {P2:α0→α1→Prop} {P3:α0→α1→Prop} {P4:α0→α1→Prop} {G:Prop} (h:∃ x0,∃ x1,P2 x0 x1∧P3 x0 x1∧P4 x0 x1) (k:∀ x0,∀ x1,P2 x0 x1→P3 x0 x1→P4 x0 x1→G):G:=by rcases h with ⟨x0,x1,h2,h3,h4⟩;exact k x0 x1 h2 h3 h4
theorem w5 {α0:Sort u0} {α1:Sort u1} {α2:Sort u2} {P3:α0→α1→α2→Prop} {P4:α0→α1→α2→Prop} {G:Prop} (h:∃ x0,∃ x1,∃ x2,P3 x0 x1 x2∧P4 x0 x1 x2) (k:∀ x0,∀ x1,∀ x2,P3 x0 x1 x2→P4 x0 x1 x2→G):G:=by rcases h with ⟨x0,x1,x2,h3,h4⟩;exact k x0 x1 x2 h3 h4
theorem w6  {P0:Prop} {P1:Prop} {P2:Prop} {P3:Prop} {P4:Prop} {G:Prop} (h:P0∧P1∧P2∧P3∧P4) (k:P0→P1→P2→P3→P4→G):G:=by rcases h with ⟨h0,h1,h2,h3,h4⟩;exact k h0 h1 h2 h3 h4
theorem k8 {α0:Sort u0} {α1:Sort u1} {α2:Sort u2} {α3:Sort u3} {P4:α0→α1→α2→α3→Prop} {G:Prop} (h:∃ x0,∃ x1,∃ x2,∃ x3,P4 x0 x1 x2 x3) (k:∀ x0,∀ x1,∀ x2,∀ x3,P4 x0 x1 x2 x3→G):G:=by rcases h with ⟨x0,x1,x2,x3,h4⟩;exact k x0 x1 x2 x3 h4
noncomputable abbrev PW:Program:=PySem.Challenge.pw_nu0249_01
noncomputable def j4 (i:Nat):Option Stmt:=PW.main.body[i]?
noncomputable def j9 (i j:Nat):Option Stmt:=match j4 i with
 | some (.ClassDef _ _ _ b _ _ _ _ _ _ _)=>b[j]?
 | _=>none
noncomputable def t4 (st:Option Stmt) (qual:Str) (cl:List (Str × Addr)) (m:Value) (code:Addr) (clt:Value):Obj:=match st with
 | some (.FunctionDef name args body _ _ _ scope _ _ _)=>{ cls:=.type "function",data:=.func { name,qualname:=qual,params:=args,body:=.stmts body,scope,globals:=3,closure:=cl,defaults:=.none,kwdefaults:=.none,pyModule:=m,code:=.ref code,closureTuple:=clt } }
 | _=>default
noncomputable abbrev vr (a:Addr):Value:=.ref a
noncomputable abbrev vs (s:Str) (t:Tok):Value:=.str s t
noncomputable abbrev vi (i:Int) (t:Tok):Value:=.int i t
noncomputable abbrev vb (b:Bool):Value:=.bool b
noncomputable abbrev vt (n:String):Value:=.type n
noncomputable abbrev vB (n:String):Value:=.builtin n
noncomputable abbrev vn:Value:=.none
noncomputable abbrev sv (v:Value):Option Value:=some v
noncomputable abbrev sn:Option Value:=none
noncomputable abbrev en (k:Str) (t:Tok) (v:Value):Str × Tok × Value:=(k,t,v)
noncomputable abbrev cp (k:Str) (a:Addr):Str × Addr:=(k,a)
noncomputable abbrev ob (a:Addr) (o:Obj):Addr × Obj:=(a,o)
noncomputable def t9 (vs:List Value):Obj:={ cls:=.type "code",data:=.fields vs.toArray }
noncomputable def ceO (v:Value):Obj:={ cls:=.type "cell",data:=.cell (some v) }
noncomputable def diO (P:Params) (n:Nat) (es:List (Str × Tok × Value)):Obj:={ cls:=.type "dict",data:=.dict (es.map fun x=>(⟨PyData.keyHash P x.1,.str x.1 x.2.1,x.2.2⟩:DictEntry)).toArray n }
noncomputable def clO (name:Str) (bases mro:List Value) (ns:Addr) (sub:List Value) (sl:List (Option Value)):Obj:={ cls:=.type "type",data:=.cls { name,bases,mro,ns,qualname:=name,subclasses:=sub },slots:=sl.toArray }
noncomputable def Kf (P:Params):Frag:=[
 ob 2 ({ diO P 2 [en "type.__subclasses__.Exception.0" 230 (vi 47 0),en "type.__subclasses__.Exception.n" 231 (vi 1 0)] with cls:=.none }),
 ob 3 (diO P 45 [en "__name__" 165 (vs "law_nu0249_01" 963),en "__doc__" 166 (vn),en "__package__" 167 (vn),en "__loader__" 168 (vB "__main__.__loader__#opaque"),en "__spec__" 169 (vn),en "__annotations__" 170 (vr 6),en "__builtins__" 171 (vr 4),en "__file__" 173 (vs "/claim/cut.py" 172),en "__cached__" 174 (vn),en "_wall" 193 (vr 21),en "FinderError" 233 (vr 47),en "SpotFault" 268 (vr 76),en "KindFault" 284 (vr 88),en "ScopeFault" 300 (vr 100),en "BoundFault" 316 (vr 112),en "LimitFault" 332 (vr 124),en "set_of" 340 (vr 131),en "union" 348 (vr 138),en "minus" 354 (vr 143),en "is_within" 362 (vr 150),en "product" 368 (vr 155),en "Universe" 440 (vr 207),en "Bounds" 544 (vr 284),en "USUAL" 548 (vi 3 547),en "MOST_ATOMS" 550 (vi 500 549),en "MOST_TUPLES" 552 (vi 100000 551),en "NOWHERE" 555 (vi (-1) 554),en "Numbers" 630 (vr 331),en "Uppers" 692 (vr 371),en "Scopes" 735 (vr 402),en "ORDERING" 739 (vs "util/ordering" 738),en "Signatures" 962 (vr 571),en "_law_tape" 970 (vr 580),en "_law_draw" 979 (vr 587),en "_law_sigs" 985 (vr 592),en "_law_names" 991 (vr 597),en "_law_top" 999 (vr 604),en "_law_scope" 1012 (vr 611),en "_law_is_refused" 1018 (vr 616),en "_law_lot" 1024 (vr 621),en "_law_greatest" 1036 (vr 628),en "_law_heard" 1043 (vr 635),en "_law_bounds_right" 1049 (vr 640),en "_law_product_right" 1055 (vr 645),en "law" 1061 (vr 650)]),
 ob 20 (t9 [vs "_wall" 187,vs "_wall" 188,vs "/claim/cut.py" 189,vi 1 0,vi 1 0,vi 0 0,vi 0 0,vi 3 0,vr 15,vb true,vi 181 0,vr 16,vn,vr 17,vr 18,vr 19,vi 191 0,vi 1 0,vs "/claim/cut.py" 192]),
 ob 21 (t4 (j4 0) "_wall" [] (vs "__main__" 164) 20 (vn)),
 ob 25 (ceO (vr 47)),
 ob 36 (t9 [vs "__init__" 208,vs "FinderError.__init__" 209,vs "/claim/cut.py" 210,vi 7 0,vi 2 0,vi 0 0,vi 0 0,vi 3 0,vr 31,vb true,vi 181 0,vr 32,vn,vr 33,vr 34,vr 35,vi 214 0,vi 7 0,vs "/claim/cut.py" 215]),
 ob 37 (t4 (j9 2 0) "FinderError.__init__" [cp "__class__" 25] (vs "relfinder.errors" 194) 36 (vr 30)),
 ob 43 (t9 [vs "told" 217,vs "FinderError.told" 218,vs "/claim/cut.py" 219,vi 11 0,vi 1 0,vi 0 0,vi 0 0,vi 3 0,vr 38,vb true,vi 181 0,vr 39,vn,vr 40,vr 41,vr 42,vi 221 0,vi 11 0,vs "/claim/cut.py" 222]),
 ob 44 (t4 (j9 2 1) "FinderError.told" [] (vs "relfinder.errors" 194) 43 (vn)),
 ob 46 (diO P 4 [en "__module__" 203 (vs "relfinder.errors" 194),en "__firstlineno__" 207 (vi 5 206),en "__init__" 216 (vr 37),en "told" 223 (vr 44),en "__static_attributes__" 225 (vr 45),en "__weakref__" 228 (vr 48),en "__doc__" 229 (vn)]),
 ob 47 (clO "FinderError" [vt "Exception"] [vr 47,vt "Exception",vt "BaseException",vt "object"] 46 [vr 76,vr 112,vr 124] [sv (vr 22),sn,sv (vs "FinderError" 196),sv (vs "FinderError" 204),sv (vB "Exception.__new__"),sv (vb true)]),
 ob 54 (ceO (vr 76)),
 ob 65 (t9 [vs "__init__" 246,vs "SpotFault.__init__" 247,vs "/claim/cut.py" 248,vi 15 0,vi 3 0,vi 0 0,vi 0 0,vi 3 0,vr 60,vb true,vi 181 0,vr 61,vn,vr 62,vr 63,vr 64,vi 253 0,vi 15 0,vs "/claim/cut.py" 254]),
 ob 66 (t4 (j9 3 0) "SpotFault.__init__" [cp "__class__" 54] (vs "relfinder.errors" 194) 65 (vr 59)),
 ob 72 (t9 [vs "told" 256,vs "SpotFault.told" 257,vs "/claim/cut.py" 258,vi 19 0,vi 1 0,vi 0 0,vi 0 0,vi 3 0,vr 67,vb true,vi 181 0,vr 68,vn,vr 69,vr 70,vr 71,vi 260 0,vi 19 0,vs "/claim/cut.py" 261]),
 ob 73 (t4 (j9 3 1) "SpotFault.told" [] (vs "relfinder.errors" 194) 72 (vn)),
 ob 75 (diO P 3 [en "__module__" 241 (vs "relfinder.errors" 194),en "__firstlineno__" 245 (vi 13 244),en "__init__" 255 (vr 66),en "told" 262 (vr 73),en "__static_attributes__" 264 (vr 74),en "__doc__" 266 (vn)]),
 ob 76 (clO "SpotFault" [vr 47] [vr 76,vr 47,vt "Exception",vt "BaseException",vt "object"] 75 [vr 88,vr 100] [sv (vr 51),sn,sv (vs "SpotFault" 234),sv (vs "SpotFault" 242),sv (vB "Exception.__new__"),sv (vb true)]),
 ob 87 (diO P 2 [en "__module__" 276 (vs "relfinder.errors" 194),en "__firstlineno__" 280 (vi 21 279),en "__static_attributes__" 281 (vr 86),en "__doc__" 282 (vn)]),
 ob 88 (clO "KindFault" [vr 76] [vr 88,vr 76,vr 47,vt "Exception",vt "BaseException",vt "object"] 87 [] [sv (vr 79),sn,sv (vs "KindFault" 269),sv (vs "KindFault" 277),sv (vB "Exception.__new__"),sv (vb true)]),
 ob 99 (diO P 2 [en "__module__" 292 (vs "relfinder.errors" 194),en "__firstlineno__" 296 (vi 23 295),en "__static_attributes__" 297 (vr 98),en "__doc__" 298 (vn)]),
 ob 100 (clO "ScopeFault" [vr 76] [vr 100,vr 76,vr 47,vt "Exception",vt "BaseException",vt "object"] 99 [] [sv (vr 91),sn,sv (vs "ScopeFault" 285),sv (vs "ScopeFault" 293),sv (vB "Exception.__new__"),sv (vb true)]),
 ob 111 (diO P 2 [en "__module__" 308 (vs "relfinder.errors" 194),en "__firstlineno__" 312 (vi 25 311),en "__static_attributes__" 313 (vr 110),en "__doc__" 314 (vn)]),
 ob 112 (clO "BoundFault" [vr 47] [vr 112,vr 47,vt "Exception",vt "BaseException",vt "object"] 111 [] [sv (vr 103),sn,sv (vs "BoundFault" 301),sv (vs "BoundFault" 309),sv (vB "Exception.__new__"),sv (vb true)]),
 ob 123 (diO P 2 [en "__module__" 324 (vs "relfinder.errors" 194),en "__firstlineno__" 328 (vi 27 327),en "__static_attributes__" 329 (vr 122),en "__doc__" 330 (vn)]),
 ob 124 (clO "LimitFault" [vr 47] [vr 124,vr 47,vt "Exception",vt "BaseException",vt "object"] 123 [] [sv (vr 115),sn,sv (vs "LimitFault" 317),sv (vs "LimitFault" 325),sv (vB "Exception.__new__"),sv (vb true)]),
 ob 130 (t9 [vs "set_of" 335,vs "set_of" 336,vs "/claim/cut.py" 337,vi 30 0,vi 1 0,vi 0 0,vi 0 0,vi 3 0,vr 127,vb true,vi 181 0,vr 128,vn,vn,vn,vr 129,vi 338 0,vi 30 0,vs "/claim/cut.py" 339]),
 ob 131 (t4 (j4 9) "set_of" [] (vs "relfinder.sets" 333) 130 (vn)),
 ob 137 (t9 [vs "union" 341,vs "union" 342,vs "/claim/cut.py" 343,vi 32 0,vi 2 0,vi 0 0,vi 0 0,vi 3 0,vr 132,vb true,vi 181 0,vr 133,vn,vr 134,vr 135,vr 136,vi 346 0,vi 32 0,vs "/claim/cut.py" 347]),
 ob 138 (t4 (j4 10) "union" [] (vs "relfinder.sets" 333) 137 (vn)),
 ob 142 (t9 [vs "minus" 349,vs "minus" 350,vs "/claim/cut.py" 351,vi 34 0,vi 2 0,vi 0 0,vi 0 0,vi 3 0,vr 139,vb true,vi 181 0,vr 140,vn,vn,vn,vr 141,vi 352 0,vi 34 0,vs "/claim/cut.py" 353]),
 ob 143 (t4 (j4 11) "minus" [] (vs "relfinder.sets" 333) 142 (vn)),
 ob 149 (t9 [vs "is_within" 355,vs "is_within" 356,vs "/claim/cut.py" 357,vi 37 0,vi 2 0,vi 0 0,vi 0 0,vi 3 0,vr 144,vb true,vi 181 0,vr 145,vn,vr 146,vr 147,vr 148,vi 360 0,vi 37 0,vs "/claim/cut.py" 361]),
 ob 150 (t4 (j4 12) "is_within" [] (vs "relfinder.sets" 333) 149 (vn)),
 ob 154 (t9 [vs "product" 363,vs "product" 364,vs "/claim/cut.py" 365,vi 39 0,vi 2 0,vi 0 0,vi 0 0,vi 3 0,vr 151,vb true,vi 181 0,vr 152,vn,vn,vn,vr 153,vi 366 0,vi 39 0,vs "/claim/cut.py" 367]),
 ob 155 (t4 (j4 13) "product" [] (vs "relfinder.sets" 333) 154 (vn)),
 ob 168 (t9 [vs "__init__" 383,vs "Universe.__init__" 384,vs "/claim/cut.py" 385,vi 44 0,vi 2 0,vi 0 0,vi 0 0,vi 3 0,vr 163,vb true,vi 181 0,vr 164,vn,vr 165,vr 166,vr 167,vi 389 0,vi 44 0,vs "/claim/cut.py" 390]),
 ob 169 (t4 (j9 15 0) "Universe.__init__" [] (vs "relfinder.universe" 369) 168 (vn)),
 ob 175 (t9 [vs "size" 392,vs "Universe.size" 393,vs "/claim/cut.py" 394,vi 52 0,vi 1 0,vi 0 0,vi 0 0,vi 3 0,vr 170,vb true,vi 181 0,vr 171,vn,vr 172,vr 173,vr 174,vi 396 0,vi 52 0,vs "/claim/cut.py" 397]),
 ob 176 (t4 (j9 15 1) "Universe.size" [] (vs "relfinder.universe" 369) 175 (vn)),
 ob 182 (t9 [vs "name" 399,vs "Universe.name" 400,vs "/claim/cut.py" 401,vi 55 0,vi 2 0,vi 0 0,vi 0 0,vi 3 0,vr 177,vb true,vi 181 0,vr 178,vn,vr 179,vr 180,vr 181,vi 404 0,vi 55 0,vs "/claim/cut.py" 405]),
 ob 183 (t4 (j9 15 2) "Universe.name" [] (vs "relfinder.universe" 369) 182 (vn)),
 ob 189 (t9 [vs "atom" 407,vs "Universe.atom" 408,vs "/claim/cut.py" 409,vi 58 0,vi 2 0,vi 0 0,vi 0 0,vi 3 0,vr 184,vb true,vi 181 0,vr 185,vn,vr 186,vr 187,vr 188,vi 412 0,vi 58 0,vs "/claim/cut.py" 413]),
 ob 190 (t4 (j9 15 3) "Universe.atom" [] (vs "relfinder.universe" 369) 189 (vn)),
 ob 196 (t9 [vs "text_of" 415,vs "Universe.text_of" 416,vs "/claim/cut.py" 417,vi 63 0,vi 2 0,vi 0 0,vi 0 0,vi 3 0,vr 191,vb true,vi 181 0,vr 192,vn,vr 193,vr 194,vr 195,vi 420 0,vi 63 0,vs "/claim/cut.py" 421]),
 ob 197 (t4 (j9 15 4) "Universe.text_of" [] (vs "relfinder.universe" 369) 196 (vn)),
 ob 203 (t9 [vs "set_text" 423,vs "Universe.set_text" 424,vs "/claim/cut.py" 425,vi 66 0,vi 2 0,vi 0 0,vi 0 0,vi 3 0,vr 198,vb true,vi 181 0,vr 199,vn,vr 200,vr 201,vr 202,vi 428 0,vi 66 0,vs "/claim/cut.py" 429]),
 ob 204 (t4 (j9 15 5) "Universe.set_text" [] (vs "relfinder.universe" 369) 203 (vn)),
 ob 206 (diO P 4 [en "__module__" 378 (vs "relfinder.universe" 369),en "__firstlineno__" 382 (vi 42 381),en "__init__" 391 (vr 169),en "size" 398 (vr 176),en "name" 406 (vr 183),en "atom" 414 (vr 190),en "text_of" 422 (vr 197),en "set_text" 430 (vr 204),en "__static_attributes__" 433 (vr 205),en "__dict__" 435 (vr 208),en "__weakref__" 437 (vr 209),en "__doc__" 438 (vn)]),
 ob 207 (clO "Universe" [vt "object"] [vr 207,vt "object"] 206 [] [sn,sn,sv (vs "Universe" 371),sv (vs "Universe" 379),sv (vB "object.__new__"),sv (vb true)]),
 ob 224 (t9 [vs "__init__" 453,vs "Bounds.__init__" 454,vs "/claim/cut.py" 455,vi 70 0,vi 2 0,vi 0 0,vi 0 0,vi 3 0,vr 219,vb true,vi 181 0,vr 220,vn,vr 221,vr 222,vr 223,vi 458 0,vi 70 0,vs "/claim/cut.py" 459]),
 ob 225 (t4 (j9 16 0) "Bounds.__init__" [] (vs "relfinder.universe" 369) 224 (vn)),
 ob 231 (t9 [vs "add" 461,vs "Bounds.add" 462,vs "/claim/cut.py" 463,vi 75 0,vi 5 0,vi 0 0,vi 0 0,vi 3 0,vr 226,vb true,vi 181 0,vr 227,vn,vr 228,vr 229,vr 230,vi 469 0,vi 75 0,vs "/claim/cut.py" 470]),
 ob 232 (t4 (j9 16 1) "Bounds.add" [] (vs "relfinder.universe" 369) 231 (vn)),
 ob 238 (t9 [vs "want_set" 472,vs "Bounds.want_set" 473,vs "/claim/cut.py" 474,vi 88 0,vi 4 0,vi 0 0,vi 0 0,vi 3 0,vr 233,vb true,vi 181 0,vr 234,vn,vr 235,vr 236,vr 237,vi 482 0,vi 88 0,vs "/claim/cut.py" 483]),
 ob 239 (t4 (j9 16 2) "Bounds.want_set" [] (vs "relfinder.universe" 369) 238 (vn)),
 ob 245 (t9 [vs "exactly" 485,vs "Bounds.exactly" 486,vs "/claim/cut.py" 487,vi 101 0,vi 4 0,vi 0 0,vi 0 0,vi 3 0,vr 240,vb true,vi 181 0,vr 241,vn,vr 242,vr 243,vr 244,vi 492 0,vi 101 0,vs "/claim/cut.py" 493]),
 ob 246 (t4 (j9 16 3) "Bounds.exactly" [] (vs "relfinder.universe" 369) 245 (vn)),
 ob 252 (t9 [vs "bound" 495,vs "Bounds.bound" 496,vs "/claim/cut.py" 497,vi 104 0,vi 2 0,vi 0 0,vi 0 0,vi 3 0,vr 247,vb true,vi 181 0,vr 248,vn,vr 249,vr 250,vr 251,vi 500 0,vi 104 0,vs "/claim/cut.py" 501]),
 ob 253 (t4 (j9 16 4) "Bounds.bound" [] (vs "relfinder.universe" 369) 252 (vn)),
 ob 259 (t9 [vs "size" 503,vs "Bounds.size" 504,vs "/claim/cut.py" 505,vi 107 0,vi 1 0,vi 0 0,vi 0 0,vi 3 0,vr 254,vb true,vi 181 0,vr 255,vn,vr 256,vr 257,vr 258,vi 507 0,vi 107 0,vs "/claim/cut.py" 508]),
 ob 260 (t4 (j9 16 5) "Bounds.size" [] (vs "relfinder.universe" 369) 259 (vn)),
 ob 266 (t9 [vs "lower" 510,vs "Bounds.lower" 511,vs "/claim/cut.py" 512,vi 110 0,vi 2 0,vi 0 0,vi 0 0,vi 3 0,vr 261,vb true,vi 181 0,vr 262,vn,vr 263,vr 264,vr 265,vi 515 0,vi 110 0,vs "/claim/cut.py" 516]),
 ob 267 (t4 (j9 16 6) "Bounds.lower" [] (vs "relfinder.universe" 369) 266 (vn)),
 ob 273 (t9 [vs "upper" 518,vs "Bounds.upper" 519,vs "/claim/cut.py" 520,vi 113 0,vi 2 0,vi 0 0,vi 0 0,vi 3 0,vr 268,vb true,vi 181 0,vr 269,vn,vr 270,vr 271,vr 272,vi 523 0,vi 113 0,vs "/claim/cut.py" 524]),
 ob 274 (t4 (j9 16 7) "Bounds.upper" [] (vs "relfinder.universe" 369) 273 (vn)),
 ob 280 (t9 [vs "number_of" 526,vs "Bounds.number_of" 527,vs "/claim/cut.py" 528,vi 116 0,vi 2 0,vi 0 0,vi 0 0,vi 3 0,vr 275,vb true,vi 181 0,vr 276,vn,vr 277,vr 278,vr 279,vi 531 0,vi 116 0,vs "/claim/cut.py" 532]),
 ob 281 (t4 (j9 16 8) "Bounds.number_of" [] (vs "relfinder.universe" 369) 280 (vn)),
 ob 283 (diO P 4 [en "__module__" 448 (vs "relfinder.universe" 369),en "__firstlineno__" 452 (vi 68 451),en "__init__" 460 (vr 225),en "add" 471 (vr 232),en "want_set" 484 (vr 239),en "exactly" 494 (vr 246),en "bound" 502 (vr 253),en "size" 509 (vr 260),en "lower" 517 (vr 267),en "upper" 525 (vr 274),en "number_of" 533 (vr 281),en "__static_attributes__" 537 (vr 282),en "__dict__" 539 (vr 285),en "__weakref__" 541 (vr 286),en "__doc__" 542 (vn)]),
 ob 284 (clO "Bounds" [vt "object"] [vr 284,vt "object"] 283 [] [sn,sn,sv (vs "Bounds" 441),sv (vs "Bounds" 449),sv (vB "object.__new__"),sv (vb true)]),
 ob 301 (t9 [vs "__init__" 568,vs "Numbers.__init__" 569,vs "/claim/cut.py" 570,vi 125 0,vi 3 0,vi 0 0,vi 0 0,vi 3 0,vr 296,vb true,vi 181 0,vr 297,vn,vr 298,vr 299,vr 300,vi 578 0,vi 125 0,vs "/claim/cut.py" 579]),
 ob 302 (t4 (j9 22 0) "Numbers.__init__" [] (vs "relfinder.scopes" 545) 301 (vn)),
 ob 308 (t9 [vs "take" 581,vs "Numbers.take" 582,vs "/claim/cut.py" 583,vi 137 0,vi 4 0,vi 0 0,vi 0 0,vi 3 0,vr 303,vb true,vi 181 0,vr 304,vn,vr 305,vr 306,vr 307,vi 588 0,vi 137 0,vs "/claim/cut.py" 589]),
 ob 309 (t4 (j9 22 1) "Numbers.take" [] (vs "relfinder.scopes" 545) 308 (vn)),
 ob 313 (t9 [vs "usual_for" 591,vs "Numbers.usual_for" 592,vs "/claim/cut.py" 593,vi 150 0,vi 2 0,vi 0 0,vi 0 0,vi 3 0,vr 310,vb true,vi 181 0,vr 311,vn,vn,vn,vr 312,vi 594 0,vi 150 0,vs "/claim/cut.py" 595]),
 ob 314 (t4 (j9 22 2) "Numbers.usual_for" [] (vs "relfinder.scopes" 545) 313 (vn)),
 ob 320 (t9 [vs "lot_of" 597,vs "Numbers.lot_of" 598,vs "/claim/cut.py" 599,vi 157 0,vi 2 0,vi 0 0,vi 0 0,vi 3 0,vr 315,vb true,vi 181 0,vr 316,vn,vr 317,vr 318,vr 319,vi 605 0,vi 157 0,vs "/claim/cut.py" 606]),
 ob 321 (t4 (j9 22 3) "Numbers.lot_of" [] (vs "relfinder.scopes" 545) 320 (vn)),
 ob 327 (t9 [vs "formula_of" 608,vs "Numbers.formula_of" 609,vs "/claim/cut.py" 610,vi 168 0,vi 3 0,vi 0 0,vi 0 0,vi 3 0,vr 322,vb true,vi 181 0,vr 323,vn,vr 324,vr 325,vr 326,vi 616 0,vi 168 0,vs "/claim/cut.py" 617]),
 ob 328 (t4 (j9 22 4) "Numbers.formula_of" [] (vs "relfinder.scopes" 545) 327 (vn)),
 ob 330 (diO P 4 [en "__module__" 563 (vs "relfinder.scopes" 545),en "__firstlineno__" 567 (vi 123 566),en "__init__" 580 (vr 302),en "take" 590 (vr 309),en "usual_for" 596 (vr 314),en "lot_of" 607 (vr 321),en "formula_of" 618 (vr 328),en "__static_attributes__" 623 (vr 329),en "__dict__" 625 (vr 332),en "__weakref__" 627 (vr 333),en "__doc__" 628 (vn)]),
 ob 331 (clO "Numbers" [vt "object"] [vr 331,vt "object"] 330 [] [sn,sn,sv (vs "Numbers" 556),sv (vs "Numbers" 564),sv (vB "object.__new__"),sv (vb true)]),
 ob 348 (t9 [vs "__init__" 643,vs "Uppers.__init__" 644,vs "/claim/cut.py" 645,vi 175 0,vi 4 0,vi 0 0,vi 0 0,vi 3 0,vr 343,vb true,vi 181 0,vr 344,vn,vr 345,vr 346,vr 347,vi 650 0,vi 175 0,vs "/claim/cut.py" 651]),
 ob 349 (t4 (j9 23 0) "Uppers.__init__" [] (vs "relfinder.scopes" 545) 348 (vn)),
 ob 355 (t9 [vs "of_sig" 653,vs "Uppers.of_sig" 654,vs "/claim/cut.py" 655,vi 180 0,vi 2 0,vi 0 0,vi 0 0,vi 3 0,vr 350,vb true,vi 181 0,vr 351,vn,vr 352,vr 353,vr 354,vi 661 0,vi 180 0,vs "/claim/cut.py" 662]),
 ob 356 (t4 (j9 23 1) "Uppers.of_sig" [] (vs "relfinder.scopes" 545) 355 (vn)),
 ob 360 (t9 [vs "of_column" 664,vs "Uppers.of_column" 665,vs "/claim/cut.py" 666,vi 189 0,vi 2 0,vi 0 0,vi 0 0,vi 3 0,vr 357,vb true,vi 181 0,vr 358,vn,vn,vn,vr 359,vi 667 0,vi 189 0,vs "/claim/cut.py" 668]),
 ob 361 (t4 (j9 23 2) "Uppers.of_column" [] (vs "relfinder.scopes" 545) 360 (vn)),
 ob 367 (t9 [vs "of_field" 670,vs "Uppers.of_field" 671,vs "/claim/cut.py" 672,vi 200 0,vi 3 0,vi 0 0,vi 0 0,vi 3 0,vr 362,vb true,vi 181 0,vr 363,vn,vr 364,vr 365,vr 366,vi 679 0,vi 200 0,vs "/claim/cut.py" 680]),
 ob 368 (t4 (j9 23 3) "Uppers.of_field" [] (vs "relfinder.scopes" 545) 367 (vn)),
 ob 370 (diO P 4 [en "__module__" 638 (vs "relfinder.scopes" 545),en "__firstlineno__" 642 (vi 173 641),en "__init__" 652 (vr 349),en "of_sig" 663 (vr 356),en "of_column" 669 (vr 361),en "of_field" 681 (vr 368),en "__static_attributes__" 685 (vr 369),en "__dict__" 687 (vr 372),en "__weakref__" 689 (vr 373),en "__doc__" 690 (vn)]),
 ob 371 (clO "Uppers" [vt "object"] [vr 371,vt "object"] 370 [] [sn,sn,sv (vs "Uppers" 631),sv (vs "Uppers" 639),sv (vB "object.__new__"),sv (vb true)]),
 ob 388 (t9 [vs "__init__" 705,vs "Scopes.__init__" 706,vs "/claim/cut.py" 707,vi 207 0,vi 3 0,vi 0 0,vi 0 0,vi 3 0,vr 383,vb true,vi 181 0,vr 384,vn,vr 385,vr 386,vr 387,vi 711 0,vi 207 0,vs "/claim/cut.py" 712]),
 ob 389 (t4 (j9 24 0) "Scopes.__init__" [] (vs "relfinder.scopes" 545) 388 (vn)),
 ob 393 (t9 [vs "atoms_of" 714,vs "Scopes.atoms_of" 715,vs "/claim/cut.py" 716,vi 211 0,vi 2 0,vi 0 0,vi 0 0,vi 3 0,vr 390,vb true,vi 181 0,vr 391,vn,vn,vn,vr 392,vi 717 0,vi 211 0,vs "/claim/cut.py" 718]),
 ob 394 (t4 (j9 24 1) "Scopes.atoms_of" [] (vs "relfinder.scopes" 545) 393 (vn)),
 ob 398 (t9 [vs "bounds_of" 720,vs "Scopes.bounds_of" 721,vs "/claim/cut.py" 722,vi 223 0,vi 2 0,vi 0 0,vi 0 0,vi 3 0,vr 395,vb true,vi 181 0,vr 396,vn,vn,vn,vr 397,vi 723 0,vi 223 0,vs "/claim/cut.py" 724]),
 ob 399 (t4 (j9 24 2) "Scopes.bounds_of" [] (vs "relfinder.scopes" 545) 398 (vn)),
 ob 401 (diO P 4 [en "__module__" 700 (vs "relfinder.scopes" 545),en "__firstlineno__" 704 (vi 205 703),en "__init__" 713 (vr 389),en "atoms_of" 719 (vr 394),en "bounds_of" 725 (vr 399),en "__static_attributes__" 728 (vr 400),en "__dict__" 730 (vr 403),en "__weakref__" 732 (vr 404),en "__doc__" 733 (vn)]),
 ob 402 (clO "Scopes" [vt "object"] [vr 402,vt "object"] 401 [] [sn,sn,sv (vs "Scopes" 693),sv (vs "Scopes" 701),sv (vB "object.__new__"),sv (vb true)]),
 ob 419 (t9 [vs "__init__" 752,vs "Signatures.__init__" 753,vs "/claim/cut.py" 754,vi 243 0,vi 2 0,vi 0 0,vi 0 0,vi 3 0,vr 414,vb true,vi 181 0,vr 415,vn,vr 416,vr 417,vr 418,vi 759 0,vi 243 0,vs "/claim/cut.py" 760]),
 ob 420 (t4 (j9 27 0) "Signatures.__init__" [] (vs "relfinder.sigs" 736) 419 (vn)),
 ob 426 (t9 [vs "take_sig" 762,vs "Signatures.take_sig" 763,vs "/claim/cut.py" 764,vi 259 0,vi 2 0,vi 0 0,vi 0 0,vi 3 0,vr 421,vb true,vi 181 0,vr 422,vn,vr 423,vr 424,vr 425,vi 768 0,vi 259 0,vs "/claim/cut.py" 769]),
 ob 427 (t4 (j9 27 1) "Signatures.take_sig" [] (vs "relfinder.sigs" 736) 426 (vn)),
 ob 433 (t9 [vs "look_above" 771,vs "Signatures.look_above" 772,vs "/claim/cut.py" 773,vi 268 0,vi 2 0,vi 0 0,vi 0 0,vi 3 0,vr 428,vb true,vi 181 0,vr 429,vn,vr 430,vr 431,vr 432,vi 777 0,vi 268 0,vs "/claim/cut.py" 778]),
 ob 434 (t4 (j9 27 2) "Signatures.look_above" [] (vs "relfinder.sigs" 736) 433 (vn)),
 ob 440 (t9 [vs "direct" 780,vs "Signatures.direct" 781,vs "/claim/cut.py" 782,vi 275 0,vi 2 0,vi 0 0,vi 0 0,vi 3 0,vr 435,vb true,vi 181 0,vr 436,vn,vr 437,vr 438,vr 439,vi 785 0,vi 275 0,vs "/claim/cut.py" 786]),
 ob 441 (t4 (j9 27 3) "Signatures.direct" [] (vs "relfinder.sigs" 736) 440 (vn)),
 ob 445 (t9 [vs "parents_first" 788,vs "Signatures.parents_first" 789,vs "/claim/cut.py" 790,vi 278 0,vi 1 0,vi 0 0,vi 0 0,vi 3 0,vr 442,vb true,vi 181 0,vr 443,vn,vn,vn,vr 444,vi 791 0,vi 278 0,vs "/claim/cut.py" 792]),
 ob 446 (t4 (j9 27 4) "Signatures.parents_first" [] (vs "relfinder.sigs" 736) 445 (vn)),
 ob 452 (t9 [vs "all_fields" 794,vs "Signatures.all_fields" 795,vs "/claim/cut.py" 796,vi 288 0,vi 1 0,vi 0 0,vi 0 0,vi 3 0,vr 447,vb true,vi 181 0,vr 448,vn,vr 449,vr 450,vr 451,vi 807 0,vi 288 0,vs "/claim/cut.py" 808]),
 ob 453 (t4 (j9 27 5) "Signatures.all_fields" [] (vs "relfinder.sigs" 736) 452 (vn)),
 ob 459 (t9 [vs "look_fields" 810,vs "Signatures.look_fields" 811,vs "/claim/cut.py" 812,vi 297 0,vi 1 0,vi 0 0,vi 0 0,vi 3 0,vr 454,vb true,vi 181 0,vr 455,vn,vr 456,vr 457,vr 458,vi 822 0,vi 297 0,vs "/claim/cut.py" 823]),
 ob 460 (t4 (j9 27 6) "Signatures.look_fields" [] (vs "relfinder.sigs" 736) 459 (vn)),
 ob 464 (t9 [vs "take_order" 825,vs "Signatures.take_order" 826,vs "/claim/cut.py" 827,vi 307 0,vi 2 0,vi 0 0,vi 0 0,vi 3 0,vr 461,vb true,vi 181 0,vr 462,vn,vn,vn,vr 463,vi 828 0,vi 307 0,vs "/claim/cut.py" 829]),
 ob 465 (t4 (j9 27 7) "Signatures.take_order" [] (vs "relfinder.sigs" 736) 464 (vn)),
 ob 471 (t9 [vs "names" 831,vs "Signatures.names" 832,vs "/claim/cut.py" 833,vi 318 0,vi 1 0,vi 0 0,vi 0 0,vi 3 0,vr 466,vb true,vi 181 0,vr 467,vn,vr 468,vr 469,vr 470,vi 835 0,vi 318 0,vs "/claim/cut.py" 836]),
 ob 472 (t4 (j9 27 8) "Signatures.names" [] (vs "relfinder.sigs" 736) 471 (vn)),
 ob 478 (t9 [vs "has" 838,vs "Signatures.has" 839,vs "/claim/cut.py" 840,vi 321 0,vi 2 0,vi 0 0,vi 0 0,vi 3 0,vr 473,vb true,vi 181 0,vr 474,vn,vr 475,vr 476,vr 477,vi 843 0,vi 321 0,vs "/claim/cut.py" 844]),
 ob 479 (t4 (j9 27 9) "Signatures.has" [] (vs "relfinder.sigs" 736) 478 (vn)),
 ob 485 (t9 [vs "spot" 846,vs "Signatures.spot" 847,vs "/claim/cut.py" 848,vi 324 0,vi 2 0,vi 0 0,vi 0 0,vi 3 0,vr 480,vb true,vi 181 0,vr 481,vn,vr 482,vr 483,vr 484,vi 851 0,vi 324 0,vs "/claim/cut.py" 852]),
 ob 486 (t4 (j9 27 10) "Signatures.spot" [] (vs "relfinder.sigs" 736) 485 (vn)),
 ob 492 (t9 [vs "parent" 854,vs "Signatures.parent" 855,vs "/claim/cut.py" 856,vi 327 0,vi 2 0,vi 0 0,vi 0 0,vi 3 0,vr 487,vb true,vi 181 0,vr 488,vn,vr 489,vr 490,vr 491,vi 859 0,vi 327 0,vs "/claim/cut.py" 860]),
 ob 493 (t4 (j9 27 11) "Signatures.parent" [] (vs "relfinder.sigs" 736) 492 (vn)),
 ob 499 (t9 [vs "supers" 862,vs "Signatures.supers" 863,vs "/claim/cut.py" 864,vi 330 0,vi 2 0,vi 0 0,vi 0 0,vi 3 0,vr 494,vb true,vi 181 0,vr 495,vn,vr 496,vr 497,vr 498,vi 867 0,vi 330 0,vs "/claim/cut.py" 868]),
 ob 500 (t4 (j9 27 12) "Signatures.supers" [] (vs "relfinder.sigs" 736) 499 (vn)),
 ob 506 (t9 [vs "is_subset" 870,vs "Signatures.is_subset" 871,vs "/claim/cut.py" 872,vi 333 0,vi 2 0,vi 0 0,vi 0 0,vi 3 0,vr 501,vb true,vi 181 0,vr 502,vn,vr 503,vr 504,vr 505,vi 875 0,vi 333 0,vs "/claim/cut.py" 876]),
 ob 507 (t4 (j9 27 13) "Signatures.is_subset" [] (vs "relfinder.sigs" 736) 506 (vn)),
 ob 511 (t9 [vs "children" 878,vs "Signatures.children" 879,vs "/claim/cut.py" 880,vi 336 0,vi 2 0,vi 0 0,vi 0 0,vi 3 0,vr 508,vb true,vi 181 0,vr 509,vn,vn,vn,vr 510,vi 881 0,vi 336 0,vs "/claim/cut.py" 882]),
 ob 512 (t4 (j9 27 14) "Signatures.children" [] (vs "relfinder.sigs" 736) 511 (vn)),
 ob 518 (t9 [vs "above" 884,vs "Signatures.above" 885,vs "/claim/cut.py" 886,vi 339 0,vi 2 0,vi 0 0,vi 0 0,vi 3 0,vr 513,vb true,vi 181 0,vr 514,vn,vr 515,vr 516,vr 517,vi 890 0,vi 339 0,vs "/claim/cut.py" 891]),
 ob 519 (t4 (j9 27 15) "Signatures.above" [] (vs "relfinder.sigs" 736) 518 (vn)),
 ob 525 (t9 [vs "top" 893,vs "Signatures.top" 894,vs "/claim/cut.py" 895,vi 346 0,vi 2 0,vi 0 0,vi 0 0,vi 3 0,vr 520,vb true,vi 181 0,vr 521,vn,vr 522,vr 523,vr 524,vi 898 0,vi 346 0,vs "/claim/cut.py" 899]),
 ob 526 (t4 (j9 27 16) "Signatures.top" [] (vs "relfinder.sigs" 736) 525 (vn)),
 ob 532 (t9 [vs "all_above" 901,vs "Signatures.all_above" 902,vs "/claim/cut.py" 903,vi 351 0,vi 2 0,vi 0 0,vi 0 0,vi 3 0,vr 527,vb true,vi 181 0,vr 528,vn,vr 529,vr 530,vr 531,vi 909 0,vi 351 0,vs "/claim/cut.py" 910]),
 ob 533 (t4 (j9 27 17) "Signatures.all_above" [] (vs "relfinder.sigs" 736) 532 (vn)),
 ob 539 (t9 [vs "is_abstract" 912,vs "Signatures.is_abstract" 913,vs "/claim/cut.py" 914,vi 360 0,vi 2 0,vi 0 0,vi 0 0,vi 3 0,vr 534,vb true,vi 181 0,vr 535,vn,vr 536,vr 537,vr 538,vi 917 0,vi 360 0,vs "/claim/cut.py" 918]),
 ob 540 (t4 (j9 27 18) "Signatures.is_abstract" [] (vs "relfinder.sigs" 736) 539 (vn)),
 ob 546 (t9 [vs "mult" 920,vs "Signatures.mult" 921,vs "/claim/cut.py" 922,vi 363 0,vi 2 0,vi 0 0,vi 0 0,vi 3 0,vr 541,vb true,vi 181 0,vr 542,vn,vr 543,vr 544,vr 545,vi 925 0,vi 363 0,vs "/claim/cut.py" 926]),
 ob 547 (t4 (j9 27 19) "Signatures.mult" [] (vs "relfinder.sigs" 736) 546 (vn)),
 ob 553 (t9 [vs "fields" 928,vs "Signatures.fields" 929,vs "/claim/cut.py" 930,vi 366 0,vi 1 0,vi 0 0,vi 0 0,vi 3 0,vr 548,vb true,vi 181 0,vr 549,vn,vr 550,vr 551,vr 552,vi 932 0,vi 366 0,vs "/claim/cut.py" 933]),
 ob 554 (t4 (j9 27 20) "Signatures.fields" [] (vs "relfinder.sigs" 736) 553 (vn)),
 ob 560 (t9 [vs "facts" 935,vs "Signatures.facts" 936,vs "/claim/cut.py" 937,vi 369 0,vi 2 0,vi 0 0,vi 0 0,vi 3 0,vr 555,vb true,vi 181 0,vr 556,vn,vr 557,vr 558,vr 559,vi 940 0,vi 369 0,vs "/claim/cut.py" 941]),
 ob 561 (t4 (j9 27 21) "Signatures.facts" [] (vs "relfinder.sigs" 736) 560 (vn)),
 ob 567 (t9 [vs "orders" 943,vs "Signatures.orders" 944,vs "/claim/cut.py" 945,vi 372 0,vi 1 0,vi 0 0,vi 0 0,vi 3 0,vr 562,vb true,vi 181 0,vr 563,vn,vr 564,vr 565,vr 566,vi 947 0,vi 372 0,vs "/claim/cut.py" 948]),
 ob 568 (t4 (j9 27 22) "Signatures.orders" [] (vs "relfinder.sigs" 736) 567 (vn)),
 ob 570 (diO P 4 [en "__module__" 747 (vs "relfinder.sigs" 736),en "__firstlineno__" 751 (vi 241 750),en "__init__" 761 (vr 420),en "take_sig" 770 (vr 427),en "look_above" 779 (vr 434),en "direct" 787 (vr 441),en "parents_first" 793 (vr 446),en "all_fields" 809 (vr 453),en "look_fields" 824 (vr 460),en "take_order" 830 (vr 465),en "names" 837 (vr 472),en "has" 845 (vr 479),en "spot" 853 (vr 486),en "parent" 861 (vr 493),en "supers" 869 (vr 500),en "is_subset" 877 (vr 507),en "children" 883 (vr 512),en "above" 892 (vr 519),en "top" 900 (vr 526),en "all_above" 911 (vr 533),en "is_abstract" 919 (vr 540),en "mult" 927 (vr 547),en "fields" 934 (vr 554),en "facts" 942 (vr 561),en "orders" 949 (vr 568),en "__static_attributes__" 955 (vr 569),en "__dict__" 957 (vr 572),en "__weakref__" 959 (vr 573),en "__doc__" 960 (vn)]),
 ob 571 (clO "Signatures" [vt "object"] [vr 571,vt "object"] 570 [] [sn,sn,sv (vs "Signatures" 740),sv (vs "Signatures" 748),sv (vB "object.__new__"),sv (vb true)]),
 ob 579 (t9 [vs "_law_tape" 965,vs "_law_tape" 966,vs "/claim/cut.py" 967,vi 375 0,vi 1 0,vi 0 0,vi 0 0,vi 3 0,vr 576,vb true,vi 181 0,vr 577,vn,vn,vn,vr 578,vi 968 0,vi 375 0,vs "/claim/cut.py" 969]),
 ob 580 (t4 (j4 29) "_law_tape" [] (vs "law_nu0249_01" 963) 579 (vn)),
 ob 586 (t9 [vs "_law_draw" 971,vs "_law_draw" 972,vs "/claim/cut.py" 973,vi 377 0,vi 2 0,vi 0 0,vi 0 0,vi 3 0,vr 581,vb true,vi 181 0,vr 582,vn,vr 583,vr 584,vr 585,vi 977 0,vi 377 0,vs "/claim/cut.py" 978]),
 ob 587 (t4 (j4 30) "_law_draw" [] (vs "law_nu0249_01" 963) 586 (vn)),
 ob 591 (t9 [vs "_law_sigs" 980,vs "_law_sigs" 981,vs "/claim/cut.py" 982,vi 383 0,vi 1 0,vi 0 0,vi 0 0,vi 3 0,vr 588,vb true,vi 181 0,vr 589,vn,vn,vn,vr 590,vi 983 0,vi 383 0,vs "/claim/cut.py" 984]),
 ob 592 (t4 (j4 31) "_law_sigs" [] (vs "law_nu0249_01" 963) 591 (vn)),
 ob 596 (t9 [vs "_law_names" 986,vs "_law_names" 987,vs "/claim/cut.py" 988,vi 401 0,vi 1 0,vi 0 0,vi 0 0,vi 3 0,vr 593,vb true,vi 181 0,vr 594,vn,vn,vn,vr 595,vi 989 0,vi 401 0,vs "/claim/cut.py" 990]),
 ob 597 (t4 (j4 32) "_law_names" [] (vs "law_nu0249_01" 963) 596 (vn)),
 ob 603 (t9 [vs "_law_top" 992,vs "_law_top" 993,vs "/claim/cut.py" 994,vi 411 0,vi 2 0,vi 0 0,vi 0 0,vi 3 0,vr 598,vb true,vi 181 0,vr 599,vn,vr 600,vr 601,vr 602,vi 997 0,vi 411 0,vs "/claim/cut.py" 998]),
 ob 604 (t4 (j4 33) "_law_top" [] (vs "law_nu0249_01" 963) 603 (vn)),
 ob 610 (t9 [vs "_law_scope" 1000,vs "_law_scope" 1001,vs "/claim/cut.py" 1002,vi 417 0,vi 2 0,vi 0 0,vi 0 0,vi 3 0,vr 605,vb true,vi 181 0,vr 606,vn,vr 607,vr 608,vr 609,vi 1010 0,vi 417 0,vs "/claim/cut.py" 1011]),
 ob 611 (t4 (j4 34) "_law_scope" [] (vs "law_nu0249_01" 963) 610 (vn)),
 ob 615 (t9 [vs "_law_is_refused" 1013,vs "_law_is_refused" 1014,vs "/claim/cut.py" 1015,vi 424 0,vi 3 0,vi 0 0,vi 0 0,vi 3 0,vr 612,vb true,vi 181 0,vr 613,vn,vn,vn,vr 614,vi 1016 0,vi 424 0,vs "/claim/cut.py" 1017]),
 ob 616 (t4 (j4 35) "_law_is_refused" [] (vs "law_nu0249_01" 963) 615 (vn)),
 ob 620 (t9 [vs "_law_lot" 1019,vs "_law_lot" 1020,vs "/claim/cut.py" 1021,vi 433 0,vi 4 0,vi 0 0,vi 0 0,vi 3 0,vr 617,vb true,vi 181 0,vr 618,vn,vn,vn,vr 619,vi 1022 0,vi 433 0,vs "/claim/cut.py" 1023]),
 ob 621 (t4 (j4 36) "_law_lot" [] (vs "law_nu0249_01" 963) 620 (vn)),
 ob 627 (t9 [vs "_law_greatest" 1025,vs "_law_greatest" 1026,vs "/claim/cut.py" 1027,vi 446 0,vi 3 0,vi 0 0,vi 0 0,vi 3 0,vr 622,vb true,vi 181 0,vr 623,vn,vr 624,vr 625,vr 626,vi 1034 0,vi 446 0,vs "/claim/cut.py" 1035]),
 ob 628 (t4 (j4 37) "_law_greatest" [] (vs "law_nu0249_01" 963) 627 (vn)),
 ob 634 (t9 [vs "_law_heard" 1037,vs "_law_heard" 1038,vs "/claim/cut.py" 1039,vi 454 0,vi 1 0,vi 0 0,vi 0 0,vi 3 0,vr 629,vb true,vi 181 0,vr 630,vn,vr 631,vr 632,vr 633,vi 1041 0,vi 454 0,vs "/claim/cut.py" 1042]),
 ob 635 (t4 (j4 38) "_law_heard" [] (vs "law_nu0249_01" 963) 634 (vn)),
 ob 639 (t9 [vs "_law_bounds_right" 1044,vs "_law_bounds_right" 1045,vs "/claim/cut.py" 1046,vi 459 0,vi 5 0,vi 0 0,vi 0 0,vi 3 0,vr 636,vb true,vi 181 0,vr 637,vn,vn,vn,vr 638,vi 1047 0,vi 459 0,vs "/claim/cut.py" 1048]),
 ob 640 (t4 (j4 39) "_law_bounds_right" [] (vs "law_nu0249_01" 963) 639 (vn)),
 ob 644 (t9 [vs "_law_product_right" 1050,vs "_law_product_right" 1051,vs "/claim/cut.py" 1052,vi 483 0,vi 5 0,vi 0 0,vi 0 0,vi 3 0,vr 641,vb true,vi 181 0,vr 642,vn,vn,vn,vr 643,vi 1053 0,vi 483 0,vs "/claim/cut.py" 1054]),
 ob 645 (t4 (j4 40) "_law_product_right" [] (vs "law_nu0249_01" 963) 644 (vn)),
 ob 649 (t9 [vs "law" 1056,vs "law" 1057,vs "/claim/cut.py" 1058,vi 489 0,vi 1 0,vi 0 0,vi 0 0,vi 3 0,vr 646,vb true,vi 181 0,vr 647,vn,vn,vn,vr 648,vi 1059 0,vi 489 0,vs "/claim/cut.py" 1060]),
 ob 650 (t4 (j4 41) "law" [] (vs "law_nu0249_01" 963) 649 (vn))]
noncomputable def asL:List Addr:=[2,3,20,21,25,36,37,43,44,46,47,54,65,66,72,73,75,76,87,88,99,100,111,112,123,124,130,131,137,138,142,143,149,150,154,155,168,169,175,176,182,183,189,190,196,197,203,204,206,207,224,225,231,232,238,239,245,246,252,253,259,260,266,267,273,274,280,281,283,284,301,302,308,309,313,314,320,321,327,328,330,331,348,349,355,356,360,361,367,368,370,371,388,389,393,394,398,399,401,402,419,420,426,427,433,434,440,441,445,446,452,453,459,460,464,465,471,472,478,479,485,486,492,493,499,500,506,507,511,512,518,519,525,526,532,533,539,540,546,547,553,554,560,561,567,568,570,571,579,580,586,587,591,592,596,597,603,604,610,611,615,616,620,621,627,628,634,635,639,640,644,645,649,650]
structure Base (w:World) (hb:Heap):Prop where
 X:(Kf w.params).In hb
 T:∃ p loose mg mb,TopRead p loose mg mb hb
end Mine
end
open PySem PySem.W PyProof.Rows PySem.Calls PySem.Spec
set_option Elab.async false
set_option tactic.hygienic false
set_option bootstrap.genMatcherCode false
set_option backward.match.sparseCases false
set_option genSizeOf false
set_option genInjectivity false
set_option linter.unusedVariables false
set_option maxRecDepth 100000
set_option maxHeartbeats 0
namespace Mine
inductive All2 {α β:Type} (R:α→β→Prop):List α→List β→Prop
 | nil:All2 R [] []
 | cons {a b l m}:R a b→All2 R l m→All2 R (a::l) (b::m)
theorem All2.imp {α β:Type} {R S:α→β→Prop} (f:∀ a b,R a b→S a b) {l:List α} {m:List β} (h:All2 R l m):All2 S l m:=by
 induction h with
 | nil=>exact .nil
 | cons h _ ih=>exact .cons (f _ _ h) ih
theorem All2.length {α β:Type} {R:α→β→Prop} {l:List α} {m:List β} (h:All2 R l m):l.length=m.length:=by
 induction h with
 | nil=>rfl
 | cons _ _ ih=>exact congrArg Nat.succ ih
theorem All2.append {α β:Type} {R:α→β→Prop} {l:List α} {m:List β} {l':List α} {m':List β} (h:All2 R l m) (k:All2 R l' m'):All2 R (l++l') (m++m'):=by
 induction h with
 | nil=>exact k
 | cons a _ ih=>exact .cons a ih
theorem All2.get {α β:Type} {R:α→β→Prop} {l:List α} {m:List β} (h:All2 R l m):∀ {i:Nat} {b:β},m[i]?=some b→∃ a,l[i]?=some a∧R a b:=by
 induction h with
 | nil=>exact fun e=>nomatch e
 | cons r _ ih =>
  intro i b e
  induction i using Nat.casesOn with
  | zero=>exact ⟨_,rfl,Qm e▸r⟩
  | succ i=>exact ih e
theorem All2.get' {α β:Type} {R:α→β→Prop} {l:List α} {m:List β} (h:All2 R l m):∀ {i:Nat} {a:α},l[i]?=some a→∃ b,m[i]?=some b∧R a b:=by
 induction h with
 | nil=>exact fun e=>nomatch e
 | cons r _ ih =>
  intro i b e
  induction i using Nat.casesOn with
  | zero=>exact ⟨_,rfl,Qm e▸r⟩
  | succ i=>exact ih e
inductive V where
 | dat (d:PyData)
 | con (v:Value)
 | ref (a:Addr)
 | dct (kvs:List (Str × PyData))
 | inst (C:Addr) (fs:List (Str × V))
 | tup (vs:List V)
 | rng (lo hi:Int)
 | any (R:Heap→Value→Prop)
inductive O where
 | lst (xs:List PyData)
 | dct (kvs:List (Str × PyData))
 | inst (C dx:Addr) (fs:List (Str × V))
 | raw (o:Obj)
noncomputable abbrev HL:=List (Addr × O)
noncomputable abbrev VP:=V→HL→Prop
noncomputable abbrev c8:=List (Str × V)
noncomputable def Rd (h:Heap) (v:Value) (d:PyData):Prop:=∃ as,Reads h v d as
noncomputable def RdL (h:Heap) (vs:List Value) (ds:List PyData):Prop:=All2 (Rd h) vs ds
noncomputable def RdD (h:Heap):List (Str × Value)→List (Str × PyData)→Prop:=All2 fun p q=>p.1=q.1∧Rd h p.2 q.2
theorem aw1 {h:Heap} {vs:List Value} {ds:List PyData} (x:RdL h vs ds):∃ as,ReadsAll h vs ds as:=by
 induction x with
 | nil=>exact ⟨_,.nil⟩
 | cons r _ ih=>exact r.elim fun u_ r=>ih.elim fun u_ q=>⟨_,.cons r q⟩
mutual
inductive RepV (pG:Program) (w:World) (h:Heap):Value→V→Prop
 | dat {v d}:Rd h v d→RepV pG w h v (.dat d)
 | con {v}:RepV pG w h v (.con v)
 | ref {a}:RepV pG w h (.ref a) (.ref a)
 | dct {a kvs ds}:h.DictOf (strKind pG w) a kvs→RdD h kvs ds→(a == sysModules)=false→RepV pG w h (.ref a) (.dct ds)
 | inst {x dx C es n fs}:h.get? x=some (instObj C dx)→h.get? dx=some ⟨.type "dict",none,.dict es n,#[]⟩→RepF pG w h es.toList fs→RepV pG w h (.ref x) (.inst C fs)
 | tup {a o vs n ds}:h.get? a=some o→o.cls=.type "tuple"→o.data=.seq vs n→RepL pG w h vs.toList ds→RepV pG w h (.ref a) (.tup ds)
 | rng {r lo hi t u v}:IsRange h r lo hi 1 t u v→RepV pG w h (.ref r) (.rng lo hi)
 | any {v R} {g:Heap}:(∀ b o,g.get? b=some o→h.get? b=some o)→R g v→RepV pG w h v (.any R)
inductive RepF (pG:Program) (w:World) (h:Heap):List DictEntry→List (Str × V)→Prop
 | nil:RepF pG w h [] []
 | cons {e es x t d fs}:e.key=.str x t→RepV pG w h e.val d→RepF pG w h es fs→RepF pG w h (e::es) ((x,d)::fs)
inductive RepL (pG:Program) (w:World) (h:Heap):List Value→List V→Prop
 | nil:RepL pG w h [] []
 | cons {v vs d ds}:RepV pG w h v d→RepL pG w h vs ds→RepL pG w h (v::vs) (d::ds)
end
noncomputable abbrev Sub (g h:Heap):Prop:=∀ b o,g.get? b=some o→h.get? b=some o
theorem Rd.mono {g h:Heap} (k:Sub g h) {v d}:Rd g v d→Rd h v d:=fun x=>oE x fun a r=>⟨a,PyProof.Rows.Reads.keeps k r⟩
theorem RdL.mono {g h:Heap} (k:Sub g h) {v d} (x:RdL g v d):RdL h v d:=x.imp fun u_ u_=>Rd.mono k
theorem RdD.mono {g h:Heap} (k:Sub g h) {v d} (x:RdD g v d):RdD h v d:=x.imp fun u_ u_ r=>⟨r.1,r.2.mono k⟩
theorem Y7 {pG:Program} {w:World} {K:Type} [DecidableEq K] {knd:PySem.KeyKind pG w K} {g h:Heap} (k:Sub g h) {a:Addr} {kvs:List (K × Value)} (x:g.DictOf knd a kvs):h.DictOf knd a kvs :=
 x.elim fun o x=>⟨o,x.elim fun es x=>⟨es,x.elim fun ep x=>⟨ep,k _ _ x.1,x.2⟩⟩⟩
theorem av8 {pG:Program} {w:World} {g h:Heap} (k:Sub g h) :
  (∀ v d,RepV pG w g v d→RepV pG w h v d)∧(∀ v d,RepF pG w g v d→RepF pG w h v d)∧(∀ v d,RepL pG w g v d→RepL pG w h v d):=by
 have c1:∀ {v d},Rd g v d→RepV pG w h v (.dat d):=fun r=>.dat (r.mono k)
 refine ⟨fun v d r=>?_,fun v d r=>?_,fun v d r=>?_⟩ <;>
 refine r.rec (motive_1:=fun v d u_=>RepV pG w h v d) (motive_2:=fun v d u_=>RepF pG w h v d) (motive_3:=fun v d u_=>RepL pG w h v d) c1 .con .ref (fun x y z=>.dct (Y7 k x) (RdD.mono k y) z) (fun a b u_ c=>.inst (k _ _ a) (k _ _ b) c)
  (fun a b c u_ d=>.tup (k _ _ a) b c d) (fun a=>.rng (k _ _ a)) (fun j r=>.any (fun b o e=>k b o (j b o e)) r) .nil (fun a u_ u_ b c=>.cons a b c) .nil (fun u_ u_ b c=>.cons b c)
noncomputable def invV (pG:Program) (w:World) (h:Heap) (v:Value):V→Prop
 | .dat d=>Rd h v d
 | .con u=>v=u
 | .ref a=>v=.ref a
 | .dct ds=>∃ a kvs,v=.ref a∧h.DictOf (strKind pG w) a kvs∧RdD h kvs ds∧(a == sysModules)=false
 | .inst C fs=>∃ x dx es n,v=.ref x∧h.get? x=some (instObj C dx)∧h.get? dx=some ⟨.type "dict",none,.dict es n,#[]⟩∧RepF pG w h es.toList fs
 | .tup ds=>∃ a o vs n,v=.ref a∧h.get? a=some o∧o.cls=.type "tuple"∧o.data=.seq vs n∧RepL pG w h vs.toList ds
 | .rng lo hi=>∃ r t u x,v=.ref r∧IsRange h r lo hi 1 t u x
 | .any R=>∃ g:Heap,Sub g h∧R g v
theorem RepV.inv {pG:Program} {w:World} {h:Heap} {v d} (r:RepV pG w h v d):invV pG w h v d:=r.casesOn (fun a=>a) rfl rfl (fun a b c=>⟨_,_,rfl,a,b,c⟩) (fun a b c=>⟨_,_,_,_,rfl,a,b,c⟩) (fun a b c d=>⟨_,_,_,_,rfl,a,b,c,d⟩) (fun a=>⟨_,_,_,_,rfl,a⟩) fun k a=>⟨_,k,a⟩
noncomputable def invL (pG:Program) (w:World) (h:Heap) (vs:List Value):List V→Prop
 | []=>vs=[]
 | d::ds=>∃ v us,vs=v::us∧RepV pG w h v d∧RepL pG w h us ds
theorem RepL.inv {pG:Program} {w:World} {h:Heap} {vs ds} (r:RepL pG w h vs ds):invL pG w h vs ds:=r.casesOn rfl fun a b=>⟨_,_,rfl,a,b⟩
noncomputable def invF (pG:Program) (w:World) (h:Heap) (es:List DictEntry):List (Str × V)→Prop
 | []=>es=[]
 | p::fs=>∃ e es' t,es=e::es'∧e.key=.str p.1 t∧RepV pG w h e.val p.2∧RepF pG w h es' fs
theorem RepF.inv {pG:Program} {w:World} {h:Heap} {es fs} (r:RepF pG w h es fs):invF pG w h es fs:=r.casesOn rfl fun a b c=>⟨_,_,_,rfl,a,b,c⟩
noncomputable def invR (h:Heap) (v:Value) (as:List Addr):PyData→Prop
 | .none=>v=.none
 | .bool b=>v=.bool b
 | .int i=>∃ t,v=.int i t
 | .str x=>∃ t,v=.str x t
 | .list xs=>∃ a o vs n bs,v=.ref a∧h.get? a=some o∧o.cls=.type "list"∧o.data=.seq vs n∧ReadsAll h vs.toList xs bs
 | .tuple xs=>∃ a o vs n,v=.ref a∧h.get? a=some o∧o.cls=.type "tuple"∧o.data=.seq vs n∧ReadsAll h vs.toList xs as
 | _=>True
theorem rdi {h:Heap} {v:Value} {d:PyData} {as:List Addr} (r:Reads h v d as):invR h v as d:=r.casesOn rfl (fun u_=>rfl) (fun u_ t=>⟨t,rfl⟩) (fun u_ t=>⟨t,rfl⟩) (fun a b c d=>⟨_,_,_,_,_,rfl,a,b,c,d⟩) (fun a b c d=>⟨_,_,_,_,rfl,a,b,c,d⟩) fun u_ u_ u_ u_ u_=>trivial
noncomputable def invRA (h:Heap) (vs:List Value):List PyData→Prop
 | []=>vs=[]
 | d::ds=>∃ v us as bs,vs=v::us∧Reads h v d as∧ReadsAll h us ds bs
theorem X0 {h:Heap} {vs:List Value} {ds:List PyData} {as:List Addr} (r:ReadsAll h vs ds as):invRA h vs ds:=r.casesOn rfl fun a b=>⟨_,_,_,_,rfl,a,b⟩
theorem bw9 {h:Heap} {ds:List PyData} {vs:List Value} {as:List Addr} (r:ReadsAll h vs ds as):RdL h vs ds:=by
 induction ds generalizing vs as with
 | nil=>exact (show vs=[] from X0 r)▸.nil
 | cons d ds ih=>exact k8 (X0 r) fun v us as bs y=>J7 y fun e q t=>e▸.cons ⟨_,q⟩ (ih t)
theorem RepV.mono {pG:Program} {w:World} {g h:Heap} (k:Sub g h) {v d} (r:RepV pG w g v d):RepV pG w h v d:=(av8 k).1 _ _ r
theorem RepF.mono {pG:Program} {w:World} {g h:Heap} (k:Sub g h) {v d} (r:RepF pG w g v d):RepF pG w h v d:=(av8 k).2.1 _ _ r
theorem RepL.mono {pG:Program} {w:World} {g h:Heap} (k:Sub g h) {v d} (r:RepL pG w g v d):RepL pG w h v d:=(av8 k).2.2 _ _ r
noncomputable def RepO (pG:Program) (w:World) (g h:Heap) (a:Addr):O→Prop
 | .lst xs=>∃ vs n,h.get? a=some ⟨.type "list",none,.seq vs n,#[]⟩∧RdL g vs.toList xs
 | .dct ds=>∃ kvs,h.DictOf (strKind pG w) a kvs∧RdD g kvs ds∧(a == sysModules)=false
 | .raw o=>h.get? a=some o
 | .inst C dx fs=>h.get? a=some (instObj C dx)∧∃ es n,h.get? dx=some ⟨.type "dict",none,.dict es n,#[]⟩∧RepF pG w g es.toList fs
noncomputable def O.foot (a:Addr):O→List Addr
 | .inst _ dx _=>[a,dx]
 | _=>[a]
noncomputable def foots:HL→List Addr
 | []=>[]
 | (a,o)::r=>o.foot a++foots r
theorem r9 {a:Addr} {o:O} {H:HL} (h:(a,o)∈H) {b:Addr} (hb:b∈o.foot a):b∈foots H:=by
 induction H with
 | nil=>cases h
 | cons p H ih =>
  rcases jv6.mp h with rfl | h
  ·exact jv8 _ hb
  ·exact jv7 _ (ih h)
theorem jk7 (a:Addr) (o:O):a∈o.foot a:=by cases o <;> simp [O.foot]
theorem d8:∀ (H H':HL),foots (H++H')=foots H++foots H'
 | [],_=>rfl
 | (_,_)::r,H'=>by dsimp only [nx5,foots];simp [d8 r H']
noncomputable abbrev f7 (s:Shared) (Z:List Addr):Heap:=hideAll s.heap Z
structure Sat (pG:Program) (w:World) (hb:Heap) (Z:List Addr) (H:HL) (s:Shared):Prop where
 bs:Base w hb
 base:Sub hb (f7 s Z)
 zlt:∀ a∈Z,∃ o,s.heap.get? a=some o
 sub:∀ a∈foots H,a∈Z
 nd:(foots H).Nodup
 own:∀ p∈H,RepO pG w (f7 s Z) s.heap p.1 p.2
 gens:s.gens=#[]
structure Step (own:List Addr) (Z:List Addr) (H:HL) (s:Shared) (Z':List Addr) (H':HL) (s':Shared):Prop where
 keep:∀ a o,s.heap.get? a=some o→a∉own→a∉foots H→s'.heap.get? a=some o
 hidden:∀ a∈Z',a∈Z∨s.heap.get? a=none
 unhid:∀ a∈Z,a∈Z'∨a∈foots H
 feet:∀ a∈foots H',a∈foots H∨s.heap.get? a=none
 os:s'.os=s.os
theorem c7 {s:Shared} {Z:List Addr} {a:Addr} {o:Obj} (e:(f7 s Z).get? a=some o):s.heap.get? a=some o∧a∉Z :=
 ⟨of_hideAll _ e,fun m=>by rw [hideAll_none Z m] at e;exact nn e⟩
theorem k9 {s:Shared} {Z:List Addr} {a:Addr} {o:Obj} (e:s.heap.get? a=some o) (n:a∉Z):(f7 s Z).get? a=some o:=hideAll_get _ e n
theorem g6 (s:Shared) (Z:List Addr):Sub (f7 s Z) s.heap:=fun u_ u_ e=>(c7 e).1
theorem Sub.trans {f g h:Heap} (x:Sub f g) (y:Sub g h):Sub f h:=fun b o e=>y b o (x b o e)
theorem Step.refl (own Z H) (s:Shared):Step own Z H s Z H s:=⟨fun u_ u_ e u_ u_=>e,fun u_ h=>.inl h,fun u_ h=>.inl h,fun u_ h=>.inl h,rfl⟩
theorem a7 {h:Heap} {a:Addr} {o:Obj} {P:Prop} (e:h.get? a=some o) (n:h.get? a=none):P:=by rw [e] at n;exact ns n
theorem Step.mono {own Z H s Z' H' s'} (x:Step own Z H s Z' H' s') (hs:∀ a∈own,a∈Z) (hf:∀ a∈foots H,a∈Z):Sub (f7 s Z) (f7 s' Z'):=fun b o e=>by
 refine oA (c7 e) fun e1 nz=>?_
 refine k9 (x.keep b o e1 (fun q=>nz (hs _ q)) (fun q=>nz (hf _ q))) fun q=>?_
 refine Qa (x.hidden b q) (fun q=>?_) fun q=>?_
 ·exact nz q
 ·exact a7 e1 q
theorem Step.trans {own Z H s Z' H' s' Z'' H'' s''} (x:Step own Z H s Z' H' s') (y:Step own Z' H' s' Z'' H'' s'') (hz:∀ a∈Z,∃ o,s.heap.get? a=some o) (hf:∀ a∈foots H,a∈Z) (ho:∀ a∈own,∃ o,s'.heap.get? a=some o):Step own Z H s Z'' H'' s'':=by
 have nn:∀ a,s'.heap.get? a=none→a∈Z∨s.heap.get? a=none:=fun a e=>by
  by_cases h1:a∈own
  ·refine oE (ho a h1) fun o q=>?_
   exact a7 q e
  ·by_cases h2:a∈Mine.foots H
   ·exact .inl (hf a h2)
   ·generalize q:s.heap.get? a=y_;induction y_ using Qd with
    | none=>exact .inr rfl
    | some o=>exact a7 (x.keep a o q h1 h2) e
 refine ⟨fun a o e n1 n2=>?_,fun a m=>?_,fun a m=>?_,fun a m=>?_,y.os.trans x.os⟩
 ·refine y.keep a o (x.keep a o e n1 n2) n1 fun q=>?_
  refine Qa (x.feet a q) (fun q=>?_) fun q=>?_
  ·exact n2 q
  ·exact a7 e q
 ·refine Qa (y.hidden a m) (fun m=>?_) fun m=>?_
  ·exact x.hidden a m
  ·exact nn a m
 ·refine Qa (x.unhid a m) (fun m1=>?_) fun m1=>?_
  ·refine Qa (y.unhid a m1) (fun m2=>?_) fun m2=>?_
   ·exact .inl m2
   ·refine Qa (x.feet a m2) (fun m3=>?_) fun m3=>?_
    ·exact .inr m3
    ·refine oE (hz a m) fun o e=>?_
     exact a7 e m3
  ·exact .inr m1
 ·refine Qa (y.feet a m) (fun m=>?_) fun m=>?_
  ·exact x.feet a m
  ·by_cases h2:a∈Mine.foots H
   ·exact .inl h2
   ·by_cases h1:a∈own
    ·refine oE (ho a h1) fun o q=>?_
     exact a7 q m
    ·generalize q:s.heap.get? a=y_;induction y_ using Qd with
     | none=>exact .inr rfl
     | some o=>exact a7 (x.keep a o q h1 h2) m
theorem Step.own_more {own own' Z H s Z' H' s'} (x:Step own Z H s Z' H' s') (h:∀ a∈own,a∈own'):Step own' Z H s Z' H' s' :=
 ⟨fun a o e n=>x.keep a o e fun q=>n (h _ q),x.hidden,x.unhid,x.feet,x.os⟩
noncomputable def own (env:Env):List Addr:=env.locals::env.cells.map (·.2)
structure EnvOk (sc:Scope) (env:Env):Prop where
 scp:env.scope=sc
 kind:sc.kind=.function
 glob:env.globals=mainGlobals
 bi:env.builtins=builtinsNs
 cel:∀ x,sc.names.lookup x=some .cell∨sc.names.lookup x=some .free→∃ c,env.cells.lookup x=some c
 lam:sc.names.lookup ("signatures":Str)=some .cell→env.code=.ref 649
theorem EnvOk.kindOf {sc env} (x:EnvOk sc env) (n:Str):env.kindOf n=sc.names.lookup n:=by unfold Env.kindOf;exact a5 x.scp rfl
theorem EnvOk.fn {sc env} (x:EnvOk sc env):env.scope.kind=.function:=by refine a5 x.scp ?_;exact x.kind
noncomputable def iv7 (pG:Program) (w:World) (g h:Heap) (env:Env) (m:Str→Option Value) (ρ:c8):Prop :=
 ∀ x d,ρ.lookup x=some d→∃ v,RepV pG w g v d∧((env.kindOf x=some .local∧m x=some v) ∨
  ((env.kindOf x=some .cell∨env.kindOf x=some .free)∧∃ c,env.cells.lookup x=some c∧h.IsCell c (some v)))
structure SatE (pG:Program) (w:World) (hb:Heap) (env:Env) (Z:List Addr) (ρ:c8) (H:HL) (s:Shared):Prop extends Sat pG w hb Z H s where
 ownZ:∀ a∈Mine.own env,a∈Z
 ownH:∀ a∈Mine.own env,a∉foots H
 ondup:(Mine.own env).Nodup
 cells:∀ x c,env.cells.lookup x=some c→∃ v,s.heap.IsCell c v
 ns:∃ m,s.heap.Ns env.locals m∧iv7 pG w (f7 s Z) s.heap env m ρ
noncomputable def O3 (A:Around):List Addr:=(A.frames.getD []).filterMap (·.frame)
structure Fm (A:Around) (hb:Heap) (Z:List Addr) (H:HL) (s:Shared):Prop where
 l:∃ l,A.frames=some l∧s.heap.FunFrames hb l
 z:∀ L∈O3 A,L∈Z∧L∉foots H
structure FmE (A:Around) (env:Env) (hb:Heap) (Z:List Addr) (H:HL) (s:Shared):Prop extends Fm A hb Z H s where
 top:∃ l,A.frames=some (env::l)∧env.frame=some env.locals∧(∀ L∈l.filterMap (·.frame),L∉own env)∧(env.scope.names.lookup ("signatures":Str)=some .cell→l.filterMap (·.frame)=[])
structure Xs where
 fr:Prop
 ex:Prop
 imp:ex→fr
noncomputable abbrev Xs.no:Xs:=⟨False,False,id⟩
structure Room (A:Around) (n:Nat):Prop where
 depth:A.depth+10 * n+20≤1000
 units:A.units+100 * n+300≤9900
 handled:A.handled=none
theorem Room.le {A n m} (x:Room A n) (h:m≤n):Room A m:=⟨jw9 (lw3 (kw9 (mw3 10 h) _) _) x.depth,jw9 (lw3 (kw9 (mw3 100 h) _) _) x.units,x.handled⟩
noncomputable def cv8:Value:=.ref 100
noncomputable def Late (ow:List Addr) (H:HL) (s:Shared) (a:Addr):Prop:=∀ o,s.heap.get? a=some o→a∈ow∨a∈foots H
structure ThrH (hb:Heap) (A:Around) (ow:List Addr) (H:HL) (s s':Shared):Prop where
 keep:∀ a o,s.heap.get? a=some o→a∉ow→a∉foots H→a∉O3 A→s'.heap.get? a=some o
 slots:∀ a o,s.heap.get? a=some o→a∉ow→a∉foots H→a∈O3 A→∃ sl,s'.heap.get? a=some { o with slots:=sl }
 frames:∀ l,A.frames=some l→s'.heap.FunFrames hb l
 os:s'.os=s.os
 gens:s'.gens=s.gens
noncomputable def ExcAt (ow:List Addr) (H:HL) (s:Shared) (e:Addr) (s':Shared) (fl:Option Value→Prop):Prop :=
 Late ow H s e∧∃ oe vs,s'.heap.get? e=some oe∧oe.cls=cv8∧oe.data=.fields vs∧((vs[1]?=some .none∧fl none)∨∃ T oT ts f,vs[1]?=some (.ref T)∧T≠e∧Late ow H s T ∧
  s'.heap.get? T=some oT∧oT.data=.fields ts∧ts[3]?=some f∧fl (some f))
noncomputable def flOk (L:Option Addr):Option Value→Prop
 | none=>True
 | some f=>f=.none∨∃ l,L=some l∧f=rawInt l
structure Thr (hb:Heap) (A:Around) (ow:List Addr) (L:Option Addr) (H:HL) (s:Shared) (e:Addr) (s':Shared):Prop where
 h:ThrH hb A ow H s s'
 exc:ExcAt ow H s e s' (flOk L)
section
variable (pG:Program) (w:World) (hb:Heap)
structure Kon {α β:Type} (env:Env) (A:Around) (X:Xs) (rel:Heap→α→β→Prop) (Q:β→c8→HL→Prop) (R:α→Shared→Prop) (E:Value→Shared→Prop) (Z:List Addr) (H:HL) (s:Shared):Prop where
 ok:∀ {a s' Z' b ρ' H'},Step (own env) Z H s Z' H' s'→SatE pG w hb env Z' ρ' H' s'→rel (f7 s' Z') a b→Q b ρ' H'→R a s'
 ex:X.ex→∀ e s',Thr hb A (own env) (some env.locals) H s e s'→E (.ref e) s'
structure Pt (sc:Scope) (env:Env) (A:Around) (n:Nat) (X:Xs) (Z:List Addr) (ρ:c8) (H:HL) (s:Shared):Prop where
 eok:EnvOk sc env
 room:Room A n
 fm:X.fr→FmE A env hb Z H s
 sat:SatE pG w hb env Z ρ H s
noncomputable def Tri {α β:Type} (sc:Scope) (n:Nat) (X:Xs) (rel:Heap→α→β→Prop) (t:Env→Sem α) (ρ:c8) (H:HL) (Q:β→c8→HL→Prop):Prop :=
 ∀ env A Z s (R:α→Shared→Prop) (E:Value→Shared→Prop),Pt pG w hb sc env A n X Z ρ H s→Kon pG w hb env A X rel Q R E Z H s→wpAny (model pG w) A (t env) R E s
structure Kop {α β:Type} (A:Around) (X:Xs) (rel:Heap→α→β→Prop) (Q:β→HL→Prop) (R:α→Shared→Prop) (E:Value→Shared→Prop) (Z:List Addr) (H:HL) (s:Shared):Prop where
 ok:∀ {a s' Z' b H'},Step [] Z H s Z' H' s'→Sat pG w hb Z' H' s'→rel (f7 s' Z') a b→Q b H'→R a s'
 ex:X.ex→∀ e s',Thr hb A [] none H s e s'→E (.ref e) s'
noncomputable def Op {α β:Type} (n:Nat) (X:Xs) (rel:Heap→α→β→Prop) (f:List Value→Sem α) (ds:List V) (H:HL) (Q:β→HL→Prop):Prop :=
 ∀ A Z s vs (R:α→Shared→Prop) (E:Value→Shared→Prop),Room A n→(X.fr→Fm A hb Z H s)→Sat pG w hb Z H s→RepL pG w (f7 s Z) vs ds→Kop pG w hb A X rel Q R E Z H s→wpAny (model pG w) A (f vs) R E s
noncomputable abbrev TE (sc:Scope) (n:Nat) (X:Xs) (ρ:c8) (e:Expr) (H:HL) (Q:VP):Prop :=
 Tri pG w hb sc n X (RepV pG w) (eval e) ρ H (fun d ρ' H'=>ρ'=ρ∧Q d H')
noncomputable abbrev TB (sc:Scope) (n:Nat) (X:Xs) (ρ:c8) (e:Expr) (H:HL) (Q:Bool→HL→Prop):Prop :=
 Tri pG w hb sc n X (fun _ (a b:Bool)=>a=b) (fun env=>isTrue e env (eval e env)) ρ H (fun d ρ' H'=>ρ'=ρ∧Q d H')
inductive Flw where
 | next | brk | cont
 | ret (v:V)
noncomputable def ej5 (h:Heap):Flow→Flw→Prop
 | .next,.next=>True
 | .brk,.brk=>True
 | .cont,.cont=>True
 | .ret v,.ret d=>RepV pG w h v d
 | _,_=>False
noncomputable abbrev TS (sc:Scope) (n:Nat) (X:Xs) (ρ:c8) (ss:List Stmt) (H:HL) (Q:Flw→c8→HL→Prop):Prop :=
 Tri pG w hb sc n X (ej5 pG w) (execs ss) ρ H Q
end
section
variable {pG:Program} {w:World} {hb:Heap} {sc:Scope} {env:Env} {A:Around} {n:Nat} {X:Xs} {Z Z':List Addr} {ρ ρ':c8} {H H':HL} {s s':Shared}
theorem SatE.mono (x:SatE pG w hb env Z ρ H s) (st:Step (own env) Z H s Z' H' s'):Sub (f7 s Z) (f7 s' Z'):=st.mono x.ownZ x.sub
theorem Sat.mono (x:Sat pG w hb Z H s) (st:Step [] Z H s Z' H' s'):Sub (f7 s Z) (f7 s' Z'):=st.mono (fun u_ h=>nomatch h) x.sub
theorem Late.pre {ow:List Addr} {a:Addr} (st:Step ow Z H s Z' H' s') (x:Late ow H' s' a):Late ow H s a:=fun o e=>by
 by_cases h1:a∈ow
 ·exact .inl h1
 ·by_cases h2:a∈foots H
  ·exact .inr h2
  ·refine Qa (x o (st.keep a o e h1 h2)) (fun q=>?_) fun q=>?_
   ·exact absurd q h1
   ·refine Qa (st.feet a q) (fun q=>?_) fun q=>?_
    ·exact absurd q h2
    ·exact a7 e q
theorem ThrH.pre {ow:List Addr} {s'':Shared} (st:Step ow Z H s Z' H' s') (t:ThrH hb A ow H' s' s'') (g:s'.gens=s.gens):ThrH hb A ow H s s'':=by
 have nf:∀ a o,s.heap.get? a=some o→a∉foots H→a∉foots H':=fun a o e n q=>by
  refine Qa (st.feet a q) (fun q=>?_) fun q=>?_
  ·exact n q
  ·exact a7 e q
 exact ⟨fun a o e n1 n2 n3=>t.keep a o (st.keep a o e n1 n2) n1 (nf a o e n2) n3,fun a o e n1 n2 n3=>t.slots a o (st.keep a o e n1 n2) n1 (nf a o e n2) n3,t.frames,t.os.trans st.os,t.gens.trans g⟩
theorem ExcAt.pre {ow:List Addr} {e:Addr} {s'':Shared} {fl:Option Value→Prop} (st:Step ow Z H s Z' H' s') (t:ExcAt ow H' s' e s'' fl):ExcAt ow H s e s'' fl:=by
 refine V7 t fun l oe y=>o4 y fun vs h1 h2 h3 h4=>?_
 refine ⟨l.pre st,oe,vs,h1,h2,h3,h4.imp id ?_⟩
 (intro yz;refine k8 yz fun T oT ts f y=>G9 y fun q1 q2 q3 q4=>?_)
 exact ⟨T,oT,ts,f,q1,q2,q3.pre st,q4⟩
theorem ExcAt.imp {ow:List Addr} {e:Addr} {fl fl':Option Value→Prop} (h:∀ x,fl x→fl' x) (t:ExcAt ow H s e s' fl):ExcAt ow H s e s' fl':=by
 refine V7 t fun l oe y=>o4 y fun vs h1 h2 h3 h4=>?_
 refine ⟨l,oe,vs,h1,h2,h3,?_⟩
 (refine Qa h4 ?_ ?_;(intro yz;refine oA yz fun q r=>?_);rotate_left;(intro yz;refine k8 yz fun T oT ts f y=>w6 y fun q1 q2 q3 q4 yy=>J7 yy fun q5 q6 q7=>?_);rotate_left)
 ·exact .inl ⟨q,h _ r⟩
 ·exact .inr ⟨T,oT,ts,f,q1,q2,q3,q4,q5,q6,h _ q7⟩
theorem Thr.pre {ow:List Addr} {L:Option Addr} {e:Addr} {s'':Shared} (st:Step ow Z H s Z' H' s') (t:Thr hb A ow L H' s' e s'') (g:s'.gens=s.gens):Thr hb A ow L H s e s'' :=
 ⟨t.h.pre st g,t.exc.pre st⟩
theorem SatE.live (x:SatE pG w hb env Z ρ H s):∀ a∈own env,∃ o,s.heap.get? a=some o:=fun a m=>x.zlt a (x.ownZ a m)
theorem Kon.step {α β:Type} {rel:Heap→α→β→Prop} {Q:β→c8→HL→Prop} {R:α→Shared→Prop} {E:Value→Shared→Prop} (k:Kon pG w hb env A X rel Q R E Z H s)
  (x:SatE pG w hb env Z ρ H s) (st:Step (own env) Z H s Z' H' s') (y:SatE pG w hb env Z' ρ' H' s'):Kon pG w hb env A X rel Q R E Z' H' s' :=
 ⟨fun st' z r q=>k.ok (st.trans st' x.zlt x.sub y.live) z r q,fun hx e s'' t=>k.ex hx e s'' (t.pre st (y.gens.trans x.gens.symm))⟩
theorem Kop.step {α β:Type} {rel:Heap→α→β→Prop} {Q:β→HL→Prop} {R:α→Shared→Prop} {E:Value→Shared→Prop} (k:Kop pG w hb A X rel Q R E Z H s)
  (x:Sat pG w hb Z H s) (st:Step [] Z H s Z' H' s') (y:Sat pG w hb Z' H' s'):Kop pG w hb A X rel Q R E Z' H' s' :=
 ⟨fun st' z r q=>k.ok (st.trans st' x.zlt x.sub (fun u_ h=>nomatch h)) z r q,fun hx e s'' t=>k.ex hx e s'' (t.pre st (y.gens.trans x.gens.symm))⟩
theorem SatE.back (x:SatE pG w hb env Z ρ H s) (st:Step [] Z H s Z' H' s') (y:Sat pG w hb Z' H' s'):SatE pG w hb env Z' ρ H' s':=by
 have kp:∀ a∈own env,∀ o,s.heap.get? a=some o→s'.heap.get? a=some o:=fun a m o e=>st.keep a o e (fun h=>nomatch h) (x.ownH a m)
 have kc:∀ c v,(∃ n,env.cells.lookup n=some c)→s.heap.IsCell c v→s'.heap.IsCell c v:=fun c v y z=>oE y fun n hn=>c9 z fun o ho hd =>
  ⟨o,kp c (jv3 _ (jw3 (Qe hn))) o ho,hd⟩
 refine { toSat:=y,ownZ:=fun a m=>?_,ownH:=fun a m q=>?_,ondup:=x.ondup,cells:=fun n c hc=>?_,ns:=?_ }
 ·refine Qa (st.unhid a (x.ownZ a m)) (fun q=>?_) fun q=>?_
  ·exact q
  ·exact absurd q (x.ownH a m)
 ·refine Qa (st.feet a q) (fun q=>?_) fun q=>?_
  ·exact x.ownH a m q
  ·refine oE (x.live a m) fun o e=>?_
   exact a7 e q
 ·refine oE (x.cells n c hc) fun v hv=>?_
  exact ⟨v,kc c v ⟨n,hc⟩ hv⟩
 ·(refine c9 x.ns ?_;(intro m yz;refine w5 yz fun o es ep ho r=>?_;clear yz;rintro hm))
  refine ⟨m,⟨o,es,ep,kp _ (jv0 ..) o ho,r⟩,fun n d hd=>?_⟩
  refine c9 (hm n d hd) fun v hv q=>?_
  exact ⟨v,hv.mono (x.toSat.mono st),q.imp id fun z=>oA z fun k z=>c9 z fun c hc hi=>⟨k,c,hc,kc c _ ⟨n,hc⟩ hi⟩⟩
theorem Thr.inFrame {e:Addr} {ow:List Addr} {L:Option Addr} (t:Thr hb A [] none H s e s'):Thr hb A ow L H s e s':=by
 refine ⟨⟨fun a o e u_=>t.h.keep a o e (fun h=>nomatch h),fun a o e u_=>t.h.slots a o e (fun h=>nomatch h),t.h.frames,t.h.os,t.h.gens⟩,?_⟩
 refine V7 t.exc fun l oe y=>o4 y fun vs h1 h2 h3 h4=>?_
 refine ⟨fun o e=>(l o e).elim (fun h=>nomatch h) .inr,oe,vs,h1,h2,h3,?_⟩
 (refine Qa h4 ?_ ?_;(intro yz;refine oA yz fun q r=>?_);rotate_left;(intro yz;refine k8 yz fun T oT ts f y=>w6 y fun q1 q2 q3 q4 yy=>J7 yy fun q5 q6 q7=>?_);rotate_left)
 ·exact .inl ⟨q,trivial⟩
 ·refine .inr ⟨T,oT,ts,f,q1,q2,fun o e=>(q3 o e).elim (fun h=>nomatch h) .inr,q4,q5,q6,?_⟩
  rcases q7 with q7 | ⟨l,hl,_⟩
  ·exact .inl q7
  ·exact nn hl
theorem Kon.op {α β:Type} {rel:Heap→α→β→Prop} {Q:β→HL→Prop} {R:α→Shared→Prop} {E:Value→Shared→Prop} (x:SatE pG w hb env Z ρ H s)
  (k:Kon pG w hb env A X rel (fun b ρ' H'=>ρ'=ρ∧Q b H') R E Z H s):Kop pG w hb A X rel Q R E Z H s :=
 ⟨fun st y r q=>k.ok (st.own_more fun u_ h=>nomatch h) (x.back st y) r ⟨rfl,q⟩,fun hx e s' t=>k.ex hx e s' t.inFrame⟩
theorem v8 {l:List Env} {h h':Heap} {base:Heap} (k:∀ L∈l.filterMap (·.frame),∀ o,h.get? L=some o→(∀ vs,o.data≠.fields vs)→∃ o',h'.get? L=some o'∧∀ vs,o'.data≠.fields vs) (x:h.FunFrames base l):h'.FunFrames base l:=by
 induction l with
 | nil=>trivial
 | cons e r ih =>
  (refine J7 x ?_;clear x;(intro h1 yz;refine oEE yz fun L o y=>G9 y fun h2 h3 h4 h5=>?_;rintro h6))
  refine ⟨h1,?_,ih (fun L' hL'=>k L' (by refine a5 kq5 (a5 h2 ?_);exact jv3 _ hL')) h6⟩
  refine c9 (k L (by refine a5 kq5 (a5 h2 ?_);exact jv0) o h4 h5) fun o' q1 q2=>?_
  exact ⟨L,o',h2,h3,q1,q2⟩
theorem Fm.step (f:Fm A hb Z H s) (x:Sat pG w hb Z H s) (st:Step [] Z H s Z' H' s'):Fm A hb Z' H' s':=by
 obtain ⟨⟨l,hl,hf⟩,hz⟩:=f
 refine ⟨⟨l,hl,v8 (fun L hL o ho hd=>⟨o,st.keep L o ho (fun h=>nomatch h) (hz L (by rw [O3,hl];exact hL)).2,hd⟩) hf⟩,fun L hL=>⟨?_,fun q=>?_⟩⟩
 ·refine Qa (st.unhid L (hz L hL).1) (fun q=>?_) fun q=>?_
  ·exact q
  ·exact absurd q (hz L hL).2
 ·refine Qa (st.feet L q) (fun q=>?_) fun q=>?_
  ·exact (hz L hL).2 q
  ·refine oE (x.zlt L (hz L hL).1) fun o e=>?_
   exact a7 e q
theorem FmE.step (f:FmE A env hb Z H s) (x:Sat pG w hb Z H s) (st:Step (own env) Z H s Z' H' s') (y:SatE pG w hb env Z' ρ' H' s'):FmE A env hb Z' H' s':=by
 obtain ⟨⟨⟨l0,hl0,hf⟩,hz⟩,l,hl,hfr,hno,ln⟩:=f
 have e:l0=env::l:=by rw [hl0] at hl;exact Qm hl
 subst e
 refine ⟨⟨⟨_,hl0,?_⟩,fun L hL=>⟨?_,fun q=>?_⟩⟩,l,hl,hfr,hno,ln⟩
 ·refine v8 (fun L hL o ho hd=>?_) hf
  have hL':=hL
  rw [kq5,hfr] at hL
  rcases jv6.mp hL with rfl | hL
  ·(refine c9 y.ns ?_;rintro m ⟨o',es,ep,ho',hd',_⟩ _)
   exact ⟨o',ho',fun vs q=>by rw [hd'] at q;cases q⟩
  ·exact ⟨o,st.keep L o ho (hno L hL) (hz L (by rw [O3,hl0];exact hL')).2,hd⟩
 ·refine Qa (st.unhid L (hz L hL).1) (fun q=>?_) fun q=>?_
  ·exact q
  ·exact absurd q (hz L hL).2
 ·refine Qa (st.feet L q) (fun q=>?_) fun q=>?_
  ·exact (hz L hL).2 q
  ·refine oE (x.zlt L (hz L hL).1) fun o e=>?_
   exact a7 e q
theorem Pt.step (p:Pt pG w hb sc env A n X Z ρ H s) (st:Step (own env) Z H s Z' H' s') (y:SatE pG w hb env Z' ρ' H' s'):Pt pG w hb sc env A n X Z' ρ' H' s' :=
 ⟨p.eok,p.room,fun hx=>(p.fm hx).step p.sat.toSat st y,y⟩
theorem Kon.at {α β γ δ:Type} {rel:Heap→α→β→Prop} {Q:β→c8→HL→Prop} {R:α→Shared→Prop} {E:Value→Shared→Prop} (k:Kon pG w hb env A X rel Q R E Z H s)
  (p:Pt pG w hb sc env A n X Z ρ H s) (st:Step (own env) Z H s Z' H' s') (y:SatE pG w hb env Z' ρ' H' s'):Kon pG w hb env A X rel Q R E Z' H' s':=k.step p.sat st y
theorem Op.use {α β:Type} {rel:Heap→α→β→Prop} {f:List Value→Sem α} {ds:List V} {Q:β→HL→Prop} (o:Op pG w hb n X rel f ds H Q) (p:Pt pG w hb sc env A n X Z ρ H s)
  {vs:List Value} (r:RepL pG w (f7 s Z) vs ds) {R:α→Shared→Prop} {E:Value→Shared→Prop}
  (k:Kon pG w hb env A X rel (fun b ρ' H'=>ρ'=ρ∧Q b H') R E Z H s):wpAny (model pG w) A (f vs) R E s :=
 o A Z s vs R E p.room (fun hx=>(p.fm hx).toFm) p.sat.toSat r (k.op p.sat)
theorem Tri.mono {α β:Type} {rel:Heap→α→β→Prop} {t:Env→Sem α} {Q Q':β→c8→HL→Prop} (x:Tri pG w hb sc n X rel t ρ H Q) (h:∀ b ρ' H',Q b ρ' H'→Q' b ρ' H'):Tri pG w hb sc n X rel t ρ H Q' :=
 fun env A Z s R E p k=>x env A Z s R E p ⟨fun st y r q=>k.ok st y r (h _ _ _ q),k.ex⟩
theorem Op.mono {α β:Type} {rel:Heap→α→β→Prop} {f:List Value→Sem α} {ds:List V} {Q Q':β→HL→Prop} (x:Op pG w hb n X rel f ds H Q) (h:∀ b H',Q b H'→Q' b H'):Op pG w hb n X rel f ds H Q' :=
 fun A Z s vs R E r f y q k=>x A Z s vs R E r f y q ⟨fun st y r q=>k.ok st y r (h _ _ q),k.ex⟩
end
noncomputable def op1 {α:Type} (f:Value→Sem α):List Value→Sem α
 | [a]=>f a
 | _=>.unsupported ""
noncomputable def G0 {α:Type} (f:Value→Value→Sem α):List Value→Sem α
 | [a,b]=>f a b
 | _=>.unsupported ""
noncomputable def op3 {α:Type} (f:Value→Value→Value→Sem α):List Value→Sem α
 | [a,b,c]=>f a b c
 | _=>.unsupported ""
section
variable {pG:Program} {w:World} {hb:Heap} {sc:Scope} {env:Env} {A:Around} {n:Nat} {X:Xs} {Z Z':List Addr} {ρ ρ':c8} {H H':HL} {s s':Shared}
noncomputable abbrev Exn (hb:Heap) (A:Around) (env:Env) (X:Xs) (H:HL) (s:Shared) (E:Value→Shared→Prop):Prop:=X.ex→∀ e s',Thr hb A (own env) (some env.locals) H s e s'→E (.ref e) s'
theorem Exn.step {E:Value→Shared→Prop} (k:Exn hb A env X H s E) (x:Sat pG w hb Z H s) (st:Step (own env) Z H s Z' H' s') (y:Sat pG w hb Z' H' s'):Exn hb A env X H' s' E :=
 fun hx e s'' t=>k hx e s'' (t.pre st (y.gens.trans x.gens.symm))
theorem Tri.run {α β:Type} {rel:Heap→α→β→Prop} {t:Env→Sem α} {Q:β→c8→HL→Prop} {R:α→Shared→Prop} {E:Value→Shared→Prop} (x:Tri pG w hb sc n X rel t ρ H Q)
  (p:Pt pG w hb sc env A n X Z ρ H s) (ex:Exn hb A env X H s E)
  (k:∀ {v s' Z' d ρ' H'},Step (own env) Z H s Z' H' s'→Pt pG w hb sc env A n X Z' ρ' H' s'→Exn hb A env X H' s' E→Sub (f7 s Z) (f7 s' Z')→rel (f7 s' Z') v d→Q d ρ' H'→R v s') :
  wpAny (model pG w) A (t env) R E s :=
 x env A Z s R E p ⟨fun st y r q=>k st (p.step st y) (ex.step p.sat.toSat st y.toSat) (p.sat.mono st) r q,ex⟩
theorem Op.run {α β:Type} {rel:Heap→α→β→Prop} {f:List Value→Sem α} {ds:List V} {Q:β→HL→Prop} {R:α→Shared→Prop} {E:Value→Shared→Prop} (x:Op pG w hb n X rel f ds H Q)
  (p:Pt pG w hb sc env A n X Z ρ H s) {vs:List Value} (r:RepL pG w (f7 s Z) vs ds) (ex:Exn hb A env X H s E)
  (k:∀ {v s' Z' d H'},Step (own env) Z H s Z' H' s'→Pt pG w hb sc env A n X Z' ρ H' s'→Exn hb A env X H' s' E→Sub (f7 s Z) (f7 s' Z')→rel (f7 s' Z') v d→Q d H'→R v s') :
  wpAny (model pG w) A (f vs) R E s :=
 x.use p r ⟨fun {a s' Z' b ρ' H'} st y r q=>by (refine oA q ?_;clear q;rintro rfl q);exact k st (p.step st y) (ex.step p.sat.toSat st y.toSat) (p.sat.mono st) r q,ex⟩
theorem Tri.intro {α β:Type} {rel:Heap→α→β→Prop} {t:Env→Sem α} {Q:β→c8→HL→Prop}
  (x:∀ env A Z s (R:α→Shared→Prop) (E:Value→Shared→Prop),Pt pG w hb sc env A n X Z ρ H s→Exn hb A env X H s E →
   (∀ {v s' Z' d ρ' H'},Step (own env) Z H s Z' H' s'→Pt pG w hb sc env A n X Z' ρ' H' s'→rel (f7 s' Z') v d→Q d ρ' H'→R v s')→wpAny (model pG w) A (t env) R E s):Tri pG w hb sc n X rel t ρ H Q :=
 fun env A Z s R E p k=>x env A Z s R E p k.ex fun st p' r q=>k.ok st p'.sat r q
theorem Pt.tr {Z1 Z2:List Addr} {ρ1:c8} {H1 H2:HL} {s1 s2:Shared} (p:Pt pG w hb sc env A n X Z ρ H s) (p1:Pt pG w hb sc env A n X Z1 ρ1 H1 s1) (a:Step (own env) Z H s Z1 H1 s1) (b:Step (own env) Z1 H1 s1 Z2 H2 s2):Step (own env) Z H s Z2 H2 s2 :=
 a.trans b p.sat.zlt p.sat.sub p1.sat.live
theorem Sat.tok (x:Sat pG w hb Z H s) (t:Nat):Sat pG w hb Z H { s with toks:=t }:=⟨x.bs,x.base,x.zlt,x.sub,x.nd,x.own,x.gens⟩
theorem SatE.tok (x:SatE pG w hb env Z ρ H s) (t:Nat):SatE pG w hb env Z ρ H { s with toks:=t }:=⟨x.toSat.tok t,x.ownZ,x.ownH,x.ondup,x.cells,x.ns⟩
theorem Step.tok (o:List Addr) (Z:List Addr) (H:HL) (s:Shared) (t:Nat):Step o Z H s Z H { s with toks:=t }:=⟨fun u_ u_ e u_ u_=>e,fun u_ h=>.inl h,fun u_ h=>.inl h,fun u_ h=>.inl h,rfl⟩
theorem Pt.tok (p:Pt pG w hb sc env A n X Z ρ H s) (t:Nat):Pt pG w hb sc env A n X Z ρ H { s with toks:=t }:=p.step (.tok _ _ _ _ t) (p.sat.tok t)
noncomputable def isVar:Option NameKind→Bool
 | some .local=>true
 | some .cell=>true
 | some .free=>true
 | _=>false
theorem iw4 {x:Str} {pos:Pos} {d:V} {Q:VP} (hk:isVar (sc.names.lookup x)=true) (hv:ρ.lookup x=some d) (q:Q d H)
  (hd:(x == ("__debug__":Str))=false:=by decide) (hc:(x == ("__classdict__":Str))=false:=by decide):TE pG w hb sc n X ρ (.Name x pos) H Q:=by
 refine .intro fun env A Z s R E p ex k=>?_
 refine c9 p.sat.ns fun m hn hm=>?_
 refine c9 (hm x d hv) fun v r h=>?_
 have fin:=k (v:=v) (.refl ..) p r ⟨rfl,q⟩
 refine lx3 ?_ hd
 rcases h with ⟨h1,h2⟩ | ⟨h1 | h1,c,h2,h3⟩
 ·exact kj9 p.eok.fn h1 hn h2 fin
 ·exact wpAny_loadName_cell p.eok.fn h1 h2 h3 fin
 ·exact lj8 p.eok.fn h1 h2 h3 fin hc
theorem bj1 {x:Str} {pos:Pos} {v:Value} {d:V} {Q:VP} (hk:sc.names.lookup x=some .globalImplicit) (e:∀ P,nsIn (Kf P) mainGlobals x=some (some v))
  (r:∀ h,RepV pG w h v d) (q:Q d H) (hd:(x == ("__debug__":Str))=false:=by decide):TE pG w hb sc n X ρ (.Name x pos) H Q:=by
 refine .intro fun env A Z s R E p ex k=>?_
 refine k8 p.sat.bs.T fun pp loose mg mb T=>?_
 have T':=T.keeps (p.sat.base.trans (g6 s Z))
 exact Name_function_global p.eok.fn (by refine a5 (p.eok.kindOf ..) ?_;exact hk) (loadGlobal_global (env:=env) (by refine a5 p.eok.glob ?_;exact T'.g) (mg_of p.sat.bs.X T.g (e _)) (k (.refl ..) p (r _) ⟨rfl,q⟩)) hd
theorem dx5 {x:Str} {pos:Pos} {v:Value} {Q:VP} (hk:sc.names.lookup x=some .globalImplicit) (e:∀ P,nsIn (Kf P) mainGlobals x=some none)
  (hv:bootBuiltins x=some v) (q:Q (.con v) H) (hn:x≠"__name__":=by decide) (hd:(x == ("__debug__":Str))=false:=by decide):TE pG w hb sc n X ρ (.Name x pos) H Q:=by
 refine .intro fun env A Z s R E p ex k=>?_
 refine k8 p.sat.bs.T fun pp loose mg mb T=>?_
 have T':=T.keeps (p.sat.base.trans (g6 s Z))
 exact Name_function_global p.eok.fn (by refine a5 (p.eok.kindOf ..) ?_;exact hk) (loadGlobal_builtin (env:=env) (by refine a5 p.eok.glob ?_;exact T'.g) (mg_none_of p.sat.bs.X T.g (e _)) (by refine a5 p.eok.bi ?_;exact T'.b)
  ((T.builtins x hn).trans hv) (k (.refl ..) p .con ⟨rfl,q⟩)) hd
theorem dx3 {i:Int} {kk:Nat} {pos:Pos} {Q:VP} (q:Q (.dat (.int i)) H):TE pG w hb sc n X ρ (.Constant (.int i) kk pos) H Q :=
 .intro fun env A Z s R E p ex k=>wpAny_Constant_int (k (.tok ..) (p.tok _) (.dat ⟨_,.int _ _⟩) ⟨rfl,q⟩)
theorem iw6 {x:Str} {kk:Nat} {pos:Pos} {Q:VP} (q:Q (.dat (.str x)) H):TE pG w hb sc n X ρ (.Constant (.str x) kk pos) H Q :=
 .intro fun env A Z s R E p ex k=>mx7 (k (.tok ..) (p.tok _) (.dat ⟨_,.str _ _⟩) ⟨rfl,q⟩)
theorem hk4 {x:Bool} {kk:Nat} {pos:Pos} {Q:VP} (q:Q (.dat (.bool x)) H):TE pG w hb sc n X ρ (.Constant (.bool x) kk pos) H Q :=
 .intro fun env A Z s R E p ex k=>wpAny_Constant_bool (k (.refl ..) p (.dat ⟨_,.bool _⟩) ⟨rfl,q⟩)
theorem hj7 {kk:Nat} {pos:Pos} {Q:VP} (q:Q (.dat .none) H):TE pG w hb sc n X ρ (.Constant .none kk pos) H Q :=
 .intro fun env A Z s R E p ex k=>mx0 (k (.refl ..) p (.dat ⟨_,.none⟩) ⟨rfl,q⟩)
theorem fv3 {l r:Expr} {op:Operator} {pos:Pos} {Q:VP}
  (h:TE pG w hb sc n X ρ l H fun a H1=>TE pG w hb sc n X ρ r H1 fun b H2=>Op pG w hb n X (RepV pG w) (G0 (binaryOp op)) [a,b] H2 Q):TE pG w hb sc n X ρ (.BinOp l op r pos) H Q:=by
 refine .intro fun env A Z s R E p ex k=>wpAny_BinOp ?_
 refine h.run p ex fun s1 p1 ex1 u1 r1 q1=>?_
 (refine oA q1 ?_;clear q1;rintro rfl q1)
 refine q1.run p1 ex1 fun s2 p2 ex2 u2 r2 q2=>?_
 (refine oA q2 ?_;clear q2;rintro rfl q2)
 exact q2.run p2 (.cons (r1.mono u2) (.cons r2 .nil)) ex2 fun s3 p3 ex3 u3 r3 q3=>k (p.tr p2 (p.tr p1 s1 s2) s3) p3 r3 ⟨rfl,q3⟩
theorem dx4 {l r:Expr} {op:CmpOp} {pos:Pos} {Q:VP}
  (h:TE pG w hb sc n X ρ l H fun a H1=>TE pG w hb sc n X ρ r H1 fun b H2=>Op pG w hb n X (RepV pG w) (G0 (compareOp op)) [a,b] H2 Q)
  (hm:behindInMarks op r=false:=by rfl):TE pG w hb sc n X ρ (.Compare l [op] [r] pos) H Q:=by
 refine .intro fun env A Z s R E p ex k=>wpAny_Compare1 ?_ hm
 refine h.run p ex fun s1 p1 ex1 u1 r1 q1=>?_
 (refine oA q1 ?_;clear q1;rintro rfl q1)
 refine q1.run p1 ex1 fun s2 p2 ex2 u2 r2 q2=>?_
 (refine oA q2 ?_;clear q2;rintro rfl q2)
 exact q2.run p2 (.cons (r1.mono u2) (.cons r2 .nil)) ex2 fun s3 p3 ex3 u3 r3 q3=>k (p.tr p2 (p.tr p1 s1 s2) s3) p3 r3 ⟨rfl,q3⟩
theorem av0 {x:Expr} {op:UnaryOp} {pos:Pos} {Q:VP}
  (h:TE pG w hb sc n X ρ x H fun a H1=>Op pG w hb n X (RepV pG w) (op1 (unaryOp op)) [a] H1 Q):TE pG w hb sc n X ρ (.UnaryOp op x pos) H Q:=by
 refine .intro fun env A Z s R E p ex k=>wpAny_UnaryOp ?_
 refine h.run p ex fun s1 p1 ex1 u1 r1 q1=>?_
 (refine oA q1 ?_;clear q1;rintro rfl q1)
 exact q1.run p1 (.cons r1 .nil) ex1 fun s3 p3 ex3 u3 r3 q3=>k (p.tr p1 s1 s3) p3 r3 ⟨rfl,q3⟩
theorem fk9 {t a b:Expr} {pos:Pos} {Q:VP}
  (h:TB pG w hb sc n X ρ t H fun c H1=>(c=true→TE pG w hb sc n X ρ a H1 Q)∧(c=false→TE pG w hb sc n X ρ b H1 Q)):TE pG w hb sc n X ρ (.IfExp t a b pos) H Q:=by
 refine .intro fun env A Z s R E p ex k=>wpAny_IfExp ?_
 refine h.run p ex fun {v s' Z' d ρ' H'} s1 p1 ex1 u1 r1 q1=>?_
 (refine oA q1 ?_;clear q1;rintro rfl q1)
 subst r1
 induction v using Ql with
 | true=>exact (q1.1 rfl).run p1 ex1 fun s2 p2 ex2 u2 r2 q2=>k (p.tr p1 s1 s2) p2 r2 q2
 | false=>exact (q1.2 rfl).run p1 ex1 fun s2 p2 ex2 u2 r2 q2=>k (p.tr p1 s1 s2) p2 r2 q2
noncomputable def eqB (_:Heap) (a b:Bool):Prop:=a=b
theorem dx6 {l r:Expr} {op:CmpOp} {pos:Pos} {Q:Bool→HL→Prop}
  (h:TE pG w hb sc n X ρ l H fun a H1=>TE pG w hb sc n X ρ r H1 fun b H2=>Op pG w hb n X (RepV pG w) (G0 (compareOp op)) [a,b] H2 fun c H3=>∃ t,c=.dat (.bool t)∧Q t H3)
  (hm:behindInMarks op r=false:=by rfl):TB pG w hb sc n X ρ (.Compare l [op] [r] pos) H Q:=by
 refine .intro fun env A Z s R E p ex k=>wpAny_isTrue_Compare1 ?_ hm
 refine h.run p ex fun s1 p1 ex1 u1 r1 q1=>?_
 (refine oA q1 ?_;clear q1;rintro rfl q1)
 refine q1.run p1 ex1 fun s2 p2 ex2 u2 r2 q2=>?_
 (refine oA q2 ?_;clear q2;rintro rfl q2)
 refine q2.run p2 (.cons (r1.mono u2) (.cons r2 .nil)) ex2 fun s3 p3 ex3 u3 r3 q3=>?_
 (refine c9 q3 ?_;clear q3;rintro t rfl q3)
 replace r3:Rd _ _ _:=r3.inv
 (refine oE r3 ?_;clear r3;intro as r3)
 cases r3
 exact lz4 (k (p.tr p2 (p.tr p1 s1 s2) s3) p3 rfl ⟨rfl,q3⟩)
theorem iw8 {x:Expr} {pos:Pos} {Q:Bool→HL→Prop} (h:TB pG w hb sc n X ρ x H fun c H1=>Q (!c) H1):TB pG w hb sc n X ρ (.UnaryOp .Not x pos) H Q:=by
 refine .intro fun env A Z s R E p ex k=>wpAny_isTrue_Not ?_
 refine h.run p ex fun s1 p1 ex1 u1 r1 q1=>?_
 (replace r1:=r1.symm;subst r1)
 exact k s1 p1 rfl q1
theorem dx7 {Q:Bool→HL→Prop} (q:Q true H):Tri pG w hb sc n X (fun _ (a b:Bool)=>a=b) (allTrue .And []) ρ H (fun d ρ' H'=>ρ'=ρ∧Q d H') :=
 .intro fun env A Z s R E p ex k=>wpAny_allTrue_And_nil (k (.refl ..) p rfl ⟨rfl,q⟩)
theorem ek3 {Q:Bool→HL→Prop} (q:Q false H):Tri pG w hb sc n X (fun _ (a b:Bool)=>a=b) (allTrue .Or []) ρ H (fun d ρ' H'=>ρ'=ρ∧Q d H') :=
 .intro fun env A Z s R E p ex k=>wpAny_allTrue_Or_nil (k (.refl ..) p rfl ⟨rfl,q⟩)
theorem jq0 {x:Expr} {rest:List Expr} {Q:Bool→HL→Prop}
  (h:TB pG w hb sc n X ρ x H fun c H1=>(c=true→Tri pG w hb sc n X (fun _ (a b:Bool)=>a=b) (allTrue .And rest) ρ H1 (fun d ρ' H'=>ρ'=ρ∧Q d H'))∧(c=false→Q false H1)) :
  Tri pG w hb sc n X (fun _ (a b:Bool)=>a=b) (allTrue .And (x::rest)) ρ H (fun d ρ' H'=>ρ'=ρ∧Q d H'):=by
 refine .intro fun env A Z s R E p ex k=>wpAny_allTrue_And_cons ?_
 refine h.run p ex fun {v s' Z' d ρ' H'} s1 p1 ex1 u1 r1 q1=>?_
 (refine oA q1 ?_;clear q1;rintro rfl q1)
 subst r1
 induction v using Ql with
 | true=>exact (q1.1 rfl).run p1 ex1 fun s2 p2 ex2 u2 r2 q2=>k (p.tr p1 s1 s2) p2 r2 q2
 | false=>exact k s1 p1 rfl ⟨rfl,q1.2 rfl⟩
theorem ta_or {x:Expr} {rest:List Expr} {Q:Bool→HL→Prop}
  (h:TB pG w hb sc n X ρ x H fun c H1=>(c=false→Tri pG w hb sc n X (fun _ (a b:Bool)=>a=b) (allTrue .Or rest) ρ H1 (fun d ρ' H'=>ρ'=ρ∧Q d H'))∧(c=true→Q true H1)) :
  Tri pG w hb sc n X (fun _ (a b:Bool)=>a=b) (allTrue .Or (x::rest)) ρ H (fun d ρ' H'=>ρ'=ρ∧Q d H'):=by
 refine .intro fun env A Z s R E p ex k=>wpAny_allTrue_Or_cons ?_
 refine h.run p ex fun {v s' Z' d ρ' H'} s1 p1 ex1 u1 r1 q1=>?_
 (refine oA q1 ?_;clear q1;rintro rfl q1)
 subst r1
 induction v using Ql with
 | false=>exact (q1.1 rfl).run p1 ex1 fun s2 p2 ex2 u2 r2 q2=>k (p.tr p1 s1 s2) p2 r2 q2
 | true=>exact k s1 p1 rfl ⟨rfl,q1.2 rfl⟩
theorem dw1 {op:BoolOp} {vs:List Expr} {pos:Pos} {Q:Bool→HL→Prop} (h:Tri pG w hb sc n X (fun _ (a b:Bool)=>a=b) (allTrue op vs) ρ H (fun d ρ' H'=>ρ'=ρ∧Q d H')) :
  TB pG w hb sc n X ρ (.BoolOp op vs pos) H Q :=
 .intro fun env A Z s R E p ex k=>wpAny_isTrue_BoolOp (h.run p ex fun s1 p1 u_ u_ r q=>k s1 p1 r q)
theorem iw7 {e:Expr} {Q:Bool→HL→Prop}
  (h:TE pG w hb sc n X ρ e H fun a H1=>Op pG w hb n X (fun _ (a b:Bool)=>a=b) (op1 truthy) [a] H1 Q)
  (he:∀ env whole,isTrue e env whole=(do let v ← whole;standAt e.pos;holding [v] (truthy v)):=by intro _ _;rfl):TB pG w hb sc n X ρ e H Q:=by
 refine .intro fun env A Z s R E p ex k=>wpAny_isTrue_value ?_ (he _ _)
 refine h.run p ex fun s1 p1 ex1 u1 r1 q1=>?_
 (refine oA q1 ?_;clear q1;rintro rfl q1)
 exact q1.run p1 (.cons r1 .nil) ex1 fun s2 p2 ex2 u2 r2 q2=>k (p.tr p1 s1 s2) p2 r2 ⟨rfl,q2⟩
theorem iw5 {v i:Expr} {pos:Pos} {Q:VP}
  (h:TE pG w hb sc n X ρ v H fun a H1=>TE pG w hb sc n X ρ i H1 fun b H2=>Op pG w hb n X (RepV pG w) (G0 (subscriptTail v i)) [a,b] H2 Q):TE pG w hb sc n X ρ (.Subscript v i pos) H Q:=by
 refine .intro fun env A Z s R E p ex k=>Subscript_ ?_
 refine h.run p ex fun s1 p1 ex1 u1 r1 q1=>?_
 (refine oA q1 ?_;clear q1;rintro rfl q1)
 refine q1.run p1 ex1 fun s2 p2 ex2 u2 r2 q2=>?_
 (refine oA q2 ?_;clear q2;rintro rfl q2)
 exact q2.run p2 (.cons (r1.mono u2) (.cons r2 .nil)) ex2 fun s3 p3 ex3 u3 r3 q3=>k (p.tr p2 (p.tr p1 s1 s2) s3) p3 r3 ⟨rfl,q3⟩
theorem hk6 {v:Expr} {attr:Str} {pos:Pos} {Q:VP}
  (h:TE pG w hb sc n X ρ v H fun a H1=>Op pG w hb n X (RepV pG w) (op1 fun o=>getAttr o attr true) [a] H1 Q)
  (he:∀ env,eval (.Attribute v attr pos) env=(do
   let o ← eval v env
   standAt pos.atName
   let r ← holding [o] (getAttr o attr true)
   letTemporaryGo v o r
   pure r):=by intro _;with_unfolding_all rfl):TE pG w hb sc n X ρ (.Attribute v attr pos) H Q:=by
 refine .intro fun env A Z s R E p ex k=>Attribute_any_ ?_ (he env)
 refine h.run p ex fun s1 p1 ex1 u1 r1 q1=>?_
 (refine oA q1 ?_;clear q1;rintro rfl q1)
 exact q1.run p1 (.cons r1 .nil) ex1 fun s2 p2 ex2 u2 r2 q2=>k (p.tr p1 s1 s2) p2 r2 ⟨rfl,q2⟩
noncomputable abbrev TEs (pG:Program) (w:World) (hb:Heap) (sc:Scope) (n:Nat) (X:Xs) (ρ:c8) (pos:Pos) (es:List Expr) (H:HL) (Q:List V→HL→Prop):Prop :=
 Tri pG w hb sc n X (RepL pG w) (fun env=>spliced (backTo pos (starEach es env))) ρ H (fun d ρ' H'=>ρ'=ρ∧Q d H')
theorem hj6 {pos:Pos} {Q:List V→HL→Prop} (q:Q [] H):TEs pG w hb sc n X ρ pos [] H Q :=
 .intro fun env A Z s R E p ex k=>lq3 (k (.refl ..) p .nil ⟨rfl,q⟩)
theorem fk7 {pos:Pos} {e:Expr} {es:List Expr} {Q:List V→HL→Prop}
  (h:TE pG w hb sc n X ρ e H fun a H1=>TEs pG w hb sc n X ρ pos es H1 fun ds H2=>Q (a::ds) H2)
  (he:∀ env,starEach (e::es) env=(false,eval e env)::starEach es env:=by intro _;rfl):TEs pG w hb sc n X ρ pos (e::es) H Q:=by
 refine .intro fun env A Z s R E p ex k=>lq1 ?_ (he env)
 refine h.run p ex fun s1 p1 ex1 u1 r1 q1=>?_
 (refine oA q1 ?_;clear q1;rintro rfl q1)
 refine q1.run p1 ex1 fun s2 p2 ex2 u2 r2 q2=>?_
 (refine oA q2 ?_;clear q2;rintro rfl q2)
 exact k (p.tr p1 s1 s2) p2 (.cons (r1.mono u2) r2) ⟨rfl,q2⟩
theorem fk8 {es:List Expr} {kk:Nat} {pos:Pos} {Q:VP} (h:TEs pG w hb sc n X ρ pos es H fun ds H1=>Op pG w hb n X (RepV pG w) newTuple ds H1 Q) :
  TE pG w hb sc n X ρ (.Tuple es kk pos) H Q:=by
 refine .intro fun env A Z s R E p ex k=>Tuple_ ?_
 refine h.run p ex fun s1 p1 ex1 u1 r1 q1=>?_
 (refine oA q1 ?_;clear q1;rintro rfl q1)
 exact q1.run p1 r1 ex1 fun s2 p2 ex2 u2 r2 q2=>k (p.tr p1 s1 s2) p2 r2 ⟨rfl,q2⟩
theorem hj8 {es:List Expr} {pos:Pos} {Q:VP} (h:TEs pG w hb sc n X ρ pos es H fun ds H1=>Op pG w hb n X (RepV pG w) newList ds H1 Q) :
  TE pG w hb sc n X ρ (.List es pos) H Q:=by
 refine .intro fun env A Z s R E p ex k=>List_ ?_
 refine h.run p ex fun s1 p1 ex1 u1 r1 q1=>?_
 (refine oA q1 ?_;clear q1;rintro rfl q1)
 exact q1.run p1 r1 ex1 fun s2 p2 ex2 u2 r2 q2=>k (p.tr p1 s1 s2) p2 r2 ⟨rfl,q2⟩
end
section
variable {pG:Program} {w:World} {hb:Heap} {sc:Scope} {env:Env} {A:Around} {n:Nat} {X:Xs} {Z Z':List Addr} {ρ ρ':c8} {H H':HL} {s s' s'':Shared} {ow:List Addr} {L:Option Addr} {e:Addr}
theorem ThrH.then_ (t:ThrH hb A ow H s s') (ch:List Addr) (hl:∀ a∈ch,Late ow H s a)
  (k:∀ a o,s'.heap.get? a=some o→a∉ch→a∉O3 A→s''.heap.get? a=some o) (f:∀ a o,s'.heap.get? a=some o→a∉ch→a∈O3 A→∃ sl,s''.heap.get? a=some { o with slots:=sl })
  (nf:∀ a∈ch,∀ o,s'.heap.get? a=some o→∃ vs,o.data=.fields vs) (os:s''.os=s'.os) (gens:s''.gens=s'.gens):ThrH hb A ow H s s'':=by
 have nch:∀ a o,s.heap.get? a=some o→a∉ow→a∉foots H→a∉ch:=fun a o e n1 n2 q=>by
  refine Qa (hl a q o e) (fun h=>?_) fun h=>?_
  ·exact n1 h
  ·exact n2 h
 refine ⟨fun a o e n1 n2 n3=>k a o (t.keep a o e n1 n2 n3) (nch a o e n1 n2) n3,fun a o e n1 n2 n3=>?_,fun l hl=>?_,os.trans t.os,gens.trans t.gens⟩
 ·refine oE (t.slots a o e n1 n2 n3) fun sl q=>?_
  refine oE (f a _ q (nch a o e n1 n2) n3) fun sl' q'=>?_
  exact ⟨sl',q'⟩
 ·refine v8 (fun L hL o ho hd=>?_) (t.frames l hl)
  refine oE (f L o ho (fun q=>by
   refine oE (nf L q o ho) fun vs h=>?_
   exact hd vs h) (by rw [O3,hl];exact hL)) fun sl q=>?_
  exact ⟨_,q,hd⟩
noncomputable def dj9 (L:Addr):Option Value→Prop:=fun f=>f=some (rawInt L)
theorem ThrH.late (t:ThrH hb A ow H s s') {a:Addr} (h:s'.heap.get? a=none):Late ow H s a:=fun o e=>by
 by_cases h1:a∈ow
 ·exact .inl h1
 ·by_cases h2:a∈foots H
  ·exact .inr h2
  ·by_cases h3:a∈O3 A
   ·refine oE (t.slots a o e h1 h2 h3) fun sl q=>?_
    exact a7 q h
   ·exact a7 (t.keep a o e h1 h2 h3) h
theorem bj0 {T:Value} {M:Model} {E:Value→Shared→Prop} {Q:Unit→Shared→Prop} {hadNext:Bool} {L:Addr} {outer:List Env} (hfr:A.frames=some (env::outer)) (hf:env.frame=some L)
  (t:ThrH hb A ow H s s') (lt:Late ow H s e)
  {oe:Obj} {vs:Array Value} (he:s'.heap.get? e=some oe) (hc:oe.cls=cv8) (hd:oe.data=.fields vs) (h1:1<vs.size)
  (q:∀ s'',ThrH hb A ow H s s''→ExcAt ow H s e s'' (dj9 L)→Q () s'') :
  wpAny M A (do let a ← frameOf env;let pl ← entryPlaceOf L hadNext;let b ← EntryCells.newEntry T a .none (rawInt L) .none pl;setField (.ref e) 1 b) Q E s':=by
 have hl:=t.frames _ hfr
 have hene:e∉(env::outer).filterMap (·.frame):=fun hm=>by
  obtain ⟨_,o,ho,hnf⟩:=hl.mem hm
  rw [he] at ho;injection ho with ho;subst ho;exact hnf vs hd
 refine jk9 (wpAny_frameOf_fun hfr hl hf fun h₁ hs₁=>?_)
 refine jk9 (wpAny_entryPlaceOf fun pl hpl=>?_)
 refine jk9 (kj5 ?_ (hpl.sizeOk5 _ _ _ _ _))
 have he₁:h₁.get? e=some oe:=(hs₁.2.1 e hene).trans he
 generalize hob:({ cls:=.type "traceback",dict:=none,data:=.fields ([T,.ref L,.none,rawInt L,.none]++(if pl.isEmpty then List.replicate 6 Value.none else pl)).toArray }:Obj)=ob
 have he₂:=Qb (h:=h₁) ob he₁
 refine kv1 he₂ hd h1 ?_
 have hTe:h₁.objs.size≠e:=kj2 (Qi he₁)
 have hd₃:=Obj.data_mapFields hd (·.setIfInBounds 1 (Value.ref h₁.objs.size))
 have he₃:=Qj (Qn (·.setIfInBounds 1 (Value.ref h₁.objs.size))) he₂ (Obj.isFreed_of_fields hd₃)
 have hT₃:(((h₁.push ob).update e (Qn (·.setIfInBounds 1 (Value.ref h₁.objs.size))))).get? h₁.objs.size=some ob :=
  (Qk _ _ (Ne.symm hTe)).trans (Qc h₁ (by subst hob;rfl))
 have hTn:s'.heap.get? h₁.objs.size=none:=by
  have:h₁.objs.size=s'.heap.objs.size:=hs₁.1
  refine a5 this ?_;exact Qf (jw4 _)
 have kk:∀ a o,h₁.get? a=some o→a≠e→((h₁.push ob).update e (Qn (·.setIfInBounds 1 (Value.ref h₁.objs.size)))).get? a=some o:=fun a o q n =>
  (Qk _ _ (Ne.symm n)).trans (Qb _ q)
 have eF:(env::outer).filterMap (·.frame)=O3 A:=by rw [O3,hfr];rfl
 refine q _ (t.then_ [e] (fun a ha=>by refine a5 (jv4.mp ha) ?_;exact lt) (fun a o e' n1 n2=>kk a o ((hs₁.2.1 a (eF▸n2)).trans e') fun q=>n1 (by simp [q])) (fun a o e' n1 n2=>?_) (fun a ha o ho=>?_) rfl rfl) ?_
 ·refine oE (hs₁.2.2 a o e') fun sl h=>?_
  exact ⟨sl,kk a _ h fun q=>n1 (by simp [q])⟩
 ·rw [jv4.mp ha,he] at ho
  (injection ho with i;subst i)
  exact ⟨vs,hd⟩
 ·refine ⟨lt,_,_,he₃,(Obj.cls_mapFields _ _).trans hc,hd₃,.inr ⟨h₁.objs.size,ob,_,rawInt L,by simp [h1],hTe,t.late hTn,hT₃,by subst hob;rfl,?_,rfl⟩⟩
  first | (rfl;done) | (rcases hpl with rfl | ⟨_,_,_,_,_,_,_,rfl⟩ <;> simp)
theorem ak9 {M:Model} {E:Value→Shared→Prop} {Q:Unit→Shared→Prop} {L:Addr} {outer:List Env} (hfr:A.frames=some (env::outer)) (hf:env.frame=some L)
  (t:Thr hb A ow (some L) H s e s') (q:∀ s'',ThrH hb A ow H s s''→ExcAt ow H s e s'' (dj9 L)→Q () s''):wpAny M A (noteFrame (.ref e) env) Q E s':=by
 obtain ⟨th,lt,oe,vs,he,hc,hd,h⟩:=t
 dsimp only [noteFrame]
 simp only [hf]
 (refine Qa h ?_ ?_;rintro ⟨h1,_⟩;rotate_left;(intro yz;refine k8 yz fun T oT ts f y=>w6 y fun h1 hTe hTl hT yy=>J7 yy fun hdT h3 hfl=>?_);rotate_left)
 ·refine jk9 (kw1 he hd h1 ?_)
  refine a5 (if_neg (by exact Bool.noConfusion)) ?_
  exact bj0 hfr hf th lt he hc hd (kz5.mp h1).1 q
 ·refine jk9 (kw1 he hd h1 ?_)
  refine a5 (if_pos (show (Value.ref T != Value.none)=true from by rfl)) ?_
  refine jk9 (kw1 hT hdT h3 ?_)
  rcases hfl with rfl | ⟨l,hl,rfl⟩
  ·refine a5 (if_neg (show ¬((Value.none == rawInt L)=true) from by exact Bool.noConfusion)) ?_
   refine jk9 (kv1 hT hdT (kz5.mp h3).1 ?_)
   have other:∀ b,b≠T→(s'.heap.update T (Qn (·.setIfInBounds 3 Value.none))).get? b=s'.heap.get? b:=fun b hb=>Qk _ _ (Ne.symm hb)
   have th':ThrH hb A ow H s { s' with heap:=s'.heap.update T (Qn (·.setIfInBounds 3 Value.none)) } :=
    th.then_ [T] (fun a ha=>by refine a5 (jv4.mp ha) ?_;exact hTl) (fun a o e' n1 u_=>(other a fun q=>n1 (by simp [q])).trans e') (fun a o e' n1 u_=>⟨o.slots,(other a fun q=>n1 (by simp [q])).trans e'⟩)
     (fun a ha o ho=>by rw [jv4.mp ha,hT] at ho;(injection ho with i;subst i);exact ⟨ts,hdT⟩) rfl rfl
   exact bj0 hfr hf th' lt ((other e (Ne.symm hTe)).trans he) hc hd (kz5.mp h1).1 q
  ·(injection hl with i;subst i)
   refine a5 (if_pos (show (rawInt L == rawInt L)=true from by exact if_pos rfl)) ?_
   exact jv5 (q _ th ⟨lt,oe,vs,he,hc,hd,.inr ⟨T,oT,ts,_,h1,hTe,hTl,hT,hdT,h3,rfl⟩⟩)
theorem T9 {M:Model} {E:Value→Shared→Prop} {Q:Unit→Shared→Prop} {L:Addr} {fr:Option Addr} (th:ThrH hb A ow H s s') (ex:ExcAt ow H s e s' (dj9 L))
  (q:∀ s'',ThrH hb A ow H s s''→ExcAt ow H s e s'' (fun f=>f=some (fr.elim .none fun l=>rawInt l))→Q () s''):wpAny M A (setFlight (.ref e) fr) Q E s':=by
 refine V7 ex fun lt oe y=>o4 y fun vs he hc hd h=>?_
 (refine Qa h ?_ ?_;(intro yz;refine oA yz fun h1 h=>?_);rotate_left;(intro yz;refine k8 yz fun T oT ts f y=>w6 y fun h1 hTe hTl hT yy=>J7 yy fun hdT h3 hfl=>?_);rotate_left)
 ·exact nn h
 ·skip
  refine jk9 (kw1 he hd h1 ?_)
  refine a5 (if_pos (show (Value.ref T != Value.none)=true from by rfl)) ?_
  refine kv1 hT hdT (kz5.mp h3).1 ?_
  have other:∀ b,b≠T→(s'.heap.update T (Qn (·.setIfInBounds 3 (fr.elim Value.none fun l=>rawInt l)))).get? b=s'.heap.get? b:=fun b hb=>Qk _ _ (Ne.symm hb)
  refine q _ (th.then_ [T] (fun a ha=>by refine a5 (jv4.mp ha) ?_;exact hTl) (fun a o e' n1 u_=>(other a fun q=>n1 (by simp [q])).trans e') (fun a o e' n1 u_=>⟨o.slots,(other a fun q=>n1 (by simp [q])).trans e'⟩)
     (fun a ha o ho=>by rw [jv4.mp ha,hT] at ho;(injection ho with i;subst i);exact ⟨ts,hdT⟩) rfl rfl) ?_
  have hd':=Obj.data_mapFields hdT (·.setIfInBounds 3 (fr.elim Value.none fun l=>rawInt l))
  have hlt:=(kz5.mp h3).1
  exact ⟨lt,oe,vs,(other e (Ne.symm hTe)).trans he,hc,hd,.inr ⟨T,_,_,_,h1,hTe,hTl,Qj _ hT (Obj.isFreed_of_fields hd'),hd',by simp [hlt],rfl⟩⟩
theorem cv9 {E:Value→Shared→Prop} (fm:X.fr→FmE A env hb Z H s) (k:Exn hb A env X H s E):Exn hb A env X H s (notedBy (model pG w) A env (cameBackBy (model pG w) A env E)):=fun hx e s' t=>by
 obtain ⟨⟨⟨l0,hl0,_⟩,_⟩,l,hl,hfr,_⟩:=fm (X.imp hx)
 refine ak9 hl hfr t fun s2 th ex=>?_
 refine V7 (id ex) fun lt oe y=>o4 y fun vs he hc hd h=>?_
 (refine Qa h ?_ ?_;(intro yz;refine oA yz fun h1 h=>?_);rotate_left;(intro yz;refine k8 yz fun T oT ts f y=>w6 y fun h1 hTe hTl hT yy=>J7 yy fun hdT h3 hfl=>?_);rotate_left)
 ·exact nn h
 ·refine jk9 (kw1 he hd h1 ?_)
  refine a5 (if_neg (show ¬((Value.ref T == Value.none)=true) from by exact Bool.noConfusion)) ?_
  refine T9 th ex fun s3 th3 ex3=>?_
  refine k hx e s3 ⟨th3,ex3.imp fun x hx'=>?_⟩
  subst hx'
  refine a5 hfr ?_
  exact .inr ⟨_,rfl,rfl⟩
theorem bz9 {M:Model} {E:Value→Shared→Prop} {Q:Unit→Shared→Prop} {L:Addr} {outer:List Env} (hfr:A.frames=some (env::outer)) (hf:env.frame=some L)
  (t:Thr hb A ow (some L) H s e s') (q:∀ s'',ThrH hb A ow H s s''→ExcAt ow H s e s'' (flOk none)→Q () s''):wpAny M A (leaving env (.ref e)) Q E s':=by
 exact jk9 (ak9 hfr hf t fun s2 th ex=>T9 (fr:=none) th ex fun s3 th3 ex3=>q s3 th3 (ex3.imp fun x hx=>by subst hx;exact .inl rfl))
end
section
variable {pG:Program} {w:World} {hb:Heap} {sc:Scope} {env:Env} {A:Around} {n:Nat} {X:Xs} {Z Z':List Addr} {ρ ρ':c8} {H H':HL} {s s':Shared}
theorem RepO.mono {g g' h h':Heap} {a:Addr} {o:O} (k:Sub g g') (f:∀ b∈o.foot a,∀ x,h.get? b=some x→h'.get? b=some x) (r:RepO pG w g h a o):RepO pG w g' h' a o:=by
 induction o using Mine.O.casesOn with
 | lst xs =>
  refine y9 r fun vs m h1 h2=>?_
  exact ⟨vs,m,f a (by exact kz6 _) _ h1,h2.mono k⟩
 | dct ds =>
  (refine o9 r ?_;(intro kvs yz;refine w5 yz fun o es ep ho q=>?_;rintro h2 h3))
  exact ⟨kvs,⟨o,es,ep,f a (by exact kz6 _) _ ho,q⟩,RdD.mono k h2,h3⟩
 | raw o=>exact f a (by exact kz6 _) _ r
 | inst C dx fs =>
  obtain ⟨h1,es,m,h2,h3⟩:=r
  exact ⟨f a (by exact jv0) _ h1,es,m,f dx (by simp [O.foot]) _ h2,RepF.mono k h3⟩
theorem Sat.same {a:Addr} {h':Heap} {t:Nat} (x:Sat pG w hb Z H s) (hz:a∈Z) (hf:a∉foots H) (sb:Heap.SameBut a s.heap h') (hl:∃ o,h'.get? a=some o):Sat pG w hb Z H { s with heap:=h',toks:=t }:=by
 have up:∀ b o,b≠a→s.heap.get? b=some o→h'.get? b=some o:=fun b o n e=>(sb.2 b n).trans e
 have hm:Sub (f7 s Z) (f7 { s with heap:=h',toks:=t } Z):=fun b o e=>by
  refine oA (c7 e) fun e1 nz=>?_
  exact k9 (up b o (fun q=>nz (q▸hz)) e1) nz
 refine ⟨x.bs,x.base.trans hm,fun b m=>?_,x.sub,x.nd,fun p hp=>?_,x.gens⟩
 ·refine oE (x.zlt b m) fun o e=>?_
  by_cases hb:b=a
  ·(replace hb:=hb.symm;subst hb)
   exact hl
  ·exact ⟨o,up b o hb e⟩
 obtain ⟨b,o⟩:=p
 exact (x.own _ hp).mono hm fun c hc y e=>up c y (fun q=>hf (q▸r9 hp hc)) e
theorem Step.same {a:Addr} {h':Heap} {t:Nat} {ow:List Addr} (ha:a∈ow) (sb:Heap.SameBut a s.heap h'):Step ow Z H s Z H { s with heap:=h',toks:=t } :=
 ⟨fun b o e n1 n2=>(sb.2 b (fun q=>n1 (q▸ha))).trans e,fun u_ h=>.inl h,fun u_ h=>.inl h,fun u_ h=>.inl h,rfl⟩
theorem lookup_cons_self {x:Str} {d:V}:List.lookup x ((x,d)::ρ)=some d:=by simp [List.lookup]
theorem O1 {x y:Str} {d:V} (h:y≠x):List.lookup y ((x,d)::ρ)=ρ.lookup y:=by
 have:(y == x)=false:=by exact if_neg h
 simp [List.lookup,this]
theorem SatE.storeLocal {x:Str} {v:Value} {d:V} {m:Str→Option Value} {h':Heap} {t:Nat} (y:SatE pG w hb env Z ρ H s) (hm:iv7 pG w (f7 s Z) s.heap env m ρ) (hk:env.kindOf x=some .local)
  (r:RepV pG w (f7 s Z) v d) (hn:h'.Ns env.locals fun y=>if y=x then some v else m y) (sb:Heap.SameBut env.locals s.heap h'):SatE pG w hb env Z ((x,d)::ρ) H { s with heap:=h',toks:=t }:=by
 have hL:env.locals∈own env:=jv0 ..
 have st:Step (own env) Z H s Z H { s with heap:=h',toks:=t }:=.same hL sb
 have nd:=y.ondup
 have kc:∀ c v,(∃ n,env.cells.lookup n=some c)→s.heap.IsCell c v→h'.IsCell c v:=fun c v y hi=>oE y fun n hc=>hi.sameBut sb fun q=>by
  have:c∈env.cells.map (·.2):=jw3 (Qe hc)
  rw [q] at this
  exact (kq6.mp nd).1 this
 refine { toSat:=y.toSat.same (y.ownZ _ hL) (y.ownH _ hL) sb (oE hn fun o hn=>oE hn fun _ hn=>oE hn fun _ hn=>⟨o,hn.1⟩),ownZ:=y.ownZ,ownH:=y.ownH,ondup:=y.ondup,cells:=fun n c hc=>?_,ns:=⟨_,hn,fun n e hn=>?_⟩ }
 ·refine oE (y.cells n c hc) fun v hv=>?_
  exact ⟨v,kc c v ⟨n,hc⟩ hv⟩
 ·by_cases hx:n=x
  ·(replace hx:=hx.symm;subst hx)
   rw [lookup_cons_self] at hn
   (injection hn with i;subst i)
   exact ⟨v,r.mono (y.mono st),.inl ⟨hk,by exact if_pos rfl⟩⟩
  ·rw [O1 hx] at hn
   refine c9 (hm n e hn) fun u hu q=>?_
   refine ⟨u,hu.mono (y.mono st),q.imp (fun q=>⟨q.1,by simp [hx,q.2]⟩) fun z=>oA z fun k z=>c9 z fun c hc hi=>⟨k,c,hc,kc c _ ⟨n,hc⟩ hi⟩⟩
theorem Sat.grow {h':Heap} {t:Nat} (x:Sat pG w hb Z H s) (k:Sub s.heap h'):Sat pG w hb Z H { s with heap:=h',toks:=t }:=by
 have hm:Sub (f7 s Z) (f7 { s with heap:=h',toks:=t } Z):=fun b o e=>by
  refine oA (c7 e) fun e1 nz=>?_
  exact k9 (k b o e1) nz
 refine ⟨x.bs,x.base.trans hm,fun b m=>?_,x.sub,x.nd,fun p hp=>?_,x.gens⟩
 ·refine oE (x.zlt b m) fun o e=>?_
  exact ⟨o,k _ _ e⟩
 ·obtain ⟨b,o⟩:=p
  exact (x.own _ hp).mono hm fun c hc y e=>k c y e
theorem Step.grow {h':Heap} {t:Nat} {ow:List Addr} (k:Sub s.heap h'):Step ow Z H s Z H { s with heap:=h',toks:=t } :=
 ⟨fun b o e n1 n2=>k b o e,fun u_ h=>.inl h,fun u_ h=>.inl h,fun u_ h=>.inl h,rfl⟩
theorem Pt.grow {h':Heap} {t:Nat} (p:Pt pG w hb sc env A n X Z ρ H s) (k:Sub s.heap h'):Pt pG w hb sc env A n X Z ρ H { s with heap:=h',toks:=t } :=
 p.step (.grow k) (p.sat.back (.grow k) (p.sat.toSat.grow k))
theorem G8 {h':Heap} {t:Nat} (k:Sub s.heap h'):Sub (f7 s Z) (f7 { s with heap:=h',toks:=t } Z):=fun b o e=>by
 refine oA (c7 e) fun e1 nz=>?_
 exact k9 (k b o e1) nz
theorem t7 (h:Heap) (o:Obj):Sub h (h.push o):=fun u_ u_ e=>Qb _ e
noncomputable def TA (pG:Program) (w:World) (hb:Heap) (sc:Scope) (n:Nat) (X:Xs) (ρ:c8) (t:Expr) (d:V) (H:HL) (Q:c8→HL→Prop):Prop :=
 ∀ env A Z s v (R:Unit→Shared→Prop) (E:Value→Shared→Prop),Pt pG w hb sc env A n X Z ρ H s→RepV pG w (f7 s Z) v d→Exn hb A env X H s E →
  (∀ {s' Z' ρ' H'},Step (own env) Z H s Z' H' s'→Pt pG w hb sc env A n X Z' ρ' H' s'→Exn hb A env X H' s' E→Sub (f7 s Z) (f7 s' Z')→Q ρ' H'→R () s')→wpAny (model pG w) A (assign t env v) R E s
theorem fv5 {x:Str} {pos:Pos} {d:V} {Q:c8→HL→Prop} (hk:sc.names.lookup x=some .local) (q:Q ((x,d)::ρ) H):TA pG w hb sc n X ρ (.Name x pos) d H Q:=by
 intro env A Z s v R E p r ex k
 refine c9 p.sat.ns fun m hn hm=>?_
 have hk':env.kindOf x=some .local:=by refine a5 (p.eok.kindOf ..) ?_;exact hk
 refine PyProof.Rows.assign_Name (nq4 hk' hn (fun h' hn' hs'=>?_) (by refine a5 p.eok.fn ?_;rfl))
 have y:=p.sat.storeLocal (t:=s.toks+1) hm hk' r hn' hs'
 have st:Step (own env) Z H s Z H { s with heap:=h',toks:=s.toks+1 }:=.same (jv0 ..) hs'
 exact k st (p.step st y) (ex.step p.sat.toSat st y.toSat) (p.sat.mono st) q
theorem fz0 {env:Env} (nd:(own env).Nodup) {x y:Str} {c:Addr} (hx:env.cells.lookup x=some c) (hy:env.cells.lookup y=some c):x=y:=by
 have nd':(env.cells.map (·.2)).Nodup:=(kq6.mp nd).2
 have hp:env.cells.Pairwise fun a b=>a.2≠b.2:=by rw [List.Nodup,kv8] at nd';exact nd'
 exact PySem.name_of_addr hp (Qe hx) (Qe hy)
theorem SatE.storeCell {x:Str} {v:Value} {d:V} {c:Addr} {h':Heap} {t:Nat} (y:SatE pG w hb env Z ρ H s) (hk:env.kindOf x=some .cell∨env.kindOf x=some .free) (hc:env.cells.lookup x=some c)
  (r:RepV pG w (f7 s Z) v d) (hn:h'.IsCell c (some v)) (sb:Heap.SameBut c s.heap h'):SatE pG w hb env Z ((x,d)::ρ) H { s with heap:=h',toks:=t }:=by
 have hC:c∈own env:=jv3 _ (jw3 (Qe hc))
 have st:Step (own env) Z H s Z H { s with heap:=h',toks:=t }:=.same hC sb
 have nd:=y.ondup
 have hL:env.locals≠c:=fun q=>(kq6.mp nd).1 (q▸jw3 (Qe hc))
 refine c9 y.ns fun m hns hm=>?_
 refine { toSat:=y.toSat.same (y.ownZ _ hC) (y.ownH _ hC) sb (let ⟨o,e,_⟩:=hn;⟨o,e⟩),ownZ:=y.ownZ,ownH:=y.ownH,ondup:=y.ondup,cells:=fun n c' hc'=>?_,ns:=⟨m,hns.sameBut sb hL,fun n e hn'=>?_⟩ }
 ·by_cases q:c'=c
  ·(replace q:=q.symm;subst q);exact ⟨_,hn⟩
  ·refine oE (y.cells n c' hc') fun u hu=>?_
   exact ⟨u,hu.sameBut sb q⟩
 ·by_cases hx:n=x
  ·(replace hx:=hx.symm;subst hx)
   rw [lookup_cons_self] at hn'
   (injection hn' with i;subst i)
   exact ⟨v,r.mono (y.mono st),.inr ⟨hk,c,hc,hn⟩⟩
  ·rw [O1 hx] at hn'
   refine c9 (hm n e hn') fun u hu q=>?_
   exact ⟨u,hu.mono (y.mono st),q.imp id fun z=>oA z fun k z=>c9 z fun c' hc' hi=>⟨k,c',hc',hi.sameBut sb fun e=>hx (fz0 nd hc' (e▸hc))⟩⟩
theorem hk9 {x:Str} {pos:Pos} {d:V} {Q:c8→HL→Prop} (hk:sc.names.lookup x=some .cell) (q:Q ((x,d)::ρ) H):TA pG w hb sc n X ρ (.Name x pos) d H Q:=by
 intro env A Z s v R E p r ex k
 have hk':env.kindOf x=some .cell:=by refine a5 (p.eok.kindOf ..) ?_;exact hk
 refine oE (p.eok.cel x (.inl hk)) fun c hc=>?_
 refine oE (p.sat.cells x c hc) fun u hu=>?_
 refine PyProof.Rows.assign_Name (wpAny_storeName_cell p.eok.fn hk' hc hu fun h' hn' hs'=>?_)
 have y:=p.sat.storeCell (t:=s.toks) (.inl hk') hc r hn' hs'
 have hC:c∈own env:=jv3 _ (jw3 (Qe hc))
 have st:Step (own env) Z H s Z H { s with heap:=h',toks:=s.toks }:=.same hC hs'
 exact k st (p.step st y) (ex.step p.sat.toSat st y.toSat) (p.sat.mono st) q
noncomputable def TAs (pG:Program) (w:World) (hb:Heap) (sc:Scope) (n:Nat) (X:Xs):List Expr→List V→c8→HL→(c8→HL→Prop)→Prop
 | [],[],ρ,H,Q=>Q ρ H
 | t::ts,d::ds,ρ,H,Q=>TA pG w hb sc n X ρ t d H fun ρ1 H1=>TAs pG w hb sc n X ts ds ρ1 H1 Q
 | _,_,_,_,_=>False
noncomputable def V.items:V→Option (List V)
 | .tup ds=>some ds
 | .dat (.tuple xs)=>some (xs.map .dat)
 | _=>none
theorem RepL.length {h:Heap} {ds:List V}:∀ {vs:List Value},RepL pG w h vs ds→vs.length=ds.length:=by
 induction ds with
 | nil=>exact fun {vs} r=>(show vs=[] from r.inv)▸rfl
 | cons d ds ih=>exact fun {vs} r=>a8 r.inv fun v us e _ t=>e▸congrArg Nat.succ (ih t)
theorem RepL.append {g:Heap} {b:List V}:∀ {a:List Value} {c:List Value} {d:List V},RepL pG w g a b→RepL pG w g c d→RepL pG w g (a++c) (b++d):=by
 induction b with
 | nil=>exact fun {a c d} x y=>(show a=[] from x.inv)▸y
 | cons v vs ih=>exact fun {a c d} x y=>a8 x.inv fun v us e r rs=>e▸.cons r (ih rs y)
theorem RepL.ofData {h:Heap} {vs:List Value} {xs:List PyData} (r:RdL h vs xs):RepL pG w h vs (xs.map .dat):=by
 induction r with
 | nil=>exact .nil
 | cons r _ ih=>exact .cons (.dat r) ih
theorem s6 {h:Heap} {v:Value} {d:V} {ds:List V} (r:RepV pG w h v d) (e:d.items=some ds):∃ a vs,v=.ref a∧h.IsTuple a vs∧RepL pG w h vs.toList ds:=by
 induction d using Mine.V.casesOn with
 | tup xs=>exact k8 r.inv fun a o vs n y=>w6 y fun q h1 h2 h3 h4=>⟨_,_,q,⟨_,h1,h2,_,h3⟩,Qm e▸h4⟩
 | dat d =>
  induction d using PySem.PyData.casesOn with
  | tuple xs=>exact oE r.inv fun as r=>k8 (rdi r) fun a o vs n y=>w6 y fun q h1 h2 h3 h4=>⟨_,_,q,⟨_,h1,h2,_,h3⟩,Qm e▸.ofData (bw9 h4)⟩
  | _=>exact nn e
 | _=>exact nn e
theorem j2 {g h:Heap} (k:Sub g h) {a:Addr} {vs:Array Value} (x:g.IsTuple a vs):h.IsTuple a vs:=let ⟨o,ho,r⟩:=x;⟨o,k _ _ ho,r⟩
set_option tactic.hygienic true in
theorem hk7 {Q:c8→HL→Prop} {env:Env} {A:Around} {R:Unit→Shared→Prop} {E:Value→Shared→Prop} (ts:List Expr):∀ {ds:List V} {ρ:c8} {H:HL} {Z:List Addr} {s:Shared} {vs:List Value},
  TAs pG w hb sc n X ts ds ρ H Q→Pt pG w hb sc env A n X Z ρ H s→RepL pG w (f7 s Z) vs ds→Exn hb A env X H s E →
  (∀ {s' Z' ρ' H'},Step (own env) Z H s Z' H' s'→Pt pG w hb sc env A n X Z' ρ' H' s'→Exn hb A env X H' s' E→Sub (f7 s Z) (f7 s' Z')→Q ρ' H'→R () s') →
  wpAny (model pG w) A (assignInOrder (ts.map fun t=>assign t env) vs) R E s:=by
 induction ts with
 | nil =>
  intro ds ρ H Z s vs h p rl ex k
  induction ds using Qh with
  | nil=>(have e:vs=[]:=rl.inv;subst e);exact jv5 (k (.refl ..) p ex (fun u_ u_ e=>e) h)
  | cons d ds=>exact h.elim
 | cons t ts ih =>
  intro ds ρ H Z s vs h p rl ex k
  induction ds using Qh with
  | nil=>exact h.elim
  | cons d ds =>
   (refine a8 rl.inv ?_;rintro v vs rfl r rs)
   refine a5 kx1 ?_
   refine (?_:wpAny _ _ (do holding vs (assign t env v);assignInOrder (ts.map fun t=>assign t env) vs) _ _ _)
   have h:TA pG w hb sc n X ρ t d H fun ρ1 H1=>TAs pG w hb sc n X ts ds ρ1 H1 Q:=h
   refine jk9 (kx6 (h env A Z s v _ E p r ex fun s1 p1 ex1 u1 q1=>?_))
   exact ih q1 p1 (rs.mono u1) ex1 fun s2 p2 ex2 u2 q2=>k (p.tr p1 s1 s2) p2 ex2 (u1.trans u2) q2
theorem ax9 {ts:List Expr} (h:∀ env,(assignEach ts env)=ts.map fun t=>(false,assign t env)) (env:Env):((assignEach ts env).map (·.2))=ts.map (fun t=>assign t env)∧(assignEach ts env).length=ts.length∧(assignEach ts env).findIdx? (·.1)=none:=by
 refine a5 (h ..) ?_
 refine ⟨by exact jw5 ..,by exact jv1 ..,?_⟩
 rw [mj6]
 intro x hx
 obtain ⟨t,_,rfl⟩:=jv9.mp hx
 rfl
theorem fv4 {ts:List Expr} {kk:Nat} {pos:Pos} {d:V} {ds:List V} {Q:c8→HL→Prop} (e:d.items=some ds) (hl:ts.length=ds.length) (h:TAs pG w hb sc n X ts ds ρ H Q)
  (he:∀ env,(assignEach ts env)=ts.map fun t=>(false,assign t env):=by intro _;rfl):TA pG w hb sc n X ρ (.Tuple ts kk pos) d H Q:=by
 intro env A Z s v R E p r ex k
 (refine a8 (s6 r e) ?_;rintro a vs rfl it rl)
 refine J7 (ax9 he env) fun e1 e2 e3=>?_
 refine wpAny_assign_Tuple p.room.handled (j2 (g6 s Z) it) (by refine a5 e2 (a5 hl (p8 rl.length ?_));rfl) e3 fun h' hx=>?_
 have kk:Sub s.heap h':=fun b o q=>hx b o (kz1 (Qi q)) q
 refine a5 e1 ?_
 have p1:=p.grow (t:=s.toks) kk
 exact hk7 ts h p1 (rl.mono (G8 kk)) (ex.step p.sat.toSat (.grow kk) p1.sat.toSat) fun s2 p2 ex2 u2 q2=>k (p.tr p1 (.grow kk) s2) p2 ex2 ((G8 kk).trans u2) q2
noncomputable abbrev TX (pG:Program) (w:World) (hb:Heap) (sc:Scope) (n:Nat) (X:Xs) (ρ:c8) (st:Stmt) (H:HL) (Q:Flw→c8→HL→Prop):Prop :=
 Tri pG w hb sc n X (ej5 pG w) (exec st) ρ H Q
noncomputable def U5 (pG:Program) (w:World) (hb:Heap) (sc:Scope) (n:Nat) (X:Xs) (rest:List Stmt) (Q:Flw→c8→HL→Prop):Flw→c8→HL→Prop
 | .next,ρ,H=>TS pG w hb sc n X ρ rest H Q
 | .brk,ρ,H=>Q .brk ρ H
 | .cont,ρ,H=>Q .cont ρ H
 | .ret v,ρ,H=>Q (.ret v) ρ H
theorem fk1 {Q:Flw→c8→HL→Prop} (q:Q .next ρ H):TS pG w hb sc n X ρ [] H Q :=
 .intro fun env A Z s R E p ex k=>lj6 (k (d:=.next) (.refl ..) p trivial q)
theorem V9 {st:Stmt} {rest:List Stmt} {Q:Flw→c8→HL→Prop} (h:TX pG w hb sc n X ρ st H (U5 pG w hb sc n X rest Q)):TS pG w hb sc n X ρ (st::rest) H Q:=by
 refine .intro fun env A Z s R E p ex k=>lv6 ?_
 refine h.run p ex fun {v s' Z' d ρ' H'} s1 p1 ex1 u1 r1 q1=>?_
 cases v <;> cases d <;> (try exact r1.elim)
 ·exact Tri.run (t:=execs rest) q1 p1 ex1 fun s2 p2 ex2 u2 r2 q2=>k (p.tr p1 s1 s2) p2 r2 q2
 ·exact k (d:=.brk) s1 p1 r1 q1
 ·exact k (d:=.cont) s1 p1 r1 q1
 ·exact k (d:=.ret _) s1 p1 r1 q1
theorem tx_pass {pos:Pos} {Q:Flw→c8→HL→Prop} (q:Q .next ρ H):TX pG w hb sc n X ρ (.Pass pos) H Q :=
 .intro fun env A Z s R E p ex k=>wpAny_Pass (k (d:=.next) (.refl ..) p trivial q)
theorem fj9 {pos:Pos} {Q:Flw→c8→HL→Prop} (q:Q .brk ρ H):TX pG w hb sc n X ρ (.Break pos) H Q :=
 .intro fun env A Z s R E p ex k=>wpAny_Break (k (d:=.brk) (.refl ..) p trivial q)
theorem bz7 {e:Expr} {pos:Pos} {Q:Flw→c8→HL→Prop} (h:TE pG w hb sc n X ρ e H fun d H'=>Q (.ret d) ρ H'):TX pG w hb sc n X ρ (.Return (some e) pos) H Q:=by
 refine .intro fun env A Z s R E p ex k=>mz6 ?_
 refine h.run p ex fun s1 p1 ex1 u1 r1 q1=>?_
 (refine oA q1 ?_;clear q1;rintro rfl q1)
 exact k (d:=.ret _) s1 p1 r1 q1
theorem ik0 {t:Expr} {a b:List Stmt} {pos:Pos} {Q:Flw→c8→HL→Prop}
  (h:TB pG w hb sc n X ρ t H fun c H1=>(c=true→TS pG w hb sc n X ρ a H1 Q)∧(c=false→TS pG w hb sc n X ρ b H1 Q)):TX pG w hb sc n X ρ (.If t a b pos) H Q:=by
 refine .intro fun env A Z s R E p ex k=>wpAny_If ?_
 refine h.run p ex fun {v s' Z' d ρ' H'} s1 p1 ex1 u1 r1 q1=>?_
 (refine oA q1 ?_;clear q1;rintro rfl q1)
 subst r1
 induction v using Ql with
 | true=>exact Tri.run (t:=execs a) (q1.1 rfl) p1 ex1 fun s2 p2 ex2 u2 r2 q2=>k (p.tr p1 s1 s2) p2 r2 q2
 | false=>exact Tri.run (t:=execs b) (q1.2 rfl) p1 ex1 fun s2 p2 ex2 u2 r2 q2=>k (p.tr p1 s1 s2) p2 r2 q2
theorem hz9 {e:Expr} {pos:Pos} {Q:Flw→c8→HL→Prop} (h:TE pG w hb sc n X ρ e H fun d H'=>Q .next ρ H')
  (hs:∀ env,swapsWith e none pos.line env=pure false:=by intro _;rfl):TX pG w hb sc n X ρ (.Expr e pos) H Q:=by
 refine .intro fun env A Z s R E p ex k=>wpAny_Expr_any ?_ (by dsimp only [interactive];refine a5 p.eok.fn ?_;rfl) (hs env)
 refine h.run p ex fun s1 p1 ex1 u1 r1 q1=>?_
 (refine oA q1 ?_;clear q1;rintro rfl q1)
 exact k (d:=.next) s1 p1 trivial q1
theorem aq3 {t e:Expr} {pos:Pos} {Q:Flw→c8→HL→Prop} (h:TE pG w hb sc n X ρ e H fun d H1=>TA pG w hb sc n X ρ t d H1 (Q .next))
  (hs:∀ env,swapsWithSole [t] e pos.line env=pure false:=by intro _;rfl) (hw:∀ env,EnvOk sc env→swappedStores [t] e env=pure none:=by intro _ _;rfl)
  (ha:∀ env,(assignEach [t] env).map (·.2)=[assign t env]:=by intro _;rfl):TX pG w hb sc n X ρ (.Assign [t] e pos) H Q:=by
 refine .intro fun env A Z s R E p ex k=>wpAny_Assign_stores ?_ (hs env) (hw env p.eok)
 refine a5 (ha ..) ?_
 refine h.run p ex fun s1 p1 ex1 u1 r1 q1=>?_
 (refine oA q1 ?_;clear q1;rintro rfl q1)
 exact q1 env A _ _ _ _ _ p1 r1 ex1 fun s2 p2 ex2 u2 q2=>k (d:=.next) (p.tr p1 s1 s2) p2 trivial q2
theorem Sat.more (x:Sat pG w hb Z H s) (ys:List Addr) (hn:∀ a∈ys,hb.get? a=none) (hl:∀ a∈ys,∃ o,s.heap.get? a=some o)
  (hf:∀ p∈H,RepO pG w (f7 s (ys++Z)) s.heap p.1 p.2):Sat pG w hb (ys++Z) H s:=by
 refine ⟨x.bs,fun b o e=>?_,fun a m=>?_,fun a m=>jv7 _ (x.sub a m),x.nd,hf,x.gens⟩
 ·refine oA (c7 (x.base b o e)) fun e1 nz=>?_
  refine k9 e1 fun q=>?_
  refine Qa (jw1.mp q) (fun q=>?_) fun q=>?_
  ·exact a7 e (hn b q)
  ·exact nz q
 ·refine Qa (jw1.mp m) (fun m=>?_) fun m=>?_
  ·exact hl a m
  ·exact x.zlt a m
noncomputable def less (Z:List Addr) (D:Addr):List Addr:=Z.filter fun a=>a != D
theorem n8 {Z:List Addr} {D a:Addr}:a∈less Z D ↔ a∈Z∧a≠D:=by unfold less;simp
theorem Sat.less {D:Addr} (x:Sat pG w hb Z H s) (hD:D∉foots H):Sat pG w hb (less Z D) H s:=by
 have hm:Sub (f7 s Z) (f7 s (Mine.less Z D)):=fun b o e=>by
  refine oA (c7 e) fun e1 nz=>?_
  exact k9 e1 fun q=>nz (n8.mp q).1
 refine ⟨x.bs,x.base.trans hm,fun a m=>x.zlt a (n8.mp m).1,fun a m=>n8.mpr ⟨x.sub a m,fun q=>hD (q▸m)⟩,x.nd,fun p hp=>?_,x.gens⟩
 obtain ⟨b,o⟩:=p
 exact (x.own _ hp).mono hm fun c hc y e=>e
theorem sub_less (s:Shared) (Z:List Addr) (D:Addr):Sub (f7 s Z) (f7 s (less Z D)):=fun b o e=>by
 refine oA (c7 e) fun e1 nz=>?_
 exact k9 e1 fun q=>nz (n8.mp q).1
theorem K4 {a:Addr} {Ha Hb:HL} {e:Addr × O}:a∈foots (Ha++Hb)→a∈foots (Ha++e::Hb):=by
 refine a5 (d8 ..) (a5 (d8 ..) ?_)
 obtain ⟨b,o⟩:=e
 simp only [foots,jw1]
 rintro (h | h)
 ·exact .inl h
 ·exact .inr (.inr h)
theorem ew4 {Ha Hb:HL} {e:Addr × O} (h:(foots (Ha++e::Hb)).Nodup):(foots (Ha++Hb)).Nodup:=by
 rw [d8] at h ⊢
 obtain ⟨b,o⟩:=e
 simp only [foots] at h
 exact h.sublist ((List.Sublist.refl _).append (List.sublist_append_right ..))
theorem V3 {Ha Hb:HL} {e:Addr × O} (h:(foots (Ha++e::Hb)).Nodup) {b:Addr} (hb:b∈e.2.foot e.1):b∉foots (Ha++Hb):=by
 obtain ⟨a,o⟩:=e
 rw [d8] at h ⊢
 simp only [foots] at h
 intro q
 rw [kq9] at h
 (refine J7 h ?_;clear h;intro h1 h2 h3)
 rw [kq9] at h2
 refine Qa (jw1.mp q) (fun q=>?_) fun q=>?_
 ·exact h3 _ q _ (jv8 _ hb) rfl
 ·exact h2.2.2 _ hb _ q rfl
theorem Sat.cut {Ha Hb:HL} {e:Addr × O} (x:Sat pG w hb Z (Ha++e::Hb) s):Sat pG w hb Z (Ha++Hb) s :=
 ⟨x.bs,x.base,x.zlt,fun a m=>x.sub a (K4 m),ew4 x.nd,fun p hp=>x.own p (by
  refine Qa (jw1.mp hp) (fun h=>?_) fun h=>?_
  ·exact jv8 _ h
  ·exact jv7 _ (jv3 _ h)),x.gens⟩
noncomputable def ev7:List String:=["enumerate","zip","dict_itemiterator","dict_reverseitemiterator","odict_iterator","itertools.zip_longest","itertools.pairwise"]
structure Wk (pG:Program) (w:World) (A:Around) (I:Addr) (kp:List Addr) (ds:List V) (g:Heap) (St:Nat→Heap→Prop):Prop where
 ex:∃ P,Walks pG w A I (I::kp) [I] ds.length P St∧∀ j v,P j v→∃ d,ds[j]?=some d∧RepV pG w g v d
 kind:∀ i h,St i h→∃ o nm,h.get? I=some o∧o.cls=.type nm∧ev7.contains nm=false
set_option tactic.hygienic true in
theorem Wk.letGo {I:Addr} {kp:List Addr} {ds:List V} {g:Heap} {St:Nat→Heap→Prop} (W:Wk pG w A I kp ds g St) {i:Nat} {t:Expr} {v:Value} {Q:Unit→Shared→Prop} {E:Value→Shared→Prop}
  (hs:St i s.heap) (q:Q () s):wpAny (model pG w) A (letOwnedTupleGo t (.ref I) v) Q E s:=by
 refine a8 (W.kind i _ hs) fun o nm ho hc hn=>?_
 have key:wpAny (model pG w) A (letOwnedTupleGo (.Tuple [] 0 default) (.ref I) v) Q E s:=by
  cases v
  case ref b =>
   refine jk9 (lx1 ho ?_)
   refine a5 hc ?_
   cases o.data
   case fields vs=>exact mk1 (decide_eq_false fun h=>nb (hn.symm.trans (jw6.mp h).1)) (jv5 q)
   all_goals exact jv5 q
  all_goals exact jv5 q
 cases t
 case Tuple=>exact key
 case List=>exact key
 all_goals exact jv5 q
noncomputable def R4 (pG:Program) (w:World) (hb:Heap) (n:Nat) (x:V) (H Hk:HL) (ds:List V):Prop :=
 ∀ A Z s xv (R:Value→Shared→Prop) (E:Value→Shared→Prop),Room A n→Sat pG w hb Z H s→RepV pG w (f7 s Z) xv x →
  (∀ I h' t kp St,Sub s.heap h'→s.heap.get? I=none→(∃ o,h'.get? I=some o)→Wk pG w A I kp ds (f7 s Z) St→St 0 h'→(∀ b∈kp,b∉foots Hk∧(b∉Z∨b∈foots H)∧∃ o,s.heap.get? b=some o) →
   R (.ref I) { s with heap:=h',toks:=t })→wpAny (model pG w) A (pyIter xv) R E s
theorem cj9 {g:Heap} {ds:List V}:∀ {vs:List Value},RepL pG w g vs ds→∀ {j:Nat} {v:Value},vs[j]?=some v→∃ d,ds[j]?=some d∧RepV pG w g v d:=by
 induction ds with
 | nil=>exact fun {vs} r {j v} h=>nn ((show vs=[] from r.inv)▸h)
 | cons d ds ih =>
  intro vs r j v h
  (refine a8 r.inv ?_;rintro u us rfl q qs)
  induction j using Nat.casesOn with
  | zero=>exact ⟨_,rfl,Qm h▸q⟩
  | succ j=>exact ih qs h
theorem bk3 {a:Addr} {vs:Array Value} {ds:List V} {Z:List Addr} {s:Shared} {R:Value→Shared→Prop} {E:Value→Shared→Prop} {Hk:HL} (rm:Room A n) (hL:s.heap.IsList a vs) (rl:RepL pG w (f7 s Z) vs.toList ds)
  (ha:a∉foots Hk∧(a∉Z∨a∈foots H))
  (k:∀ I h' t kp St,Sub s.heap h'→s.heap.get? I=none→(∃ o,h'.get? I=some o)→Wk pG w A I kp ds (f7 s Z) St→St 0 h'→(∀ b∈kp,b∉foots Hk∧(b∉Z∨b∈foots H)∧∃ o,s.heap.get? b=some o)→R (.ref I) { s with heap:=h',toks:=t }) :
  wpAny (model pG w) A (pyIter (.ref a)) R E s:=by
 refine mz4 hL ?_
 have len:=rl.length
 rw [jw2] at len
 refine c9 (id hL) fun o g1 u_=>?_
 have hne:a≠s.heap.objs.size:=kz1 (Qi g1)
 refine k s.heap.objs.size _ _ [a] (fun i h=>h.IsListIter s.heap.objs.size a i∧h.IsList a vs) (t7 _ _) (Qf (jw4 _)) ⟨_,Qc _ rfl⟩
  ⟨⟨_,len▸Walks.list rm.handled _ _ hne vs,fun j v hv=>cj9 rl (by refine a5 (kq7) ?_;exact hv)⟩,fun i h hs=>?_⟩ ⟨⟨_,Qc _ rfl,rfl,rfl⟩,hL.push _⟩ fun b hb=>?_
 ·(refine oA hs ?_;clear hs;rintro ⟨o,ho,hc,_⟩ _)
  exact ⟨o,"list_iterator",ho,hc,by rfl⟩
 ·have:b=a:=by simpa using hb
  (replace this:=this.symm;subst this)
  exact ⟨ha.1,ha.2,_,g1⟩
set_option tactic.hygienic true in
theorem b0 {xs:List PyData}:R4 pG w hb n (.dat (.list xs)) H H (xs.map .dat):=by
 intro A Z s xv R E rm y r k
 replace r:Rd _ _ _:=r.inv
 refine oE r fun as r=>?_
 (refine k8 (rdi r) ?_;rintro a o vs m y;refine o4 y ?_;clear y;rintro as' rfl h1 h2 yy;refine oA yy ?_;clear yy;rintro h3 h4)
 refine oA (c7 h1) fun g1 nz=>?_
 exact bk3 rm ⟨o,g1,h2,_,h3⟩ (.ofData (bw9 h4)) ⟨fun q=>nz (y.sub _ q),.inl nz⟩ k
theorem bq3 {a:Addr} {xs:List PyData} {Ha Hb:HL}:R4 pG w hb n (.ref a) (Ha++(a,.lst xs)::Hb) (Ha++Hb) (xs.map .dat):=by
 intro A Z s xv R E rm y r k
 (replace r:=r.inv;subst r)
 refine y9 (y.own (a,.lst xs) (by exact jv7 _ jv0)) fun vs m h1 h2=>?_
 exact bk3 rm ⟨_,h1,rfl,_,rfl⟩ (.ofData h2) ⟨V3 (e:=(a,.lst xs)) y.nd (by exact kz6 _),.inr (r9 (a:=a) (o:=.lst xs) (by exact jv7 _ jv0) (by exact kz6 _))⟩ k
theorem d9 {d:V} {ds:List V} (e:d.items=some ds):R4 pG w hb n d H H ds:=by
 intro A Z s xv R E rm y r k
 (refine a8 (s6 r e) ?_;rintro a vs rfl it rl)
 have hL:=j2 (g6 s Z) it
 refine wpAny_pyIter_tuple hL ?_
 have len:=rl.length
 rw [jw2] at len
 (refine c9 it ?_;clear it;intro o g0 _)
 refine oA (c7 g0) fun g1 nz=>?_
 have hne:a≠s.heap.objs.size:=kz1 (Qi g1)
 refine k s.heap.objs.size _ _ [a] (fun i h=>h.IsTupleIter s.heap.objs.size a i∧h.IsTuple a vs) (t7 _ _) (Qf (jw4 _)) ⟨_,Qc _ rfl⟩
  ⟨⟨_,len▸Walks.tuple rm.handled _ _ hne vs,fun j v hv=>cj9 rl (by refine a5 (kq7) ?_;exact hv)⟩,fun i h hs=>?_⟩ ⟨⟨_,Qc _ rfl,rfl,rfl⟩,j2 (t7 _ _) hL⟩ fun b hb=>?_
 ·(refine oA hs ?_;clear hs;rintro ⟨o,ho,hc,_⟩ _)
  exact ⟨o,"tuple_iterator",ho,hc,by rfl⟩
 ·have:b=a:=by simpa using hb
  (replace this:=this.symm;subst this)
  exact ⟨fun q=>nz (y.sub _ q),.inl nz,_,g1⟩
noncomputable def E7 (lo hi:Int):List V:=(Qg (hi - lo).toNat).map fun (i:Nat)=>.dat (.int (lo+i))
set_option tactic.hygienic true in
theorem m6 {lo hi:Int} (h1:-1000000≤lo) (h2:lo≤1000000) (h3:-1000000≤hi) (h4:hi≤1000000):R4 pG w hb n (.rng lo hi) H H (E7 lo hi):=by
 intro A Z s xv R E rm y r k
 obtain ⟨r,t,u,v,rfl,hr⟩:=r.inv
 refine oA (c7 hr) fun g1 nz=>?_
 have hs:Builtin.Range.rangeSize lo hi 1=(((hi - lo).toNat:Nat):Int):=by
  unfold Builtin.Range.rangeSize
  simp
  by_cases c:lo<hi
  ·refine a5 (if_pos c) ?_;exact (nj1 (lw4 (Int.le_of_lt c))).symm
  ·refine a5 (if_neg c) ?_;exact (nz4 (mv9 (lx8.mp c))).symm
 have hsm:Builtin.Range.small lo hi 1=true:=by
  unfold Builtin.Range.small
  refine a5 hs ?_
  unfold Builtin.Range.rangeFitsLong
  simp
  exact ⟨⟨⟨⟨kv0 (by decide) h1,kk8 h2 (by decide)⟩,kv0 (by decide) h3,kk8 h4 (by decide)⟩,kv0 (by decide) (nz5 ..),Int.max_lt.mpr ⟨kk8 (Int.sub_le_sub h4 h1) (by decide),by decide⟩⟩,.inr ⟨kv0 (by decide) h3,kk8 h4 (by decide)⟩⟩
 refine wpAny_pyIter_range g1 hsm ?_
 refine a5 hs ?_
 refine k s.heap.objs.size _ _ [] (fun i h=>IsRangeIter h s.heap.objs.size (lo+(i:Nat) * 1) (((hi - lo).toNat:Int) - (i:Nat)) 1) (t7 _ _) (Qf (jw4 _)) ⟨_,Qc _ rfl⟩
  ⟨⟨fun i v=>i<(hi - lo).toNat∧∃ t,v=.int (lo+(i:Int) * 1) t,?_,fun j v hv=>?_⟩,fun i h hs=>⟨_,"range_iterator",hs,rfl,by rfl⟩⟩ ?_ fun b hb=>nomatch hb
 ·have:(E7 lo hi).length=(hi - lo).toNat:=by simp [E7]
  refine a5 this ?_
  exact (Walks.range rm.handled s.heap.objs.size lo 1 (hi - lo).toNat).bound
 ·(refine V7 hv ?_;clear hv;rintro hj t rfl)
  refine ⟨.dat (.int (lo+j)),by simp [E7,hj],.dat ⟨[],?_⟩⟩
  refine a5 (mz0 ..) ?_
  exact .int _ _
 ·refine (?_:Heap.get? _ _=_)
  refine a5 (Qc _ rfl) ?_
  simp
end
section
variable {pG:Program} {w:World} {hb:Heap} {sc:Scope} {env:Env} {A:Around} {n:Nat} {X:Xs} {Z Z':List Addr} {ρ ρ':c8} {H H':HL} {s s' s'':Shared}
theorem cv5 {R:Result→Shared→Prop} {target:Expr} {it:Value} {body:List Stmt}
  (h:wpAny (model pG w) A (pyNext it) (fun r s₁=>match r with
   | none=>R (.ok .next) s₁
   | some v=>wpAny (model pG w) A (letOwnedTupleGo target it v) (fun u_ s₁' =>
     wpAny (model pG w) A (assign target env v) (fun u_ s₂=>wpAny (model pG w) A (execs body env) (fun f s₃=>match f with
      | .next=>codeAny (model pG w) A (.forLoop target it body [] env) R s₃
      | .cont=>codeAny (model pG w) A (.forLoop target it body [] env) R s₃
      | .brk=>R (.ok .next) s₃
      | .ret v=>R (.ok (.ret v)) s₃) (notedBy (model pG w) A env fun e s'=>R (.error e) s') s₂) (notedBy (model pG w) A env fun e s'=>R (.error e) s') s₁') (notedBy (model pG w) A env fun e s'=>R (.error e) s') s₁) (notedBy (model pG w) A env fun e s'=>R (.error e) s') s) :
  codeAny (model pG w) A (.forLoop target it body [] env) R s:=by
 refine kk0 ?_
 refine (?_:wpAny _ A ((forTurn target it body [] env).onRaise (fun x=>do noteFrame x env;theTreesLotGoes x)) _ _ s)
 refine mq4 ?_
 refine jk9 (kv7 (jk9 (wpAny_onRaise (kx7 h (fun r s₁ h₁=>?_) fun u_ u_ h'=>kv7 h'))))
 induction r using Qd with
 | none=>exact jv5 (And.intro rfl (codeAny_block (lj6 h₁)))
 | some v =>
  refine jk9 (kx7 h₁ (fun u_ s₁' h₁'=>?_) fun u_ u_ h'=>h')
  refine jk9 (kx7 h₁' (fun u_ s₂ h₂=>jk9 (kx7 h₂ (fun f s₃ h₃=>?_) fun u_ u_ h'=>h')) fun u_ u_ h'=>h')
  induction f using PySem.Flow.casesOn with
  | next=>exact jv5 (And.intro rfl h₃)
  | cont=>exact jv5 (And.intro rfl h₃)
  | brk=>exact jv5 h₃
  | ret v=>exact jv5 h₃
theorem dq9 {R:Result→Shared→Prop} {test:Expr} {body:List Stmt}
  (h:wpAny (model pG w) A (isTrue test env (eval test env)) (fun b s₂ =>
    if b then wpAny (model pG w) A (execs body env) (fun f s₃=>match f with
      | .next=>codeAny (model pG w) A (.whileLoop test body [] env) R s₃
      | .cont=>codeAny (model pG w) A (.whileLoop test body [] env) R s₃
      | .brk=>R (.ok .next) s₃
      | .ret v=>R (.ok (.ret v)) s₃) (notedBy (model pG w) A env fun e s'=>R (.error e) s') s₂
    else R (.ok .next) s₂)
    (notedBy (model pG w) A env fun e s'=>R (.error e) s') s):codeAny (model pG w) A (.whileLoop test body [] env) R s:=by
 refine kk0 ?_
 refine (?_:wpAny _ A ((whileTurn test body [] env).onRaise (fun x=>do noteFrame x env;theTreesLotGoes x)) _ _ s)
 refine mq4 ?_
 refine jk9 (kx7 h (fun b s₂ h₂=>?_) fun u_ u_ h'=>h')
 induction b using Ql with
 | false =>
  exact jk9 (lj6 (jv5 h₂))
 | true =>
  refine jk9 (kx7 h₂ (fun f s₃ h₃=>?_) fun u_ u_ h'=>h')
  induction f using PySem.Flow.casesOn with
  | next=>exact jv5 (And.intro rfl h₃)
  | cont=>exact jv5 (And.intro rfl h₃)
  | brk=>exact jv5 h₃
  | ret v=>exact jv5 h₃
noncomputable def TFor (pG:Program) (w:World) (hb:Heap) (sc:Scope) (n:Nat) (X:Xs) (t:Expr) (body:List Stmt):List V→c8→HL→(Flw→c8→HL→Prop)→Prop
 | [],ρ,H,Q=>Q .next ρ H
 | d::ds,ρ,H,Q=>TA pG w hb sc n X ρ t d H fun ρ1 H1=>TS pG w hb sc n X ρ1 body H1 fun fl ρ2 H2=>match fl with
  | .next=>TFor pG w hb sc n X t body ds ρ2 H2 Q
  | .cont=>TFor pG w hb sc n X t body ds ρ2 H2 Q
  | .brk=>Q .next ρ2 H2
  | .ret v=>Q (.ret v) ρ2 H2
theorem SatE.growHide {h':Heap} {t:Nat} {ys:List Addr} (x:SatE pG w hb env Z ρ H s) (k:Sub s.heap h') (hn:∀ a∈ys,s.heap.get? a=none) (hl:∀ a∈ys,∃ o,h'.get? a=some o) :
  SatE pG w hb env (ys++Z) ρ H { s with heap:=h',toks:=t }∧Step (own env) Z H s (ys++Z) H { s with heap:=h',toks:=t }∧Sub (f7 s Z) (f7 { s with heap:=h',toks:=t } (ys++Z)):=by
 have hm:Sub (f7 s Z) (f7 { s with heap:=h',toks:=t } (ys++Z)):=fun b o e=>by
  refine oA (c7 e) fun e1 nz=>?_
  refine k9 (k b o e1) fun q=>?_
  refine Qa (jw1.mp q) (fun q=>?_) fun q=>?_
  ·exact a7 e1 (hn b q)
  ·exact nz q
 have st:Step (own env) Z H s (ys++Z) H { s with heap:=h',toks:=t } :=
  ⟨fun b o e u_ u_=>k b o e,fun a m=>(jw1.mp m).elim (fun q=>.inr (hn a q)) .inl,fun a m=>.inl (jv7 _ m),fun a m=>.inl m,rfl⟩
 have y:Sat pG w hb (ys++Z) H { s with heap:=h',toks:=t }:=by
  refine ⟨x.bs,x.base.trans hm,fun a m=>?_,fun a m=>jv7 _ (x.sub a m),x.nd,fun p hp=>?_,x.gens⟩
  ·refine Qa (jw1.mp m) (fun m=>?_) fun m=>?_
   ·exact hl a m
   ·refine oE (x.zlt a m) fun o e=>?_
    exact ⟨o,k _ _ e⟩
  ·obtain ⟨b,o⟩:=p
   exact (x.own _ hp).mono hm fun c hc y e=>k c y e
 exact ⟨x.back ⟨fun b o e u_ u_=>k b o e,st.hidden,st.unhid,st.feet,rfl⟩ y,st,hm⟩
theorem Step.more {ow ow':List Addr} (x:Step ow Z H s Z' H' s') (h:∀ a∈ow,a∈ow'):Step ow' Z H s Z' H' s':=x.own_more h
theorem aj5 {I:Addr} {kp:List Addr} {ds:List V} {g:Heap} {St:Nat→Heap→Prop} (W:Wk pG w A I kp ds g St) {i:Nat} {R:Option Value→Shared→Prop} {E:Value→Shared→Prop} (hs:St i s.heap) (hi:i≤ds.length)
  (h0:i=ds.length→∀ h' t,(∀ b o,b≠I→s.heap.get? b=some o→h'.get? b=some o)→R none { s with heap:=h',toks:=t })
  (h1:∀ v d h' t,ds[i]?=some d→RepV pG w g v d→St (i+1) h'→(∀ b o,b≠I→s.heap.get? b=some o→h'.get? b=some o)→R (some v) { s with heap:=h',toks:=t }):wpAny (model pG w) A (pyNext (.ref I)) R E s:=by
 refine c9 W.ex fun P W1 W2=>?_
 by_cases h:i<ds.length
 ·refine W1.item i s R E h hs fun v h' tk hP hS hk=>?_
  refine c9 (W2 i v hP) fun d e r=>?_
  exact h1 v d h' tk e r hS fun b o n e=>hk b o (by simpa using n) e
 ·have e:i=ds.length:=by exact kq1 (hi) ((kx8 h))
  subst e
  exact W1.done s R E hs fun h' tk hk=>h0 rfl h' tk fun b o n e=>hk b o (by simpa using n) e
theorem Step.dropOwn {ow ow':List Addr} (x:Step ow' Z H s Z' H' s') (h:∀ a∈ow',a∈ow∨s.heap.get? a=none):Step ow Z H s Z' H' s' :=
 ⟨fun a o e n1 n2=>x.keep a o e (fun q=>(h a q).elim n1 fun q=>a7 e q) n2,x.hidden,x.unhid,x.feet,x.os⟩
theorem SatE.chgLess {I:Addr} {h':Heap} {t:Nat} (x:SatE pG w hb env Z ρ H s) (hI:I∉own env) (hf:I∉foots H) (hz:I∈Z) (k:∀ b o,b≠I→s.heap.get? b=some o→h'.get? b=some o) :
  SatE pG w hb env (less Z I) ρ H { s with heap:=h',toks:=t }∧Sub (f7 s Z) (f7 { s with heap:=h',toks:=t } (less Z I)):=by
 have hm:Sub (f7 s Z) (f7 { s with heap:=h',toks:=t } (less Z I)):=fun b o e=>by
  refine oA (c7 e) fun e1 nz=>?_
  exact k9 (k b o (fun q=>nz (q▸hz)) e1) fun q=>nz (n8.mp q).1
 have y:Sat pG w hb (less Z I) H { s with heap:=h',toks:=t }:=by
  refine ⟨x.bs,x.base.trans hm,fun a m=>?_,fun a m=>n8.mpr ⟨x.sub a m,fun q=>hf (q▸m)⟩,x.nd,fun p hp=>?_,x.gens⟩
  ·refine oA (n8.mp m) fun m n=>?_
   refine oE (x.zlt a m) fun o e=>?_
   exact ⟨o,k a o n e⟩
  ·obtain ⟨b,o⟩:=p
   exact (x.own _ hp).mono hm fun c hc y e=>k c y (fun q=>hf (q▸r9 hp hc)) e
 have kp:∀ a∈own env,∀ o,s.heap.get? a=some o→h'.get? a=some o:=fun a m o e=>k a o (fun q=>hI (q▸m)) e
 have kc:∀ c v,(∃ n,env.cells.lookup n=some c)→s.heap.IsCell c v→h'.IsCell c v:=fun c v y z=>oE y fun n hn=>c9 z fun o ho hd =>
  ⟨o,kp c (jv3 _ (jw3 (Qe hn))) o ho,hd⟩
 refine ⟨{ toSat:=y,ownZ:=fun a m=>n8.mpr ⟨x.ownZ a m,fun q=>hI (q▸m)⟩,ownH:=x.ownH,ondup:=x.ondup,cells:=fun n c hc=>?_,ns:=?_ },hm⟩
 ·refine oE (x.cells n c hc) fun v hv=>?_
  exact ⟨v,kc c v ⟨n,hc⟩ hv⟩
 ·(refine c9 x.ns ?_;(intro m yz;refine w5 yz fun o es ep ho r=>?_;clear yz;rintro hm'))
  refine ⟨m,⟨o,es,ep,kp _ (jv0 ..) o ho,r⟩,fun n d hd=>?_⟩
  refine c9 (hm' n d hd) fun v hv q=>?_
  exact ⟨v,hv.mono hm,q.imp id fun z=>oA z fun k z=>c9 z fun c hc hi=>⟨k,c,hc,kc c _ ⟨n,hc⟩ hi⟩⟩
theorem Sat.hide {I:Addr} (x:Sat pG w hb Z H s) (hb0:hb.get? I=none) (hl:∃ o,s.heap.get? I=some o) (hm:∀ p∈H,RepO pG w (f7 s (I::Z)) s.heap p.1 p.2):Sat pG w hb (I::Z) H s :=
 x.more [I] (fun a ha=>by refine a5 (jv4.mp ha) ?_;exact hb0) (fun a ha=>by refine a5 (jv4.mp ha) ?_;exact hl) hm
theorem SatE.chg {I:Addr} {h':Heap} {t:Nat} (x:SatE pG w hb env Z ρ H s) (hI:I∉own env) (hf:I∉foots H) (hz:I∈Z) (k:∀ b o,b≠I→s.heap.get? b=some o→h'.get? b=some o) (hl:∃ o,h'.get? I=some o) :
  SatE pG w hb env Z ρ H { s with heap:=h',toks:=t }∧Sub (f7 s Z) (f7 { s with heap:=h',toks:=t } Z):=by
 have hm:Sub (f7 s Z) (f7 { s with heap:=h',toks:=t } Z):=fun b o e=>by
  refine oA (c7 e) fun e1 nz=>?_
  exact k9 (k b o (fun q=>nz (q▸hz)) e1) nz
 have y:Sat pG w hb Z H { s with heap:=h',toks:=t }:=by
  refine ⟨x.bs,x.base.trans hm,fun a m=>?_,x.sub,x.nd,fun p hp=>?_,x.gens⟩
  ·by_cases n:a=I
   ·(replace n:=n.symm;subst n);exact hl
   ·refine oE (x.zlt a m) fun o e=>?_
    exact ⟨o,k a o n e⟩
  ·obtain ⟨b,o⟩:=p
   exact (x.own _ hp).mono hm fun c hc y e=>k c y (fun q=>hf (q▸r9 hp hc)) e
 have kp:∀ a∈own env,∀ o,s.heap.get? a=some o→h'.get? a=some o:=fun a m o e=>k a o (fun q=>hI (q▸m)) e
 have kc:∀ c v,(∃ n,env.cells.lookup n=some c)→s.heap.IsCell c v→h'.IsCell c v:=fun c v y z=>oE y fun n hn=>c9 z fun o ho hd =>
  ⟨o,kp c (jv3 _ (jw3 (Qe hn))) o ho,hd⟩
 refine ⟨{ toSat:=y,ownZ:=x.ownZ,ownH:=x.ownH,ondup:=x.ondup,cells:=fun n c hc=>?_,ns:=?_ },hm⟩
 ·refine oE (x.cells n c hc) fun v hv=>?_
  exact ⟨v,kc c v ⟨n,hc⟩ hv⟩
 ·(refine c9 x.ns ?_;(intro m yz;refine w5 yz fun o es ep ho r=>?_;clear yz;rintro hm'))
  refine ⟨m,⟨o,es,ep,kp _ (jv0 ..) o ho,r⟩,fun n d hd=>?_⟩
  refine c9 (hm' n d hd) fun v hv q=>?_
  exact ⟨v,hv.mono hm,q.imp id fun z=>oA z fun k z=>c9 z fun c hc hi=>⟨k,c,hc,kc c _ ⟨n,hc⟩ hi⟩⟩
theorem Step.chg {I:Addr} {h':Heap} {t:Nat} {ow:List Addr} (k:∀ b o,b≠I→s.heap.get? b=some o→h'.get? b=some o):Step (I::ow) Z H s Z H { s with heap:=h',toks:=t } :=
 ⟨fun b o e n u_=>k b o (fun q=>n (by simp [q])) e,fun u_ h=>.inl h,fun u_ h=>.inl h,fun u_ h=>.inl h,rfl⟩
theorem Step.chgLess {I:Addr} {h':Heap} {t:Nat} {ow:List Addr} {Z0:List Addr} {H0:HL} {s0:Shared} (st:Step ow Z0 H0 s0 Z H s) (n0:s0.heap.get? I=none) (z0:∀ a∈Z0,∃ o,s0.heap.get? a=some o) (f0:∀ a∈foots H0,a∈Z0) (lv:∀ a∈ow,∃ o,s.heap.get? a=some o)
  (k:∀ b o,b≠I→s.heap.get? b=some o→h'.get? b=some o):Step ow Z0 H0 s0 (less Z I) H { s with heap:=h',toks:=t } :=
 ⟨fun b o e n1 n2=>k b o (fun q=>by subst q;exact a7 e n0) (st.keep b o e n1 n2),fun a m=>st.hidden a (n8.mp m).1,fun a m=>(st.unhid a m).imp (fun q=>n8.mpr ⟨q,fun e=>by
  subst e
  refine oE (z0 a m) fun o h=>?_
  exact a7 h n0⟩) id,st.feet,st.os⟩
theorem ix1 {t:Expr} {body:List Stmt} {I:Addr} {kp:List Addr} {ds:List V} {g:Heap} {St:Nat→Heap→Prop} (W:Wk pG w A I kp ds g St) {Q:Flw→c8→HL→Prop} {R:Result→Shared→Prop}
  {Z0:List Addr} {ρ0:c8} {H0:HL} {s0:Shared} (p0:Pt pG w hb sc env A n X Z0 ρ0 H0 s0) (nI:s0.heap.get? I=none) (kpo:∀ b∈kp,b∉own env)
  (ex:Exn hb A env X H0 s0 (notedBy (model pG w) A env fun e s'=>R (.error e) s'))
  (k:∀ {fl s' Z' d ρ' H'},Step (own env) Z0 H0 s0 Z' H' s'→Pt pG w hb sc env A n X Z' ρ' H' s'→ej5 pG w (f7 s' Z') fl d→(fl=.next∨∃ v,fl=.ret v)→Q d ρ' H'→R (.ok fl) s') (m:Nat) :
  ∀ (i:Nat) {Z:List Addr} {ρ:c8} {H:HL} {s:Shared},ds.length - i=m→i≤ds.length→TFor pG w hb sc n X t body (ds.drop i) ρ H Q→Pt pG w hb sc env A n X Z ρ H s→Step (own env) Z0 H0 s0 Z H s→St i s.heap→I∈Z →
   (∀ b∈I::kp,b∉foots H∧∃ o,s.heap.get? b=some o)→Sub g (f7 s Z)→codeAny (model pG w) A (.forLoop t (.ref I) body [] env) R s:=by
 have oI:I∉own env:=fun q=>by
  refine oE (p0.sat.live I q) fun o e=>?_
  exact a7 e nI
 induction m with
 | zero =>
  intro i Z ρ H s hm hi h p st hS hz hk hg
  have e:i=ds.length:=by exact kq1 (hi) (i5 [_,_,_] 1 zA (.num 0) 1 zB (.add zA zC) zB zC tT (o7 hm) sA)
  subst e
  rw [nx4] at h
  refine cv5 (aj5 W hS (jw4 _) (fun u_ h' t hk'=>?_) fun v d h' t hd=>by simp at hd)
  refine oA (p.sat.chgLess (t:=t) oI (hk I (by exact jv0)).1 hz hk') fun y u_=>?_
  have st':=st.chgLess (t:=t) nI p0.sat.zlt p0.sat.sub p.sat.live hk'
  exact k (d:=.next) st' (p0.step st' y) trivial (.inl rfl) h
 | succ m ih =>
  intro i Z ρ H s hm hi h p st hS hz hk hg
  have hlt:i<ds.length:=by exact i5 [_,_,_,_] 1 (.add zA nA) zB 1 (.add zB zC) zD (.add zC nA) zD tT (H6 hm) (sC (hi))
  have hdrop:ds.drop i=ds[i]::ds.drop (i+1):=by simp
  rw [hdrop] at h
  refine cv5 (aj5 W hS hi (fun e=>by lia) fun v d h' t hd r hS' hk'=>?_)
  have ed:d=ds[i]:=by rw [jw0 hlt] at hd;exact (Qm hd).symm
  subst ed
  refine W.letGo hS' ?_
  refine y9 (W.kind _ _ hS') fun oI' nm' hlI u_=>?_
  refine oA (p.sat.chg (t:=t) oI (hk I (by exact jv0)).1 hz hk' ⟨_,hlI⟩) fun y u=>?_
  have st1:Step (own env) Z0 H0 s0 Z H { s with heap:=h',toks:=t } :=
   ((st.more (ow':=I::own env) fun a m=>jv3 _ m).trans (.chg hk') p0.sat.zlt p0.sat.sub (fun a m=>by
    rcases jv6.mp m with rfl | m
    ·exact p.sat.zlt _ hz
    ·exact p.sat.live a m)).dropOwn fun a m=>by
     rcases jv6.mp m with rfl | m
     ·exact .inr nI
     ·exact .inl m
  have p1:=p0.step st1 y
  have ex1:=ex.step p0.sat.toSat st1 y.toSat
  refine h env A _ _ _ _ _ p1 (r.mono (hg.trans u)) ex1 fun {s2 Z2 ρ2 H2} s2' p2 ex2 u2 q2=>?_
  refine Tri.run (t:=execs body) q2 p2 ex2 fun {fl s3 Z3 d3 ρ3 H3} s3' p3 ex3 u3 r3 q3=>?_
  have st12:=p1.tr p2 s2' s3'
  have st3:=p0.tr p1 st1 st12
  have next:∀ (q:TFor pG w hb sc n X _ body (ds.drop (i+1)) ρ3 H3 Q),codeAny (model pG w) A (.forLoop _ (.ref I) body [] env) R s3:=fun q=>by
   refine ih (i+1) (by exact kq1 (T5 [_,_,_,_,_] 1 zA (.add zB nA) 1 (.add zC (.add zD nA)) (.var 4) 1 (.var 4) (.add zA zD) zC zB tT (o7 hm) (sC (hlt)) sA) (T5 [_,_,_,_,_] 1 (.add zA nA) zB 1 zC (.add zD (.add (.var 4) nA)) 1 (.add zB (.var 4)) zC zA zD tT (H6 hm) sA (sC (d6 [_,_] 1 (.add zA nA) zB zA zB tT hlt)))) hlt q p3 st3 ?_ ?_ ?_ ((hg.trans u).trans (u2.trans u3))
   ·refine c9 W.ex fun P W1 u_=>?_
    refine W1.frame _ _ _ hS' fun b hb o e=>st12.keep b o e (fun q=>?_) ?_
    ·rcases jv6.mp hb with rfl | hb
     ·exact oI q
     ·exact kpo b hb q
    ·exact (hk b hb).1
   ·refine Qa (st12.unhid I hz) (fun q=>?_) fun q=>?_
    ·exact q
    ·exact absurd q (hk I (by exact jv0)).1
   ·intro b hb
    have hbo:b∉own env:=by
     rcases jv6.mp hb with rfl | hb
     ·exact oI
     ·exact kpo b hb
    have hl1:∃ o,h'.get? b=some o:=by
     by_cases e:b=I
     ·(replace e:=e.symm;subst e);exact ⟨_,hlI⟩
     ·refine oE ((hk b hb).2) fun o e'=>?_
      exact ⟨o,hk' b o e e'⟩
    (refine oE hl1 ?_;clear hl1;intro o e')
    refine ⟨fun q=>?_,o,st12.keep b o e' hbo (hk b hb).1⟩
    refine Qa (st12.feet b q) (fun q=>?_) fun q=>?_
    ·exact (hk b hb).1 q
    ·exact a7 e' q
  cases fl <;> cases d3 <;> (try exact r3.elim)
  ·exact next q3
  ·exact k (d:=.next) st3 p3 trivial (.inl rfl) q3
  ·exact next q3
  ·exact k (d:=.ret _) st3 p3 r3 (.inr ⟨_,rfl⟩) q3
theorem iw0 {t e:Expr} {body:List Stmt} {pos:Pos} {Q:Flw→c8→HL→Prop}
  (h:TE pG w hb sc n X ρ e H fun x H1=>∃ ds,R4 pG w hb n x H1 H1 ds∧TFor pG w hb sc n X t body ds ρ H1 Q) (hs:∀ env x,foldedSetIterable e env x=pure x:=by intro _ _;rfl) :
  TX pG w hb sc n X ρ (.For t e body [] pos) H Q:=by
 refine .intro fun env A Z s R E p ex k=>?_
 refine wpAny_For ?_ (hs env)
 refine h.run p ex fun {v s1 Z1 x ρ1 H1} s1' p1 ex1 u1 r1 q1=>?_
 (refine oA q1 ?_;clear q1;rintro rfl y;refine c9 y ?_;clear y;intro ds hi hf)
 refine hi A _ _ _ _ E p1.room p1.sat.toSat r1 fun I h' t kp St ks nI lI W hS hkp=>?_
 refine J7 (p1.sat.growHide (t:=t) (ys:=[I]) ks (fun a ha=>by refine a5 (jv4.mp ha) ?_;exact nI) (fun a ha=>by refine a5 (jv4.mp ha) ?_;exact lI)) fun y st u=>?_
 have p2:=p1.step st y
 refine ix1 (R:=fun r s'=>match r with | .ok f=>R f s' | .error e=>cameBackBy (model pG w) A env E e s') W p1 nI (fun b hb q=>?_) (cv9 p1.fm ex1) (fun {fl s' Z' d ρ' H'} st' p' r' hfl q'=>?_) _ 0 rfl (kx0 _) hf p2 st hS (by exact jv0) (fun b hb=>?_) u
 ·refine J7 (hkp b hb) fun h1 h2 u_=>?_
  refine Qa h2 (fun h2=>?_) fun h2=>?_
  ·exact h2 (p1.sat.ownZ b q)
  ·exact p1.sat.ownH b q h2
 ·exact k (p.tr p1 s1' st') p' r' q'
 ·rcases jv6.mp hb with rfl | hb
  ·refine ⟨fun q=>?_,lI⟩
   refine oE (p1.sat.zlt _ (p1.sat.sub _ q)) fun o e=>?_
   exact a7 e nI
  ·refine oA (hkp b hb) fun h1 y=>V7 y fun u_ o e=>?_
   exact ⟨h1,o,ks b o e⟩
noncomputable abbrev Keeps' (ρ ρ1:c8):Prop:=∀ y e,ρ.lookup y=some e→ρ1.lookup y=some e
theorem SatE.fewer (x:SatE pG w hb env Z ρ' H s) (k:Keeps' ρ ρ'):SatE pG w hb env Z ρ H s :=
 { x with ns:=let ⟨m,hn,hm⟩:=x.ns;⟨m,hn,fun y d hd=>hm y d (k y d hd)⟩ }
theorem Pt.fewer (p:Pt pG w hb sc env A n X Z ρ' H s) (k:Keeps' ρ ρ'):Pt pG w hb sc env A n X Z ρ H s:=⟨p.eok,p.room,p.fm,p.sat.fewer k⟩
noncomputable def O7 (pG:Program) (w:World) (hb:Heap) (sc:Scope) (n:Nat) (X:Xs) (t:Expr) (body:List Stmt):Nat→c8→HL→(Flw→c8→HL→Prop)→Prop
 | 0,_,_,_=>False
 | m+1,ρ0,H,Q=>∃ ρ,Keeps' ρ ρ0∧TB pG w hb sc n X ρ t H fun b H1=>(b=false→Q .next ρ H1)∧(b=true→TS pG w hb sc n X ρ body H1 fun fl ρ2 H2=>match fl with
  | .next=>O7 pG w hb sc n X t body m ρ2 H2 Q
  | .cont=>O7 pG w hb sc n X t body m ρ2 H2 Q
  | .brk=>Q .next ρ2 H2
  | .ret v=>Q (.ret v) ρ2 H2)
theorem ej7 {t:Expr} {body:List Stmt} {Q:Flw→c8→HL→Prop} {R:Result→Shared→Prop} {Z0:List Addr} {ρ0:c8} {H0:HL} {s0:Shared} (p0:Pt pG w hb sc env A n X Z0 ρ0 H0 s0)
  (ex:Exn hb A env X H0 s0 (notedBy (model pG w) A env fun e s'=>R (.error e) s'))
  (k:∀ {fl s' Z' d ρ' H'},Step (own env) Z0 H0 s0 Z' H' s'→Pt pG w hb sc env A n X Z' ρ' H' s'→ej5 pG w (f7 s' Z') fl d→Q d ρ' H'→R (.ok fl) s') (m:Nat) :
  ∀ {Z:List Addr} {ρ:c8} {H:HL} {s:Shared},O7 pG w hb sc n X t body m ρ H Q→Pt pG w hb sc env A n X Z ρ H s→Step (own env) Z0 H0 s0 Z H s→codeAny (model pG w) A (.whileLoop t body [] env) R s:=by
 induction m with
 | zero=>intro Z ρ H s h;exact h.elim
 | succ m ih =>
  intro Z ρ H s h p st
  (refine c9 h ?_;clear h;intro ρn kn h)
  have p:=p.fewer kn
  refine dq9 ?_
  have ex1:=ex.step p0.sat.toSat st p.sat.toSat
  refine Tri.run h p ex1 fun {b s2 Z2 b' ρ2 H2} s2' p2 ex2 u2 r2 q2=>?_
  (refine oA q2 ?_;clear q2;rintro rfl q2)
  subst r2
  have st2:=p0.tr p st s2'
  induction b using Ql with
  | false=>exact k (d:=.next) st2 p2 trivial (q2.1 rfl)
  | true =>
   refine Tri.run (t:=execs body) (q2.2 rfl) p2 ex2 fun {fl s3 Z3 d3 ρ3 H3} s3' p3 ex3 u3 r3 q3=>?_
   have st3:=p0.tr p2 st2 s3'
   cases fl <;> cases d3 <;> (try exact r3.elim)
   ·exact ih q3 p3 st3
   ·exact k (d:=.next) st3 p3 trivial q3
   ·exact ih q3 p3 st3
   ·exact k (d:=.ret _) st3 p3 r3 q3
theorem fj7 (m:Nat) {t:Expr} {body:List Stmt} {pos:Pos} {Q:Flw→c8→HL→Prop} (h:O7 pG w hb sc n X t body m ρ H Q):TX pG w hb sc n X ρ (.While t body [] pos) H Q:=by
 refine .intro fun env A Z s R E p ex k=>wpAny_While ?_
 exact ej7 (R:=fun r s'=>match r with | .ok f=>R f s' | .error e=>cameBackBy (model pG w) A env E e s') p (cv9 p.fm ex) (fun st' p' r' q'=>k st' p' r' q') m h p (.refl ..)
noncomputable def b9 (cells:List (Str × Addr)):List (Str × NameKind)→List (Str × Addr)→List (Str × Addr)
 | [],acc=>acc
 | (x,k)::r,acc=>if k == .free then b9 cells r ((x,(cells.lookup x).getD 0)::acc) else b9 cells r acc
theorem bx2 {scope:Scope} (h:∀ x,(x,NameKind.free)∈scope.names→∃ c,env.cells.lookup x=some c):closureFor scope env=pure (b9 env.cells scope.names []):=by
 have go:∀ (names:List (Str × NameKind)) (acc:List (Str × Addr)),(∀ x,(x,NameKind.free)∈names→∃ c,env.cells.lookup x=some c) →
   (forIn names acc fun (x:Str × NameKind) cs=>(match x with | (name,kind)=>if kind == .free then do let c ← cellOf env name;pure (ForInStep.yield ((name,c)::cs)) else pure (ForInStep.yield cs):Sem (ForInStep (List (Str × Addr)))))=pure (b9 env.cells names acc):=by
  intro names
  induction names with
  | nil=>intro acc _;rfl
  | cons p r ih =>
   intro acc hh
   obtain ⟨x,k⟩:=p
   refine a5 (mx8 ..) ?_
   by_cases hk:k=.free
   ·subst hk
    refine oE (hh x (jv0 ..)) fun c hc=>?_
    have e:cellOf env x=pure c:=by dsimp only [cellOf];exact a5 hc rfl
    simp only [beq_self_eq_true,if_true,e,pure_bind]
    refine a5 (ih _ fun y hy=>hh y (jv3 _ hy)) ?_
    dsimp only [b9];simp [hc]
   ·have:(k == NameKind.free)=false:=by exact if_neg hk
    simp only [this,kk7,if_false,pure_bind]
    refine a5 (ih _ fun y hy=>hh y (jv3 _ hy)) ?_
    dsimp only [b9];simp [this]
 dsimp only [closureFor]
 have:=go scope.names [] h
 dsimp only at this ⊢
 refine a5 this ?_
 rfl
set_option tactic.hygienic true in
theorem w3 {cells:List (Str × Addr)}:∀ {names:List (Str × NameKind)} {acc:List (Str × Addr)} {p:Str × Addr},p∈b9 cells names acc→p∈acc∨((p.1,NameKind.free)∈names∧p.2=(cells.lookup p.1).getD 0)
 | [],acc,p,h=>.inl h
 | (x,k)::r,acc,p,h=>by
  dsimp only [b9] at h
  split at h
  ·rename_i hk
   have hk:k=.free:=by exact of_decide_eq_true hk
   subst hk
   refine Qa (w3 h) (fun h=>?_) fun h=>?_
   ·rcases jv6.mp h with rfl | h
    ·exact .inr ⟨jv0 ..,rfl⟩
    ·exact .inl h
   ·exact .inr ⟨jv3 _ h.1,h.2⟩
  ·refine Qa (w3 h) (fun h=>?_) fun h=>?_
   ·exact .inl h
   ·exact .inr ⟨jv3 _ h.1,h.2⟩
theorem M3 {cells:List (Str × Addr)}:∀ {names:List (Str × NameKind)} {acc:List (Str × Addr)} {p:Str × Addr},p∈acc→p∈b9 cells names acc
 | [],acc,p,h=>h
 | (x,k)::r,acc,p,h=>by
  dsimp only [b9]
  split
  ·exact M3 (jv3 _ h)
  ·exact M3 h
theorem F8 {cells:List (Str × Addr)}:∀ {names:List (Str × NameKind)} {acc:List (Str × Addr)} {x:Str},(x,NameKind.free)∈names→(x,(cells.lookup x).getD 0)∈b9 cells names acc
 | (y,k)::r,acc,x,h=>by
  dsimp only [b9]
  refine Qa (jv6.mp h) (fun h=>?_) fun h=>?_
  ·(injection h with i j;subst j;subst i)
   exact M3 (jv0 ..)
  ·split
   ·exact F8 h
   ·exact F8 h
theorem v9 {cells:List (Str × Addr)}:∀ {names:List (Str × NameKind)} {acc:List (Str × Addr)},(names.map (·.1)).Nodup→(acc.map (·.1)).Nodup→(∀ p∈acc,p.1∉names.map (·.1))→((b9 cells names acc).map (·.1)).Nodup
 | [],acc,_,h,_=>h
 | (x,k)::r,acc,hn,h,hd=>by
  rw [kx1,kq6] at hn
  dsimp only [b9]
  split
  ·refine v9 hn.2 (kq6.mpr ⟨fun q=>?_,h⟩) fun p hp q=>?_
   ·refine c9 (jv9.mp q) fun p hp e=>?_
    exact hd p hp (by refine a5 e ?_;exact jv0)
   ·rcases jv6.mp hp with rfl | hp
    ·exact hn.1 q
    ·exact hd p hp (jv3 _ q)
  ·exact v9 hn.2 h fun p hp q=>hd p hp (jv3 _ q)
theorem i7 {α:Type}:∀ {l:List (Str × α)} {x:Str} {c:α},(l.map (·.1)).Nodup→(x,c)∈l→l.lookup x=some c
 | (y,d)::r,x,c,hn,h=>by
  rw [kx1,kq6] at hn
  refine Qa (jv6.mp h) (fun h=>?_) fun h=>?_
  ·(injection h with i j;(replace j:=j.symm;subst j);(replace i:=i.symm;subst i));simp [List.lookup]
  ·have:(x == y)=false:=by
    cases q:x == y with
    | false=>rfl
    | true=>exact absurd (jw3 (f:=(·.1)) h) (by refine a5 (show x=y from by exact of_decide_eq_true q) ?_;exact hn.1)
   refine a5 kq2 (a5 this ?_)
   exact i7 hn.2 h
noncomputable def z7 (scope sc:Scope):Scope:={ scope with names:=scope.names.map fun (x,k)=>if (k == .free&&sc.names.lookup x == some .cell) then (x,.cell) else (x,k) }
theorem aw0 {scope:Scope} (h:EnvOk sc env):relabel scope env=z7 scope sc:=by
 delta relabel z7
 congr 1
 apply lz9
 rintro ⟨x,k⟩ _
 dsimp only
 refine a5 (h.kindOf ..) (a5 (h.fn ..) ?_)
 simp
theorem K8 {scope:Scope} {x:Str}:∀ {names:List (Str × NameKind)} {k:NameKind},names.lookup x=some k →
  (names.map fun (p:Str × NameKind)=>(match p with | (x,k)=>if (k == NameKind.free&&sc.names.lookup x == some .cell) then (x,NameKind.cell) else (x,k))).lookup x=some (if (k == NameKind.free&&sc.names.lookup x == some .cell) then .cell else k)
 | (y,k')::r,k,h=>by
  rw [kq2] at h
  refine a5 kx1 ?_
  cases q:x == y with
  | true =>
   have e:x=y:=by exact of_decide_eq_true q
   subst e
   rw [q] at h
   (injection h with i;subst i)
   dsimp only
   split <;> simp [List.lookup]
  | false =>
   rw [q] at h
   have ih:=K8 (scope:=scope) (names:=r) h
   dsimp only
   split <;> (refine a5 kq2 (a5 q ?_);exact ih)
noncomputable def V6 (ρ:c8):List (Str × NameKind)→c8
 | []=>[]
 | (x,k)::r=>if k == .free then (match ρ.lookup x with | some d=>(x,d)::V6 ρ r | none=>V6 ρ r) else V6 ρ r
set_option tactic.hygienic true in
theorem I6 {ρ:c8}:∀ {names:List (Str × NameKind)} {x:Str} {d:V},(V6 ρ names).lookup x=some d→ρ.lookup x=some d∧(x,NameKind.free)∈names
 | (y,k)::r,x,d,h=>by
  dsimp only [V6] at h
  split at h
  ·rename_i hk
   have hk:k=.free:=by exact of_decide_eq_true hk
   subst hk
   split at h
   ·rename_i d' hd'
    rw [kq2] at h
    cases q:x == y with
    | true =>
     have e:x=y:=by exact of_decide_eq_true q
     subst e
     rw [q] at h
     (injection h with i;subst i)
     exact ⟨hd',jv0 ..⟩
    | false =>
     rw [q] at h
     have:=I6 h
     exact ⟨this.1,jv3 _ this.2⟩
   ·have:=I6 h
    exact ⟨this.1,jv3 _ this.2⟩
  ·have:=I6 h
   exact ⟨this.1,jv3 _ this.2⟩
structure BlockOk (scope:Scope):Prop where
 kind:scope.kind=.function
 cell:∀ y∈scope.names,y.2≠.cell
 nd:(scope.names.map (·.1)).Nodup
 sg:scope.names.lookup ("signatures":Str)=none
theorem BlockOk.of {scope:Scope} (h1:scope.kind=.function) (h2:(scope.names.all fun y=>y.2 != .cell)=true) (h3:decide (scope.names.map (·.1)).Nodup=true) (h4:(scope.names.lookup ("signatures":Str)).isNone=true):BlockOk scope :=
 ⟨h1,fun y hy q=>by have:=kq3.mp h2 y hy;replace this:=q▸this;exact absurd this (by exact Bool.noConfusion),of_decide_eq_true h3,Option.isNone_iff_eq_none.mp h4⟩
noncomputable abbrev aj8 (env:Env) (ifs:List Expr):Sem Bool:=forIn ifs true fun c r=>if r=true then do let ok ← isTrue c env (eval c env);pure (ForInStep.yield ok) else pure (ForInStep.yield r)
noncomputable abbrev fj1:=(Shared→Prop)→Shared→Prop
noncomputable def bv4 (pG:Program) (w:World) (A:Around) (c:Code) (target:Expr) (it:Value) (ifs:List Expr) (emit:fj1) (env:Env) (R:Result→Shared→Prop) (s:Shared):Prop :=
 wpAny (model pG w) A (pyNext it) (fun r s₁=>match r with
   | none=>R (.ok .next) s₁
   | some v=>wpAny (model pG w) A (letOwnedTupleGo target it v) (fun u_ s₁'=>wpAny (model pG w) A (assign target env v) (fun u_ s₂ =>
     wpAny (model pG w) A (aj8 env ifs) (fun ok s₃ =>
      if ok=true then emit (fun s₅=>codeAny (model pG w) A c R s₅) s₃
      else codeAny (model pG w) A c R s₃) (notedBy (model pG w) A env fun e s'=>R (.error e) s') s₂) (notedBy (model pG w) A env fun e s'=>R (.error e) s') s₁') (notedBy (model pG w) A env fun e s'=>R (.error e) s') s₁)
   (notedBy (model pG w) A env fun e s'=>R (.error e) s') s
noncomputable def gv5 (pG:Program) (w:World) (A:Around) (elt:Expr) (acc:Value) (env:Env) (R:Result→Shared→Prop):fj1:=fun K s =>
 wpAny (model pG w) A (eval elt env) (fun x s₄=>wpAny (model pG w) A (call (.builtin "list.append") [acc,x]) (fun u_ s₅=>K s₅) (notedBy (model pG w) A env fun e s'=>R (.error e) s') s₄) (notedBy (model pG w) A env fun e s'=>R (.error e) s') s
noncomputable def ik9 (pG:Program) (w:World) (A:Around) (e iter:Expr) (acc:Value) (env:Env) (R:Result→Shared→Prop):fj1:=fun K s =>
 wpAny (model pG w) A (eval iter env) (fun x s₄=>wpAny (model pG w) A (pyIter x) (fun it s₅=>codeAny (model pG w) A (.compStart e 1 it acc env) (fun r s'=>r=.ok .next∧K s') s₅) (notedBy (model pG w) A env fun e s'=>R (.error e) s') s₄) (notedBy (model pG w) A env fun e s'=>R (.error e) s') s
theorem V5 {c:Code} {target:Expr} {it:Value} {ifs:List Expr} {emit:fj1} {R:Result→Shared→Prop} {pos:Pos} {tree:Sem PySem.Fin} {kk:Sem PySem.Fin}
  (e:tree=(do
   standAt pos
   match ← pyNext it with
   | none=>pure (.done .next)
   | some v =>
    letOwnedTupleGo target it v
    assign target env v
    let mut ok:=true
    for c in ifs do
     if ok then ok ← isTrue c env (eval c env)
    if ok then kk else again c))
  (he:∀ s,emit (fun s'=>codeAny (model pG w) A c R s') s→wpAny (model pG w) A kk (fun fin s'=>match fin with | .done f=>R (.ok f) s' | .again c'=>c'.quiet=true∧codeAny (model pG w) A c' R s') (notedBy (model pG w) A env fun e s'=>R (.error e) s') s) (hq:c.quiet=true)
  (h:bv4 pG w A c target it ifs emit env R s):wpAny (model pG w) A tree (fun fin s'=>match fin with | .done f=>R (.ok f) s' | .again c'=>c'.quiet=true∧codeAny (model pG w) A c' R s') (notedBy (model pG w) A env fun e s'=>R (.error e) s') s:=by
 refine a5 e ?_
 refine jk9 (kv7 (jk9 (kx7 h (fun r s₁ h₁=>?_) fun u_ u_ h'=>h')))
 induction r using Qd with
 | none=>exact jv5 h₁
 | some v =>
  refine jk9 (kx7 h₁ (fun u_ s₁' h₁'=>?_) fun u_ u_ h'=>h')
  refine jk9 (kx7 h₁' (fun u_ s₂ h₂=>jk9 (kx7 h₂ (fun ok s₃ h₃=>?_) fun u_ u_ h'=>h')) fun u_ u_ h'=>h')
  induction ok using Ql with
  | false=>exact jv5 ⟨hq,h₃⟩
  | true=>exact he _ h₃
theorem fx6 {elt target iter:Expr} {ifs:List Expr} {scope:Scope} {pos:Pos} {it acc:Value} {R:Result→Shared→Prop}
  (h:bv4 pG w A (.compLoop (.ListComp elt [⟨target,iter,ifs,0⟩] scope pos) 0 it acc env) target it ifs (gv5 pG w A elt acc env R) env R s):codeAny (model pG w) A (.compLoop (.ListComp elt [⟨target,iter,ifs,0⟩] scope pos) 0 it acc env) R s:=by
 refine kk0 ?_
 refine (?_:wpAny _ A ((compTurn (.ListComp elt [⟨target,iter,ifs,0⟩] scope pos) 0 it acc env).onRaise (fun x=>do noteFrame x env;theTreesLotGoes x)) _ _ s)
 exact mq4 (V5 (compTurn_list ..) (fun s h=>jk9 (jk9 (kx7 h (fun x s₄ h₄=>jk9 (kx7 h₄ (fun u_ s₅ h₅=>jv5 (jv5 ⟨rfl,h₅⟩)) fun u_ u_ h'=>h')) fun u_ u_ h'=>h'))) rfl h)
noncomputable abbrev J2 (elt t iter:Expr) (ifs:List Expr) (t2 iter2:Expr) (ifs2:List Expr) (scope:Scope) (pos:Pos):Expr:=.ListComp elt [⟨t,iter,ifs,0⟩,⟨t2,iter2,ifs2,0⟩] scope pos
theorem cx5 (elt t iter:Expr) (ifs:List Expr) (t2 iter2:Expr) (ifs2:List Expr) (scope:Scope) (pos:Pos) (it acc:Value) (env:Env) :
  compTurn (J2 elt t iter ifs t2 iter2 ifs2 scope pos) 0 it acc env=(do
   standAt iter.pos
   match ← pyNext it with
   | none=>pure (.done .next)
   | some v =>
    letOwnedTupleGo t it v
    assign t env v
    let mut ok:=true
    for c in ifs do
     if ok then ok ← isTrue c env (eval c env)
    if ok then
     let x ← eval iter2 env
     standAt iter2.pos
     let x ← foldedSetIterable iter2 env x
     let _ ← runOwn (.compStart (J2 elt t iter ifs t2 iter2 ifs2 scope pos) 1 (← holding [x] (pyIter x)) acc env) env
    again (.compLoop (J2 elt t iter ifs t2 iter2 ifs2 scope pos) 0 it acc env)):=by rfl
theorem bz6 (elt t iter:Expr) (ifs:List Expr) (t2 iter2:Expr) (ifs2:List Expr) (scope:Scope) (pos:Pos) (it acc:Value) (env:Env) :
  compTurn (J2 elt t iter ifs t2 iter2 ifs2 scope pos) 1 it acc env=(do
   standAt iter2.pos
   match ← pyNext it with
   | none=>pure (.done .next)
   | some v =>
    letOwnedTupleGo t2 it v
    assign t2 env v
    let mut ok:=true
    for c in ifs2 do
     if ok then ok ← isTrue c env (eval c env)
    if ok then (do let _ ← call (.builtin "list.append") [acc,← eval elt env])
    again (.compLoop (J2 elt t iter ifs t2 iter2 ifs2 scope pos) 1 it acc env)):=by rfl
theorem dk4 {elt t iter:Expr} {ifs:List Expr} {t2 iter2:Expr} {ifs2:List Expr} {scope:Scope} {pos:Pos} {it acc:Value} {R:Result→Shared→Prop} (hs:∀ x,foldedSetIterable iter2 env x=pure x)
  (h:bv4 pG w A (.compLoop (J2 elt t iter ifs t2 iter2 ifs2 scope pos) 0 it acc env) t it ifs (ik9 pG w A (J2 elt t iter ifs t2 iter2 ifs2 scope pos) iter2 acc env R) env R s):codeAny (model pG w) A (.compLoop (J2 elt t iter ifs t2 iter2 ifs2 scope pos) 0 it acc env) R s:=by
 refine kk0 ?_
 refine (?_:wpAny _ A ((compTurn (J2 elt t iter ifs t2 iter2 ifs2 scope pos) 0 it acc env).onRaise (fun x=>do noteFrame x env;theTreesLotGoes x)) _ _ s)
 refine mq4 (V5 (cx5 ..) (fun s h=>?_) rfl h)
 refine jk9 (kx7 h (fun x s₄ h₄=>jk9 (kv7 ?_)) fun u_ u_ h'=>h')
 refine a5 (hs ..) (a5 (pure_bind ..) ?_)
 refine jk9 (kx7 (kx6 h₄) (fun it s₅ h₅=>?_) fun u_ u_ h'=>h')
 refine jk9 (wpAny_runOwn ?_)
 refine a5 (Around.mark_none ..) ?_
 exact mz7 h₅ fun r s' q=>by
  (refine oA q ?_;clear q;rintro rfl q)
  exact jv5 ⟨rfl,q⟩
theorem cw3 {elt t iter:Expr} {ifs:List Expr} {t2 iter2:Expr} {ifs2:List Expr} {scope:Scope} {pos:Pos} {it acc:Value} {R:Result→Shared→Prop}
  (h:bv4 pG w A (.compLoop (J2 elt t iter ifs t2 iter2 ifs2 scope pos) 1 it acc env) t2 it ifs2 (gv5 pG w A elt acc env R) env R s):codeAny (model pG w) A (.compLoop (J2 elt t iter ifs t2 iter2 ifs2 scope pos) 1 it acc env) R s:=by
 refine kk0 ?_
 refine (?_:wpAny _ A ((compTurn (J2 elt t iter ifs t2 iter2 ifs2 scope pos) 1 it acc env).onRaise (fun x=>do noteFrame x env;theTreesLotGoes x)) _ _ s)
 exact mq4 (V5 (bz6 ..) (fun s h=>jk9 (jk9 (kx7 h (fun x s₄ h₄=>jk9 (kx7 h₄ (fun u_ s₅ h₅=>jv5 (jv5 ⟨rfl,h₅⟩)) fun u_ u_ h'=>h')) fun u_ u_ h'=>h'))) rfl h)
theorem cx4 {elt t iter:Expr} {ifs:List Expr} {t2 iter2:Expr} {ifs2:List Expr} {scope:Scope} {pos:Pos} {it acc:Value} {R:Result→Shared→Prop}
  (h0:codeAny (model pG w) A (.compLoop (J2 elt t iter ifs t2 iter2 ifs2 scope pos) 1 it acc env) R s)
  (h:wpAny (model pG w) A (pyIter it) (fun it' s'=>codeAny (model pG w) A (.compLoop (J2 elt t iter ifs t2 iter2 ifs2 scope pos) 1 it' acc env) R s') (notedBy (model pG w) A env fun x s'=>R (.error x) s') s) :
  codeAny (model pG w) A (.compStart (J2 elt t iter ifs t2 iter2 ifs2 scope pos) 1 it acc env) R s:=by
 refine kk0 ?_
 refine (?_:wpAny _ A ((compStart (J2 elt t iter ifs t2 iter2 ifs2 scope pos) 1 it acc env).onRaise (fun x=>do noteFrame x env;standAt theWindowsPlace)) _ _ s)
 refine wpAny_notedAt ?_
 refine (?_:wpAny _ _ (ask >>= _) _ _ s)
 refine jk9 (lq2 (wpAny_ite ?_))
 split
 ·first
   | exact jk9 (jv5 (jv5 (And.intro rfl h0)))
   | exact jv5 (And.intro rfl h0)
 ·refine jk9 (mx6 (jk9 (kv7 (jk9 (kx7 h (fun it' s' h'=>?_) fun u_ u_ h'=>h')))))
  exact jv5 (And.intro rfl h')
noncomputable def TIf (pG:Program) (w:World) (hb:Heap) (sc:Scope) (n:Nat) (ρ:c8):List Expr→HL→(Bool→HL→Prop)→Prop
 | [],H,Q=>Q true H
 | [c],H,Q=>TB pG w hb sc n Xs.no ρ c H Q
 | _,_,_=>False
noncomputable abbrev EmT:=c8→List PyData→HL→(List PyData→HL→Prop)→Prop
noncomputable def C9 (pG:Program) (w:World) (hb:Heap) (sc:Scope) (n:Nat) (em:EmT) (t:Expr) (ifs:List Expr) (ρ:c8):List V→List PyData→HL→(List PyData→HL→Prop)→Prop
 | [],acc,H,Q=>Q acc H
 | d::ds,acc,H,Q=>TA pG w hb sc n Xs.no ρ t d H fun ρ1 H1=>Keeps' ρ ρ1∧TIf pG w hb sc n ρ1 ifs H1 fun b H2 =>
   (b=true→em ρ1 acc H2 fun acc' H3=>C9 pG w hb sc n em t ifs ρ ds acc' H3 Q)∧(b=false→C9 pG w hb sc n em t ifs ρ ds acc H2 Q)
noncomputable def em1 (pG:Program) (w:World) (hb:Heap) (sc:Scope) (n:Nat) (elt:Expr):EmT:=fun ρ1 acc H Q=>TE pG w hb sc n Xs.no ρ1 elt H fun y H3=>∃ z,y=.dat z∧Q (acc++[z]) H3
noncomputable def em2 (pG:Program) (w:World) (hb:Heap) (sc:Scope) (n:Nat) (elt t2 iter2:Expr) (ifs2:List Expr):EmT:=fun ρ1 acc H Q=>TE pG w hb sc n Xs.no ρ1 iter2 H fun x H3=>∃ ds,R4 pG w hb n x H3 H3 ds∧ds.length≤1000∧C9 pG w hb sc n (em1 pG w hb sc n elt) t2 ifs2 ρ1 ds acc H3 Q
noncomputable abbrev hz5 (pG:Program) (w:World) (hb:Heap) (sc:Scope) (n:Nat) (t:Expr) (ifs:List Expr) (elt:Expr) (ρ:c8):List V→List PyData→HL→(List PyData→HL→Prop)→Prop:=C9 pG w hb sc n (em1 pG w hb sc n elt) t ifs ρ
theorem cq3 {E:Value→Shared→Prop}:Exn hb A env Xs.no H s E:=fun h=>(show False from h).elim
noncomputable def EmOk (pG:Program) (w:World) (hb:Heap) (sc:Scope) (n:Nat) (A:Around) (env:Env) (D:Addr) (M:Nat) (em:EmT) (emit:fj1):Prop :=
 ∀ {ρ:c8} {acc:List PyData} {H:HL} {QE:List PyData→HL→Prop} {Z:List Addr} {s:Shared} {vs:Array Value} {K:Shared→Prop},em ρ acc H QE→Pt pG w hb sc env A n Xs.no Z ρ H s→D∈Z→D∉foots H→s.heap.PlainList D vs→RdL (f7 s Z) vs.toList acc→acc.length+M≤1000000 →
  (∀ {s' Z' ρ' H' acc' vs'},Step (D::own env) Z H s Z' H' s'→Pt pG w hb sc env A n Xs.no Z' ρ' H' s'→Keeps' ρ ρ'→D∈Z'→s'.heap.PlainList D vs'→RdL (f7 s' Z') vs'.toList acc'→acc'.length≤acc.length+M→QE acc' H'→K s')→emit K s
theorem cw2 {elt:Expr} {D:Addr} {R:Result→Shared→Prop} (oD:D∉own env):EmOk pG w hb sc n A env D 1 (em1 pG w hb sc n elt) (gv5 pG w A elt (.ref D) env R):=by
 intro ρ acc H QE Z s vs K q p hz hf hl hr hb1 k
 refine Tri.run q p cq3 fun {v s4 Z4 d ρ4 H4} s4' p4 ex4 u4 r4 q4=>?_
 (refine oA q4 ?_;clear q4;rintro rfl y;refine c9 y ?_;clear y;rintro z rfl q4)
 refine oE (id hl) fun nn e0=>?_
 have hl4:s4.heap.PlainList D vs:=hl.at fun o e=>s4'.keep D o e oD hf
 have hz4:D∈Z4:=(s4'.unhid D hz).resolve_right hf
 have hf4:D∉foots H4:=fun q=>(s4'.feet D q).elim hf fun q=>a7 e0 q
 have hRd4:=hr.mono u4
 have hsz:vs.size≤sizeLine:=by
  have:=hr.length
  rw [jw2] at this
  have:sizeLine=16777216:=by rfl
  lia
 refine mw1 hl4 (fun h5 hl5 hs5=>?_) hsz
 have hk5:∀ b o,b≠D→s4.heap.get? b=some o→h5.get? b=some o:=fun b o n e=>(hs5.2 b n).trans e
 refine oE (id hl5) fun n5 e5=>?_
 refine oA (p4.sat.chg (t:=s4.toks) oD hf4 hz4 hk5 ⟨_,e5⟩) fun y5 u5=>?_
 refine k (s':={ s4 with heap:=h5,toks:=s4.toks }) (Z':=Z4) (acc':=acc++[z]) ⟨fun b o e n1 n2=>hk5 b o (fun q=>n1 (by refine a5 q ?_;exact jv0 ..)) (s4'.keep b o e (fun q=>n1 (jv3 _ q)) n2),s4'.hidden,s4'.unhid,s4'.feet,s4'.os⟩
  ⟨p4.eok,p4.room,fun h=>(show False from h).elim,y5⟩ (fun u_ u_ h=>h) hz4 hl5 ?_ (by simp) q4
 replace r4:Rd _ _ _:=r4.inv
 refine a5 lk1 ?_
 exact (hRd4.mono u5).append (.cons (r4.mono u5) .nil)
theorem ej9 {ifs:List Expr} {ρ2:c8} {H2:HL} {Z2:List Addr} {s2:Shared} {P:Bool→HL→Prop} {QB:Bool→Shared→Prop} {E:Value→Shared→Prop} (p2:Pt pG w hb sc env A n Xs.no Z2 ρ2 H2 s2) (q2:TIf pG w hb sc n ρ2 ifs H2 P)
  (hQ:∀ {b s3 Z3 H3},Step (own env) Z2 H2 s2 Z3 H3 s3→Pt pG w hb sc env A n Xs.no Z3 ρ2 H3 s3→Sub (f7 s2 Z2) (f7 s3 Z3)→P b H3→QB b s3):wpAny (model pG w) A (aj8 env ifs) QB E s2:=by
 cases ifs with
 | nil=>exact jv5 (hQ (.refl ..) p2 (fun u_ u_ e=>e) q2)
 | cons cnd r =>
  cases r with
  | cons _ _=>exact q2.elim
  | nil =>
   have e:aj8 env [cnd]=isTrue cnd env (eval cnd env):=by
    dsimp only [aj8]
    simp [mx8]
   refine a5 e ?_
   have q2:TB pG w hb sc n Xs.no ρ2 cnd H2 _:=q2
   refine Tri.run (t:=fun env=>isTrue cnd env (eval cnd env)) q2 p2 cq3 fun {v s3 Z3 d ρ3 H3} s3' p3 ex3 u3 r3 q3=>?_
   (refine oA q3 ?_;clear q3;rintro rfl q3)
   subst r3
   exact hQ s3' p3 u3 q3
theorem cw4 {c:Code} {t:Expr} {ifs:List Expr} {em:EmT} {emit:fj1} {M:Nat} {I D:Addr} {kp:List Addr} {ds:List V} {g:Heap} {St:Nat→Heap→Prop} (W:Wk pG w A I kp ds g St) {Q:List PyData→HL→Prop} {R:Result→Shared→Prop}
  (turn:∀ s,bv4 pG w A c t (.ref I) ifs emit env R s→codeAny (model pG w) A c R s) (hem:EmOk pG w hb sc n A env D M em emit)
  {Z0:List Addr} {H0:HL} {s0:Shared} (z0:∀ a∈Z0,∃ o,s0.heap.get? a=some o) (f0:∀ a∈foots H0,a∈Z0) {ow0:List Addr} (nI:s0.heap.get? I=none) (nD:s0.heap.get? D=none∨D∈ow0) (hcl:∀ a∈own env,s0.heap.get? a=none∨a∈ow0) (owz:∀ a∈ow0,a∈Z0)
  (oI:I∉own env) (oD:D∉own env) (hID:I≠D) (kpo:∀ b∈kp,b∉own env∧b≠D) {B:Nat}
  (k:∀ {s' Z' ρ' ys H' vs},Step ow0 Z0 H0 s0 Z' H' s'→Pt pG w hb sc env A n Xs.no Z' ρ' H' s'→Keeps' ρ ρ'→s'.heap.PlainList D vs→RdL (f7 s' Z') vs.toList ys→D∉foots H'→D∈Z'→ys.length≤B→Q ys H'→R (.ok .next) s') (hB:B≤1000000) (m:Nat) :
  ∀ (i:Nat) {acc:List PyData} {Z:List Addr} {ρ1:c8} {H:HL} {s:Shared} {vs:Array Value},ds.length - i=m→i≤ds.length→acc.length+m * M≤B→C9 pG w hb sc n em t ifs ρ (ds.drop i) acc H Q→Pt pG w hb sc env A n Xs.no Z ρ1 H s→Keeps' ρ ρ1→Step ow0 Z0 H0 s0 Z H s→St i s.heap→I∈Z→D∈Z →
   s.heap.PlainList D vs→RdL (f7 s Z) vs.toList acc→(∀ b∈I::D::kp,b∉foots H∧∃ o,s.heap.get? b=some o)→Sub g (f7 s Z)→codeAny (model pG w) A c R s:=by
 induction m with
 | zero =>
  intro i acc Z ρ1 H s vs hm hi ha h p kρ1 st hS hz hzD hPl hRd hk hg
  have e:i=ds.length:=by exact kq1 (hi) (i5 [_,_,_] 1 zA (.num 0) 1 zB (.add zA zC) zB zC tT (o7 hm) sA)
  subst e
  rw [nx4] at h
  refine turn s (aj5 W hS (jw4 _) (fun u_ h' t' hk'=>?_) fun v d h' t' hd=>by simp at hd)
  refine oA (p.sat.chgLess (t:=t') oI (hk I (by exact jv0)).1 hz hk') fun y u=>?_
  have st':Step ow0 Z0 H0 s0 (less Z I) H { s with heap:=h',toks:=t' }:=by
   refine ⟨fun b o e n1 n2=>hk' b o (fun q=>by subst q;exact a7 e nI) (st.keep b o e n1 n2),fun a m=>st.hidden a (n8.mp m).1,fun a m=>(st.unhid a m).imp (fun q=>n8.mpr ⟨q,fun e=>?_⟩) id,st.feet,st.os⟩
   subst e
   refine oE (z0 a m) fun o h=>?_
   exact a7 h nI
  have eI:D≠I:=Ne.symm hID
  exact k st' ⟨p.eok,p.room,fun h=>(show False from h).elim,y⟩ kρ1 (hPl.at fun o e=>hk' D o eI e) (hRd.mono u) (hk D (by simp)).1 (n8.mpr ⟨hzD,eI⟩) (by exact d6 [_,_,_] 1 (.add zA (.mulL 0 zB)) zC zA zC tT ha) h
 | succ m ih =>
  intro i acc Z ρ1 H s vs hm hi ha h p kρ1 st hS hz hzD hPl hRd hk hg
  rw [Nat.succ_mul] at ha
  have hlt:i<ds.length:=by exact i5 [_,_,_,_] 1 (.add zA nA) zB 1 (.add zB zC) zD (.add zC nA) zD tT (H6 hm) (sC (hi))
  have hdrop:ds.drop i=ds[i]::ds.drop (i+1):=by simp
  rw [hdrop] at h
  refine turn s (aj5 W hS hi (fun e=>by lia) fun v d h' t' hd r hS' hk'=>?_)
  have ed:d=ds[i]:=by rw [jw0 hlt] at hd;exact (Qm hd).symm
  subst ed
  refine W.letGo hS' ?_
  refine y9 (W.kind _ _ hS') fun oI' nm' hlI u_=>?_
  refine oA (p.sat.chg (t:=t') oI (hk I (by exact jv0)).1 hz hk' ⟨_,hlI⟩) fun y u=>?_
  have p1:Pt pG w hb sc env A n Xs.no Z ρ H { s with heap:=h',toks:=t' }:=Pt.fewer ⟨p.eok,p.room,fun h=>(show False from h).elim,y⟩ kρ1
  have hlist:h'.PlainList D vs:=hPl.at fun o e=>hk' D o (Ne.symm hID) e
  have h:TA pG w hb sc n Xs.no ρ t ds[i] H _:=h
  refine h env A _ _ _ _ _ p1 (r.mono (hg.trans u)) cq3 fun {s2 Z2 ρ2 H2} s2' p2 ex2 u2 q2=>?_
  (refine oA q2 ?_;clear q2;intro kρ q2)
  have ob:∀ b∈I::kp,b∉D::own env:=fun b hb q=>by
   rcases jv6.mp q with rfl | q
   ·refine Qa (jv6.mp hb) (fun e=>?_) fun hb=>?_
    ·exact hID e.symm
    ·exact (kpo b hb).2 rfl
   ·rcases jv6.mp hb with rfl | hb
    ·exact oI q
    ·exact (kpo b hb).1 q
  have sb:∀ b∈I::kp,b∈I::D::kp:=fun b hb=>by rcases jv6.mp hb with rfl | hb <;> simp [*]
  have again:∀ {ρ3 Z3 H3 s3 acc' vs'},Step (D::own env) Z H { s with heap:=h',toks:=t' } Z3 H3 s3→Pt pG w hb sc env A n Xs.no Z3 ρ3 H3 s3→Keeps' ρ ρ3→D∈Z3→s3.heap.PlainList D vs'→RdL (f7 s3 Z3) vs'.toList acc' →
    acc'.length+m * M≤B→C9 pG w hb sc n em t ifs ρ (ds.drop (i+1)) acc' H3 Q→codeAny (model pG w) A c R s3:=fun {ρ3 Z3 H3 s3 acc' vs'} st3 p3 kr dz hl3 hr3 hb3 q3=>by
   have lv:∀ b∈I::kp,∃ o,h'.get? b=some o:=fun b hb=>by
    by_cases e:b=I
    ·subst e;exact ⟨_,hlI⟩
    ·refine oE ((hk b (sb b hb)).2) fun o e'=>?_
     exact ⟨o,hk' b o e e'⟩
   have gone:∀ {b},b∉foots H→(∃ o,h'.get? b=some o)→b∉foots H3:=fun nf y q=>oE y fun o e=>(st3.feet _ q).elim nf fun q=>a7 e q
   refine ih (i+1) (by exact kq1 (T5 [_,_,_,_,_] 1 zA (.add zB nA) 1 (.add zC (.add zD nA)) (.var 4) 1 (.var 4) (.add zA zD) zC zB tT (o7 hm) (sC (hlt)) sA) (T5 [_,_,_,_,_] 1 (.add zA nA) zB 1 zC (.add zD (.add (.var 4) nA)) 1 (.add zB (.var 4)) zC zA zD tT (H6 hm) sA (sC (d6 [_,_] 1 (.add zA nA) zB zA zB tT hlt)))) (by exact hlt) hb3 q3 p3 kr ?_ ?_ ?_ dz hl3 hr3 (fun b hb=>?_) (hg.trans (u.trans (st3.mono (fun a m=>?_) p1.sat.sub)))
   ·refine ⟨fun b o e n1 n2=>?_,fun a m=>?_,fun a m=>?_,fun a m=>?_,st3.os.trans st.os⟩
    ·have nb:b≠I:=fun q=>by subst q;exact a7 e nI
     refine st3.keep b o (hk' b o nb (st.keep b o e n1 n2)) (fun q=>?_) fun q=>(st.feet b q).elim n2 fun q=>a7 e q
     rcases jv6.mp q with rfl | q
     ·exact nD.elim (fun q=>a7 e q) n1
     ·exact (hcl b q).elim (fun q=>a7 e q) n1
    ·refine Qa (st3.hidden a m) (fun m=>?_) fun m=>?_
     ·exact st.hidden a m
     ·cases q:s0.heap.get? a with
      | none=>exact .inr rfl
      | some o =>
       by_cases n1:a∈ow0
       ·exact .inl (owz a n1)
       ·by_cases n2:a∈foots H0
        ·exact .inl (f0 a n2)
        ·have nb:a≠I:=fun e=>by subst e;exact a7 q nI
         exact a7 (hk' a o nb (st.keep a o q n1 n2)) m
    ·refine Qa (st.unhid a m) (fun m1=>?_) fun m1=>?_
     ·refine Qa (st3.unhid a m1) (fun m2=>?_) fun m2=>?_
      ·exact .inl m2
      ·refine Qa (st.feet a m2) (fun m3=>?_) fun m3=>?_
       ·exact .inr m3
       ·refine oE (z0 a m) fun o e=>?_
        exact a7 e m3
     ·exact .inr m1
    ·refine Qa (st3.feet a m) (fun m=>?_) fun m=>?_
     ·exact st.feet a m
     ·cases q:s0.heap.get? a with
      | none=>exact .inr rfl
      | some o =>
      by_cases n2:a∈foots H0
      ·exact .inl n2
      ·have nb:a≠I:=fun e=>by subst e;exact a7 q nI
       by_cases n1:a∈ow0
       ·refine Qa (st.unhid a (owz a n1)) (fun q1=>?_) fun q1=>?_
        ·refine oE (p.sat.zlt a q1) fun o2 e2=>?_
         exact a7 (hk' a o2 nb e2) m
        ·exact absurd q1 n2
       ·exact a7 (hk' a o nb (st.keep a o q n1 n2)) m
   ·refine c9 W.ex fun P W1 u_=>?_
    exact W1.frame _ _ _ hS' fun b hb o e=>st3.keep b o e (ob b hb) (hk b (sb b hb)).1
   ·exact (st3.unhid I hz).resolve_right (hk I (by exact jv0)).1
   ·rcases jv6.mp hb with rfl | hb
    ·exact ⟨gone (hk _ (by trivial)).1 (lv _ (by exact jv0)),let ⟨o,e⟩:=lv b (by exact jv0);⟨o,st3.keep _ o e (ob _ (by exact jv0)) (hk _ (by trivial)).1⟩⟩
    ·rcases jv6.mp hb with rfl | hb
     ·exact ⟨gone (hk _ (by trivial)).1 (hlist.elim fun u_ e=>⟨_,e⟩),hl3.elim fun u_ e=>⟨_,e⟩⟩
     ·have m:=jv3 I hb
      exact ⟨gone (hk b (sb b m)).1 (lv b m),(lv b m).elim fun o e=>⟨o,st3.keep b o e (ob b m) (hk b (sb b m)).1⟩⟩
   ·rcases jv6.mp m with rfl | m
    ·exact hzD
    ·exact p1.sat.ownZ a m
  refine ej9 p2 q2 fun {b s3 Z3 H3} s3' p3 u3 q3=>?_
  have tot3:Step (D::own env) Z H { s with heap:=h',toks:=t' } Z3 H3 s3:=(p1.tr p2 s2' s3').own_more fun u_ m=>jv3 _ m
  have nf:=(hk D (by simp)).1
  have tot:=p1.tr p2 s2' s3'
  have dz3:D∈Z3:=(tot.unhid D hzD).resolve_right nf
  have hl3:s3.heap.PlainList D vs:=hlist.at fun o e=>tot.keep D o e oD nf
  have hr3:RdL (f7 s3 Z3) vs.toList acc:=hRd.mono (u.trans (u2.trans u3))
  induction b using Ql with
  | false =>
   exact again tot3 p3 kρ dz3 hl3 hr3 (by exact d6 [_,_,_,_] 1 (.add zA (.add zB zC)) zD (.add zA zB) zD tT ha) (q3.2 rfl)
  | true =>
   have nf3:D∉foots H3:=fun q=>(tot.feet D q).elim nf fun q=>hlist.elim fun u_ e=>a7 e q
   refine hem (q3.1 rfl) p3 dz3 nf3 hl3 hr3 (by exact i5 [_,_,_,_] 1 (.add zA (.add zB zC)) zD 1 zD (.num 1000000) (.add zA zC) (.num 1000000) tT ha hB) fun {s5 Z5 ρ5 H5 acc5 vs5} st5 p5 k5 dz5 hl5 hr5 hb5 q5=>?_
   refine again (tot3.trans st5 p1.sat.zlt p1.sat.sub fun a m=>?_) p5 (fun z e h=>k5 z e (kρ z e h)) dz5 hl5 hr5 (by exact i5 [_,_,_,_,_] 1 zA (.add zB zC) 1 (.add zB (.add zD zC)) (.var 4) (.add zA zD) (.var 4) tT hb5 ha) q5
   rcases jv6.mp m with rfl | m
   ·exact hl3.elim fun u_ e=>⟨_,e⟩
   ·exact p3.sat.live a m
theorem gv4 {elt t iter:Expr} {ifs:List Expr} {t2 iter2:Expr} {ifs2:List Expr} {scope:Scope} {pos:Pos} {D:Addr} {R:Result→Shared→Prop} (oD:D∉own env) :
  EmOk pG w hb sc n A env D 1000 (em2 pG w hb sc n elt t2 iter2 ifs2) (ik9 pG w A (J2 elt t iter ifs t2 iter2 ifs2 scope pos) iter2 (.ref D) env R):=by
 intro ρ acc H QE Z s vs K q p hz hf hl hr hb1 k
 refine Tri.run q p cq3 fun {v s4 Z4 d ρ4 H4} s4' p4 ex4 u4 r4 q4=>?_
 (refine oA q4 ?_;clear q4;rintro rfl y;refine o9 y ?_;clear y;intro ds hi hlen q4)
 refine hi A _ _ _ _ _ p4.room p4.sat.toSat r4 fun I h5 t5 kp St ks nI lI W hS hkp=>?_
 refine oE (id hl) fun nn e0=>?_
 have hf4:D∉foots H4:=fun q=>(s4'.feet D q).elim hf fun q=>a7 e0 q
 have hz4:D∈Z4:=(s4'.unhid D hz).resolve_right hf
 have hl4:s4.heap.PlainList D vs:=hl.at fun o e=>s4'.keep D o e oD hf
 refine oE (id hl4) fun n4 e4=>?_
 refine J7 (p4.sat.growHide (h':=h5) (t:=t5) (ys:=[I]) ks (fun a ha=>by refine a5 (jv4.mp ha) ?_;exact nI) fun a ha=>by refine a5 (jv4.mp ha) ?_;exact lI) fun y st u=>?_
 have p5:=p4.step st y
 have oI:I∉own env:=fun m=>by
  refine oE (p4.sat.live I m) fun o e=>?_
  exact a7 e nI
 have hID:I≠D:=fun e=>by (replace e:=e.symm;subst e);exact a7 e4 nI
 have loop:codeAny (model pG w) A (.compLoop (J2 elt t iter ifs t2 iter2 ifs2 scope pos) 1 (.ref I) (.ref D) env) (fun r s'=>r=.ok .next∧K s') { s4 with heap:=h5,toks:=t5 }:=by
  refine cw4 (D:=D) (M:=1) (B:=acc.length+1000) W (fun s h=>cw3 h) (cw2 oD) (Z0:=Z4) (H0:=H4) (s0:=s4) p4.sat.zlt p4.sat.sub (ow0:=D::own env) nI (.inr (jv0 ..)) (fun a m=>.inr (jv3 _ m)) (fun a m=>?_) oI oD hID (fun b hb=>?_) (fun {s' Z' ρ' ys H' vs'} st' p' kr hl' hr' hD' hDz hb' q'=>?_) hb1 _ 0 (acc:=acc) rfl (kx0 _) (by lia) q4 p5 (fun u_ u_ h=>h) (st.own_more fun u_ m=>jv3 _ m) hS (by exact jv0) (jv3 _ hz4) (hl4.at fun o e=>ks D o e) (hr.mono (u4.trans u)) (fun b hb=>?_) u
  ·rcases jv6.mp m with rfl | m
   ·exact hz4
   ·exact p4.sat.ownZ a m
  ·refine oA (hkp b hb) fun h1 y=>V7 y fun h2 o h3=>?_
   refine ⟨fun m=>?_,fun e=>?_⟩
   ·exact h2.elim (fun h2=>h2 (p4.sat.ownZ b m)) fun h2=>p4.sat.ownH b m h2
   ·(replace e:=e.symm;subst e)
    exact h2.elim (fun h2=>h2 hz4) hf4
  ·refine ⟨rfl,k ((s4'.own_more fun u_ m=>jv3 _ m).trans st' p.sat.zlt p.sat.sub fun a m=>?_) p' kr hDz hl' hr' hb' q'⟩
   rcases jv6.mp m with rfl | m
   ·exact ⟨_,e4⟩
   ·exact p4.sat.live a m
  ·rcases jv6.mp hb with rfl | hb
   ·exact ⟨fun q=>by refine oE (p4.sat.zlt _ (p4.sat.sub _ q)) fun o e=>?_;exact a7 e nI,lI⟩
   ·rcases jv6.mp hb with rfl | hb
    ·exact ⟨hf4,_,ks _ _ e4⟩
    ·refine oA (hkp b hb) fun h1 y=>V7 y fun u_ o h3=>?_
     exact ⟨h1,o,ks _ _ h3⟩
 exact cx4 loop (W.ex.elim fun P h=>h.1.self 0 _ _ _ hS loop)
structure Clauses (pG:Program) (w:World) (hb:Heap) (sc:Scope) (n:Nat) (e t:Expr) (ifs:List Expr) (em:EmT) (M:Nat):Prop where
 ok:∀ (A:Around) (env:Env) (D:Addr) (R:Result→Shared→Prop),D∉own env→∃ emit,EmOk pG w hb sc n A env D M em emit∧∀ it s,bv4 pG w A (.compLoop e 0 it (.ref D) env) t it ifs emit env R s→codeAny (model pG w) A (.compLoop e 0 it (.ref D) env) R s
theorem ez7 {elt t iter:Expr} {ifs:List Expr} {scope:Scope} {pos:Pos}:Clauses pG w hb sc n (.ListComp elt [⟨t,iter,ifs,0⟩] scope pos) t ifs (em1 pG w hb sc n elt) 1 :=
 ⟨fun u_ u_ u_ u_ oD=>⟨_,cw2 oD,fun u_ u_ h=>fx6 h⟩⟩
theorem ez6 {elt t iter:Expr} {ifs:List Expr} {t2 iter2:Expr} {ifs2:List Expr} {scope:Scope} {pos:Pos} (hs:∀ env x,foldedSetIterable iter2 env x=pure x) :
  Clauses pG w hb sc n (J2 elt t iter ifs t2 iter2 ifs2 scope pos) t ifs (em2 pG w hb sc n elt t2 iter2 ifs2) 1000 :=
 ⟨fun u_ u_ u_ u_ oD=>⟨_,gv4 oD,fun u_ u_ h=>dk4 (hs _) h⟩⟩
inductive Bk:HL→HL→Prop
 | same {G:HL}:Bk G G
 | cut {Ha Hb:HL} {a:Addr} {xs:List PyData}:Bk (Ha++(a,.lst xs)::Hb) (Ha++Hb)
theorem Bk.fsub {H1 Hk:HL} (b:Bk H1 Hk):∀ a∈foots Hk,a∈foots H1:=fun a m=>by
 cases b with
 | same=>exact m
 | cut=>exact K4 m
theorem Bk.sat {H1 Hk:HL} (b:Bk H1 Hk) (x:Sat pG w hb Z H1 s):Sat pG w hb Z Hk s:=by
 cases b with
 | same=>exact x
 | cut=>exact x.cut
theorem Bk.back {H1 Hk:HL} {Z1:List Addr} {s1:Shared} {ow:List Addr} (b:Bk H1 Hk) (x1:Sat pG w hb Z1 H1 s1) (how:∀ a∈ow,a∈Z1∧a∉foots H1) (st:Step ow Z1 Hk s1 Z' Hk s') (y:Sat pG w hb Z' Hk s') :
  Sat pG w hb Z' H1 s'∧Step ow Z1 H1 s1 Z' H1 s':=by
 cases b with
 | same=>exact ⟨y,st⟩
 | @cut Ha Hb a xs =>
  have af:a∉foots (Ha++Hb):=V3 (e:=(a,.lst xs)) x1.nd (by exact kz6 _)
  have am:a∈foots (Ha++(a,.lst xs)::Hb):=r9 (a:=a) (o:=.lst xs) (by exact jv7 _ jv0) (by exact kz6 _)
  refine y9 (x1.own (a,.lst xs) (by exact jv7 _ jv0)) fun vs k h1 h2=>?_
  have aow:a∉ow:=fun q=>(how a q).2 am
  have hk:=st.keep a _ h1 aow af
  have az:a∈Z':=by
   refine Qa (st.unhid a (x1.sub a am)) (fun q=>?_) fun q=>?_
   ·exact q
   ·exact absurd q af
  refine ⟨⟨y.bs,y.base,y.zlt,fun b m=>?_,x1.nd,fun p hp=>?_,y.gens⟩,⟨fun b o e n1 n2=>st.keep b o e n1 fun q=>n2 (K4 q),st.hidden,fun b m=>(st.unhid b m).imp id K4,fun b m=>.inl m,st.os⟩⟩
  ·rw [d8] at m
   refine Qa (jw1.mp m) (fun m=>?_) fun m=>?_
   ·exact y.sub b (by refine a5 (d8 ..) ?_;exact jv8 _ m)
   ·simp only [foots,O.foot] at m
    refine Qa (jw1.mp m) (fun m=>?_) fun m=>?_
    ·refine a5 (jv4.mp m) ?_;exact az
    ·exact y.sub b (by refine a5 (d8 ..) ?_;exact jv7 _ m)
  ·refine Qa (jw1.mp hp) (fun hp=>?_) fun hp=>?_
   ·exact y.own p (jv8 _ hp)
   ·rcases jv6.mp hp with rfl | hp
    ·exact ⟨vs,k,hk,h2.mono (st.mono (fun b q=>(how b q).1) fun b q=>x1.sub b (K4 q))⟩
    ·exact y.own p (jv7 _ hp)
theorem Sat.ownNew {D:Addr} {vs:Array Value} {xs:List PyData} (x:Sat pG w hb Z H s) (hz:D∈Z) (hf:D∉foots H) (hl:s.heap.PlainList D vs) (r:RdL (f7 s Z) vs.toList xs):Sat pG w hb Z ((D,.lst xs)::H) s:=by
 refine ⟨x.bs,x.base,x.zlt,fun a m=>?_,?_,fun p hp=>?_,x.gens⟩
 ·simp only [foots,O.foot] at m
  refine Qa (jw1.mp m) (fun m=>?_) fun m=>?_
  ·refine a5 (jv4.mp m) ?_;exact hz
  ·exact x.sub a m
 ·refine (?_:([D]++foots H).Nodup)
  exact kq6.mpr ⟨hf,x.nd⟩
 ·rcases jv6.mp hp with rfl | hp
  ·(refine oE hl ?_;clear hl;intro n e)
   exact ⟨vs,n,e,r⟩
  ·exact x.own p hp
theorem SatE.reown (x:SatE pG w hb env Z ρ H s) (y:Sat pG w hb Z H' s) (h:∀ a∈own env,a∉foots H'):SatE pG w hb env Z ρ H' s :=
 { toSat:=y,ownZ:=x.ownZ,ownH:=h,ondup:=x.ondup,cells:=x.cells,ns:=x.ns }
theorem bx3 {cells:List (Str × Addr)} (nd:(cells.map (·.2)).Nodup) {names:List (Str × NameKind)} (hn:(names.map (·.1)).Nodup) (hh:∀ x,(x,NameKind.free)∈names→∃ c,cells.lookup x=some c) :
  ((b9 cells names []).map (·.2)).Nodup:=by
 have h1:((b9 cells names []).map (·.1)).Nodup:=v9 hn (by trivial) (fun p hp=>nomatch hp)
 have hp:cells.Pairwise fun a b=>a.2≠b.2:=by rw [List.Nodup,kv8] at nd;exact nd
 have key:∀ p∈b9 cells names [],cells.lookup p.1=some p.2:=fun p hp=>by
  (refine Qa (w3 hp) ?_ ?_;intro h;rotate_left;(intro yz;refine oA yz fun h e=>?_);rotate_left)
  ·cases h
  ·refine oE (hh _ h) fun c hc=>?_
   refine a5 e (a5 hc ?_);rfl
 rw [List.Nodup,kv8] at h1 ⊢
 refine List.Pairwise.imp_of_mem (fun {a b} ha hb' hne q=>hne ?_) h1
 have ea:=key a ha
 have eb:=key b hb'
 rw [← q] at eb
 exact PySem.name_of_addr hp (Qe ea) (Qe eb)
noncomputable def aj0 (sc scope:Scope):Bool:=scope.names.all fun y=>y.2 != .free||sc.names.lookup y.1 == some .cell||sc.names.lookup y.1 == some .free
theorem O6 {sc scope:Scope} (h:aj0 sc scope=true) {x:Str} (m:(x,NameKind.free)∈scope.names):sc.names.lookup x=some .cell∨sc.names.lookup x=some .free:=by
 have:=kq3.mp h _ m
 simpa using this
theorem hx6 {scope:Scope} {L2:Addr} (p:Pt pG w hb sc env A n X Z ρ H s) (bk:BlockOk scope) (hc:aj0 sc scope=true) (hL:s.heap.Ns L2 fun u_=>none) (hz:L2∈Z) (hf:L2∉foots H) (ho:L2∉own env) :
  Pt pG w hb (z7 scope sc) { newEnv scope L2 env.globals (b9 env.cells scope.names []) env.qual none .none (some env) builtinsNs with scope:=relabel scope env } A n Xs.no Z (V6 ρ scope.names) H s:=by
 have hh:∀ x,(x,NameKind.free)∈scope.names→∃ c,env.cells.lookup x=some c:=fun x m=>p.eok.cel x (O6 hc m)
 have hcells:∀ q∈b9 env.cells scope.names [],env.cells.lookup q.1=some q.2:=fun q hq=>by
  (refine Qa (w3 hq) ?_ ?_;intro h;rotate_left;(intro yz;refine oA yz fun h e=>?_);rotate_left)
  ·cases h
  ·refine oE (hh _ h) fun c hc=>?_
   refine a5 e (a5 hc ?_);rfl
 have hlk:∀ x,(x,NameKind.free)∈scope.names→(b9 env.cells scope.names []).lookup x=env.cells.lookup x:=fun x m=>by
  refine oE (hh x m) fun c hc=>?_
  refine a5 hc ?_
  refine i7 (v9 bk.nd (by trivial) (fun p hp=>nomatch hp)) ?_
  have:=F8 (cells:=env.cells) (acc:=[]) m
  rw [hc] at this
  exact this
 have hkf:∀ {x:Str} {k:NameKind},scope.names.lookup x=some k→(z7 scope sc).names.lookup x=some (if (k == NameKind.free&&sc.names.lookup x == some .cell) then .cell else k):=fun h=>K8 (scope:=scope) h
 have hnone:∀ {x:Str},scope.names.lookup x=none→(z7 scope sc).names.lookup x=none:=fun {x} h=>by
  refine (?_:(scope.names.map _).lookup x=none)
  revert h
  generalize scope.names=l
  intro h
  induction l with
  | nil=>rfl
  | cons q r ih =>
   obtain ⟨y,k⟩:=q
   rw [kq2] at h
   cases e:x == y with
   | true=>rw [e] at h;exact ns h
   | false =>
    rw [e] at h
    refine a5 kx1 ?_
    dsimp only
    split <;> (refine a5 kq2 (a5 e ?_);exact ih h)
 have hself:∀ x,(x,NameKind.free)∈scope.names→scope.names.lookup x=some .free:=fun x m=>i7 bk.nd m
 have nd:=kq6.mp p.sat.ondup
 refine ⟨⟨aw0 p.eok,bk.kind,p.eok.glob,p.eok.bi,fun x hx=>?_,fun q=>by rw [hnone bk.sg] at q;exact nn q⟩,p.room,fun h=>(show False from h).elim,?_⟩
 ·refine (?_:∃ c,(b9 env.cells scope.names []).lookup x=some c)
  generalize e:scope.names.lookup x=y_;induction y_ using Qd with
  | none=>rw [hnone e] at hx;refine Qa hx (fun h=>?_) fun h=>?_ <;> exact nn h
  | some k =>
   have km:=Qe e
   have:k=.free:=by
    rw [hkf e] at hx
    have hnc:=bk.cell _ km
    cases k <;> simp_all
   subst this
   refine oE (hh x km) fun c hc=>?_
   exact ⟨c,(hlk x km).trans hc⟩
 ·refine { toSat:=p.sat.toSat,ownZ:=fun a m=>?_,ownH:=fun a m=>?_,ondup:=?_,cells:=fun x c hx=>?_,ns:=?_ }
  ·rcases jv6.mp m with rfl | m
   ·exact hz
   ·(refine c9 (jv9.mp m) ?_;rintro q hq rfl)
    exact p.sat.ownZ _ (jv3 _ (jw3 (Qe (hcells q hq))))
  ·rcases jv6.mp m with rfl | m
   ·exact hf
   ·(refine c9 (jv9.mp m) ?_;rintro q hq rfl)
    exact p.sat.ownH _ (jv3 _ (jw3 (Qe (hcells q hq))))
  ·refine kq6.mpr ⟨fun m=>?_,bx3 nd.2 bk.nd hh⟩
   refine c9 (jv9.mp m) fun q hq e=>?_
   refine ho ?_
   have:L2=q.2:=e.symm
   refine a5 this ?_
   exact jv3 _ (jw3 (Qe (hcells q hq)))
  ·exact p.sat.cells x c (hcells (x,c) (Qe hx))
  ·refine ⟨_,hL,fun x d hd=>?_⟩
   refine oA (I6 hd) fun h1 h2=>?_
   refine c9 p.sat.ns fun m u_ hm=>?_
   refine c9 (hm x d h1) fun v r q=>?_
   refine ⟨v,r,.inr ?_⟩
   rcases q with ⟨q1,_⟩ | ⟨q1,c,hc',hi⟩
   ·have:=O6 hc h2
    rw [p.eok.kindOf] at q1
    rw [q1] at this
    refine Qa this (fun t=>?_) fun t=>?_ <;> cases t
   ·refine ⟨?_,c,(hlk x h2).trans hc',hi⟩
    have e:(Env.kindOf { newEnv scope L2 env.globals (b9 env.cells scope.names []) env.qual none .none (some env) builtinsNs with scope:=relabel scope env } x)=(z7 scope sc).names.lookup x:=by
     exact p8 (aw0 p.eok) rfl
    refine a5 e (a5 (hkf (hself x h2)) ?_)
    split
    ·exact .inl rfl
    ·exact .inr rfl
theorem O5 {ρ:c8}:∀ {names:List (Str × NameKind)} {x:Str} {d:V},(x,NameKind.free)∈names→ρ.lookup x=some d→(V6 ρ names).lookup x=some d
 | (y,k)::r,x,d,h,e=>by
  dsimp only [V6]
  cases q:x == y with
  | true =>
   have exy:x=y:=by exact of_decide_eq_true q
   subst exy
   refine Qa (jv6.mp h) (fun h=>?_) fun h=>?_
   ·cases h
    simp [e,List.lookup]
   ·split
    ·refine a5 e ?_;simp [List.lookup]
    ·exact O5 h e
  | false =>
   have h':(x,NameKind.free)∈r:=by
    refine Qa (jv6.mp h) (fun h=>?_) fun h=>?_
    ·(injection h with i;subst i);simp at q
    ·exact h
   split
   ·split
    ·refine a5 kq2 (a5 q ?_);exact O5 h' e
    ·exact O5 h' e
   ·exact O5 h' e
theorem Pt.unblock {scope:Scope} {L2:Addr} {Hk:HL} {Z1:List Addr} {s1:Shared} (p:Pt pG w hb sc env A n X Z1 ρ H s1) (hc:aj0 sc scope=true) (bk:BlockOk scope)
  (pb:Pt pG w hb (z7 scope sc) { newEnv scope L2 env.globals (b9 env.cells scope.names []) env.qual none .none (some env) builtinsNs with scope:=relabel scope env } A n Xs.no Z' (V6 ρ scope.names) Hk s')
  (y:Sat pG w hb Z' H s') (st:Step ((b9 env.cells scope.names []).map (·.2)) Z1 H s1 Z' H s'):Pt pG w hb sc env A n X Z' ρ H s':=by
 have hh:∀ x,(x,NameKind.free)∈scope.names→∃ c,env.cells.lookup x=some c:=fun x m=>p.eok.cel x (O6 hc m)
 have hcells:∀ q∈b9 env.cells scope.names [],(q.1,NameKind.free)∈scope.names∧env.cells.lookup q.1=some q.2:=fun q hq=>by
  (refine Qa (w3 hq) ?_ ?_;intro h;rotate_left;(intro yz;refine oA yz fun h e=>?_);rotate_left)
  ·cases h
  ·refine oE (hh _ h) fun c hc=>?_
   refine a5 e (a5 hc ?_);exact ⟨h,rfl⟩
 have sub:∀ a∈(b9 env.cells scope.names []).map (·.2),a∈env.cells.map (·.2):=fun a m=>by
  (refine c9 (jv9.mp m) ?_;rintro q hq rfl)
  exact jw3 (Qe (hcells q hq).2)
 have nd:=kq6.mp p.sat.ondup
 have hp:env.cells.Pairwise fun a b=>a.2≠b.2:=by have:=nd.2;rw [List.Nodup,kv8] at this;exact this
 have stE:Step (own env) Z1 H s1 Z' H s':=st.own_more fun a m=>jv3 _ (sub a m)
 have mono:=p.sat.mono stE
 have hlk:∀ x,(x,NameKind.free)∈scope.names→(b9 env.cells scope.names []).lookup x=env.cells.lookup x:=fun x m=>by
  refine oE (hh x m) fun c hc=>?_
  refine a5 hc ?_
  refine i7 (v9 bk.nd (by trivial) (fun p hp=>nomatch hp)) ?_
  have:=F8 (cells:=env.cells) (acc:=[]) m
  rw [hc] at this
  exact this
 refine p.step stE { toSat:=y,ownZ:=fun a m=>?_,ownH:=p.sat.ownH,ondup:=p.sat.ondup,cells:=fun x c hx=>?_,ns:=?_ }
 ·refine Qa (st.unhid a (p.sat.ownZ a m)) (fun q=>?_) fun q=>?_
  ·exact q
  ·exact absurd q (p.sat.ownH a m)
 ·by_cases hcap:c∈(b9 env.cells scope.names []).map (·.2)
  ·(refine c9 (jv9.mp hcap) ?_;rintro q hq rfl)
   exact pb.sat.cells q.1 q.2 ((hlk q.1 (hcells q hq).1).trans (hcells q hq).2)
  ·refine y9 (p.sat.cells x c hx) fun v o ho hd=>?_
   exact ⟨v,o,st.keep c o ho hcap (p.sat.ownH c (jv3 _ (jw3 (Qe hx)))),hd⟩
 ·(refine c9 p.sat.ns ?_;(intro m yz;refine w5 yz fun o es ep ho r=>?_;clear yz;rintro hm))
  refine ⟨m,⟨o,es,ep,st.keep _ o ho (fun q=>nd.1 (sub _ q)) (p.sat.ownH _ (jv0 ..)),r⟩,fun x d hd=>?_⟩
  refine c9 (hm x d hd) fun v hv q=>?_
  rcases q with q | ⟨k,c,hc1,hi⟩
  ·exact ⟨v,hv.mono mono,.inl q⟩
  ·by_cases hcap:c∈(b9 env.cells scope.names []).map (·.2)
   ·(refine c9 (jv9.mp hcap) ?_;rintro q hq rfl)
    have e:q.1=x:=PySem.name_of_addr hp (Qe (hcells q hq).2) (Qe hc1)
    have fr:=(hcells q hq).1
    rw [e] at fr
    refine c9 pb.sat.ns fun m2 hn2 hm2=>?_
    refine c9 (hm2 x d (O5 fr hd)) fun v2 r2 q2=>?_
    refine ⟨v2,r2,.inr ⟨k,q.2,hc1,?_⟩⟩
    rcases q2 with ⟨k2,_⟩ | ⟨_,c2,hc2,hi2⟩
    ·exfalso
     rw [pb.eok.kindOf] at k2
     have:=K8 (scope:=scope) (sc:=sc) (i7 bk.nd fr)
     have k2':(z7 scope sc).names.lookup x=some (if (NameKind.free == NameKind.free&&sc.names.lookup x == some .cell) then .cell else .free):=this
     rw [k2'] at k2
     split at k2 <;> cases k2
    ·have hc2':(b9 env.cells scope.names []).lookup x=some c2:=hc2
     rw [hlk x fr,hc1] at hc2'
     (injection hc2' with i;subst i)
     exact hi2
   ·(refine c9 hi ?_;clear hi;intro o ho hd)
    exact ⟨v,hv.mono mono,.inr ⟨k,c,hc1,o,st.keep c o ho hcap (p.sat.ownH c (jv3 _ (jw3 (Qe hc1)))),hd⟩⟩
theorem gw1 {elt t iter:Expr} {ifs:List Expr} {rest:List Comprehension} {scope:Scope} {pos:Pos} {em:EmT} {M:Nat} (cl:Clauses pG w hb (z7 scope sc) n (.ListComp elt (⟨t,iter,ifs,0⟩::rest) scope pos) t ifs em M) (bk:BlockOk scope) (hc:aj0 sc scope=true) {QL:List PyData→Prop} {Z1:List Addr} {H1 Hk:HL} {s1:Shared}
  (p1:Pt pG w hb sc env A n X Z1 ρ H1 s1) (hbk:Bk H1 Hk) {ds:List V} (hlen:ds.length * M≤1000000)
  (htc:C9 pG w hb (z7 scope sc) n em t ifs (V6 ρ scope.names) ds [] Hk fun ys Hk'=>Hk'=Hk∧QL ys)
  {I D L2:Addr} {h2 h4:Heap} {t2:Nat} {kp:List Addr} {St:Nat→Heap→Prop} (k2:Sub s1.heap h2) (k4:Sub h2 h4) (nI:s1.heap.get? I=none) (lI:∃ o,h2.get? I=some o) (nD:h2.get? D=none) (nL:h2.get? L2=none) (hDL:D≠L2)
  (hPl:h4.PlainList D #[]) (hns:h4.Ns L2 fun u_=>none) (W:Wk pG w A I kp ds (f7 s1 Z1) St) (hS:St 0 h2) (hkp:∀ b∈kp,b∉foots Hk∧(b∉Z1∨b∈foots H1)∧∃ o,s1.heap.get? b=some o)
  {R:Result→Shared→Prop}
  (fin:∀ {s' Z' ys m},Step (own env) Z1 H1 s1 Z' ((D,.lst ys)::H1) s'→Pt pG w hb sc env A n X Z' ρ ((D,.lst ys)::H1) s'→QL ys→s'.heap.Ns L2 m→L2∈Z'→L2∉own env →
   L2∉foots ((D,.lst ys)::H1)→R (.ok .next) s') :
  codeAny (model pG w) A (.compStart (.ListComp elt (⟨t,iter,ifs,0⟩::rest) scope pos) 0 (.ref I) (.ref D)
   { newEnv scope L2 env.globals (b9 env.cells scope.names []) env.qual none .none (some env) builtinsNs with scope:=relabel scope env }) R { s1 with heap:=h4,toks:=t2 }:=by
 have down:∀ {b:Addr},h2.get? b=none→s1.heap.get? b=none:=fun {b} e=>by
  generalize q:s1.heap.get? b=y_;induction y_ using Qd with
  | none=>rfl
  | some o=>exact a7 (k2 b o q) e
 have nD1:=down nD
 have nL1:=down nL
 have hID:I≠D:=fun e=>by (replace e:=e.symm;subst e);(refine oE lI ?_;clear lI;intro o q);exact a7 q nD
 have hIL:I≠L2:=fun e=>by (replace e:=e.symm;subst e);(refine oE lI ?_;clear lI;intro o q);exact a7 q nL
 refine w5 (id hns) fun oL esL epL eL rL=>?_
 refine oE (id hPl) fun nP eP=>?_
 (refine oE lI ?_;clear lI;intro oI eI)
 refine J7 (p1.sat.growHide (h':=h4) (t:=t2) (ys:=[L2,D,I]) (k2.trans k4) (fun a ha=>by
   rcases jv6.mp ha with rfl | ha
   ·exact nL1
   ·rcases jv6.mp ha with rfl | ha
    ·exact nD1
    ·refine a5 (jv4.mp ha) ?_;exact nI) (fun a ha=>by
   rcases jv6.mp ha with rfl | ha
   ·exact ⟨_,eL⟩
   ·rcases jv6.mp ha with rfl | ha
    ·exact ⟨_,eP⟩
    ·refine a5 (jv4.mp ha) ?_;exact ⟨_,k4 _ _ eI⟩)) fun y st u=>?_
 have p4:=p1.step st y
 have fresh:∀ {b:Addr},s1.heap.get? b=none→b∉own env∧b∉foots H1:=fun {b} e=>⟨fun q=>by refine oE (p1.sat.live b q) fun o h=>?_;exact a7 h e,fun q=>by refine oE (p1.sat.zlt b (p1.sat.sub b q)) fun o h=>?_;exact a7 h e⟩
 have y4:Sat pG w hb ([L2,D,I]++Z1) Hk { s1 with heap:=h4,toks:=t2 }:=hbk.sat p4.sat.toSat
 have p4k:Pt pG w hb sc env A n Xs.no ([L2,D,I]++Z1) ρ Hk { s1 with heap:=h4,toks:=t2 } :=
  ⟨p4.eok,p4.room,fun h=>(show False from h).elim,p4.sat.reown y4 fun a m q=>p4.sat.ownH a m (hbk.fsub a q)⟩
 have fk:∀ {b:Addr},s1.heap.get? b=none→b∉foots Hk:=fun e q=>(fresh e).2 (hbk.fsub _ q)
 have pb:=hx6 p4k bk hc hns (by exact jv0) (fk nL1) (fresh nL1).1
 have caps:∀ a∈(b9 env.cells scope.names []).map (·.2),a∈own env:=fun a m=>by
  (refine c9 (jv9.mp m) ?_;rintro q hq rfl)
  (refine Qa (w3 hq) ?_ ?_;intro h;rotate_left;(intro yz;refine oA yz fun h e=>?_);rotate_left)
  ·cases h
  ·refine oE (p1.eok.cel _ (O6 hc h)) fun c hc'=>?_
   refine a5 e (a5 hc' ?_)
   exact jv3 _ (jw3 (Qe hc'))
 have st0:Step ((b9 env.cells scope.names []).map (·.2)) Z1 Hk s1 ([L2,D,I]++Z1) Hk { s1 with heap:=h4,toks:=t2 } :=
  ⟨fun b o e u_ u_=>k4 b o (k2 b o e),st.hidden,fun a m=>.inl (jv7 _ m),fun a m=>.inl m,rfl⟩
 have obk:∀ {b:Addr},s1.heap.get? b=none→b≠L2→b∉own { newEnv scope L2 env.globals (b9 env.cells scope.names []) env.qual none .none (some env) builtinsNs with scope:=relabel scope env }:=fun {b} e ne q=>by
  refine Qa (jv6.mp q) (fun h=>?_) fun h=>?_
  ·exact ne h
  ·exact (fresh e).1 (caps b h)
 have loop:codeAny (model pG w) A (.compLoop (.ListComp elt (⟨t,iter,ifs,0⟩::rest) scope pos) 0 (.ref I) (.ref D)
   { newEnv scope L2 env.globals (b9 env.cells scope.names []) env.qual none .none (some env) builtinsNs with scope:=relabel scope env }) R { s1 with heap:=h4,toks:=t2 }:=by
  refine c9 (cl.ok A { newEnv scope L2 env.globals (b9 env.cells scope.names []) env.qual none .none (some env) builtinsNs with scope:=relabel scope env } D R (obk nD1 hDL)) fun emit hem turn=>?_
  refine cw4 (D:=D) (env:={ newEnv scope L2 env.globals (b9 env.cells scope.names []) env.qual none .none (some env) builtinsNs with scope:=relabel scope env }) W (fun s h=>turn _ s h) hem (Z0:=Z1) (H0:=Hk) (s0:=s1) p1.sat.zlt (fun a m=>p1.sat.sub a (hbk.fsub a m)) (ow0:=(b9 env.cells scope.names []).map (·.2)) nI (.inl nD1)
   (fun a m=>(jv6.mp m).elim (fun e=>.inl (by refine a5 (show a=L2 from e) ?_;exact nL1)) .inr) (fun a m=>p1.sat.ownZ a (caps a m)) (obk nI hIL) (obk nD1 hDL) hID (fun b hb=>?_) (fun {s' Z' ρ' ys H' vs} st' p' kr hl' hr' hD' hDz hb' q'=>?_) hlen _ 0 (acc:=[]) rfl (kx0 _) (kj3 (mx1 _)) htc pb (fun u_ u_ h=>h) st0 ?_ (by simp) (by simp) hPl .nil (fun b hb=>?_) u
  ·refine oA (hkp b hb) fun h1 y=>V7 y fun h2' o h3=>?_
   refine ⟨fun q=>?_,fun e=>by (replace e:=e.symm;subst e);exact a7 h3 nD1⟩
   refine Qa (jv6.mp q) (fun h=>?_) fun h=>?_
   ·have:b=L2:=h
    (replace this:=this.symm;subst this)
    exact a7 h3 nL1
   ·have m:=caps b h
    refine Qa h2' (fun h2'=>?_) fun h2'=>?_
    ·exact h2' (p1.sat.ownZ b m)
    ·exact p1.sat.ownH b m h2'
  ·(refine oA q' ?_;clear q';rintro rfl hQ)
   refine oA (hbk.back p1.sat.toSat (fun a m=>⟨p1.sat.ownZ a (caps a m),p1.sat.ownH a (caps a m)⟩) st' p'.sat.toSat) fun y5 st5=>?_
   have p5:=p1.unblock hc bk (p'.fewer kr) y5 st5
   have nf:∀ {b:Addr},s1.heap.get? b=none→b∉foots H1:=fun e=>(fresh e).2
   have y6:=y5.ownNew hDz (nf nD1) hl' hr'
   have p6:Pt pG w hb sc env A n X Z' ρ ((D,.lst ys)::H1) s':=by
    have st6:Step (own env) Z1 H1 s1 Z' ((D,.lst ys)::H1) s':=⟨(st5.own_more caps).keep,st5.hidden,st5.unhid,fun a m=>by
     refine Qa (jw1.mp (show a∈[D]++foots H1 from m)) (fun m=>?_) fun m=>?_
     ·refine a5 (jv4.mp m) ?_;exact .inr nD1
     ·exact .inl m,st5.os⟩
    exact p1.step st6 (p5.sat.reown y6 fun a m q=>by
     refine Qa (jw1.mp (show a∈[D]++foots H1 from q)) (fun q=>?_) fun q=>?_
     ·rw [jv4.mp q] at m;exact (fresh nD1).1 m
     ·exact p1.sat.ownH a m q)
   have st6:Step (own env) Z1 H1 s1 Z' ((D,.lst ys)::H1) s':=⟨(st5.own_more caps).keep,st5.hidden,st5.unhid,fun a m=>by
     refine Qa (jw1.mp (show a∈[D]++foots H1 from m)) (fun m=>?_) fun m=>?_
     ·refine a5 (jv4.mp m) ?_;exact .inr nD1
     ·exact .inl m,st5.os⟩
   refine c9 p'.sat.ns fun m2 hn2 u_=>?_
   refine fin st6 p6 hQ hn2 (p'.sat.ownZ _ (jv0 ..)) (fresh nL1).1 fun q=>?_
   refine Qa (jw1.mp (show L2∈[D]++foots H1 from q)) (fun q=>?_) fun q=>?_
   ·exact hDL (jv4.mp q).symm
   ·exact nf nL1 q
  ·refine c9 W.ex fun P W1 u_=>?_
   exact W1.frame _ _ _ hS fun b u_ o e=>k4 b o e
  ·rcases jv6.mp hb with rfl | hb
   ·exact ⟨fk nI,_,k4 _ _ eI⟩
   ·rcases jv6.mp hb with rfl | hb
    ·exact ⟨fk nD1,_,eP⟩
    ·refine oA (hkp b hb) fun h1 y=>V7 y fun u_ o h3=>?_
     exact ⟨h1,o,k4 _ _ (k2 _ _ h3)⟩
 exact codeAny_compStart_list loop (W.ex.elim fun P h=>h.1.self 0 _ _ _ (h.1.frame _ _ _ hS fun b u_ o e=>k4 b o e) loop)
theorem bk8 {elt t iter:Expr} {ifs:List Expr} {rest:List Comprehension} {scope:Scope} {pos ipos:Pos} {em:EmT} {M:Nat} (cl:Clauses pG w hb (z7 scope sc) n (.ListComp elt (⟨t,iter,ifs,0⟩::rest) scope pos) t ifs em M) (bk:BlockOk scope) (hc:aj0 sc scope=true) {use:Option (Value→Sem Unit)} {Q:Value→Shared→Prop} {QL:List PyData→HL→Prop}
  {E:Value→Shared→Prop} (hs:∀ env x,foldedSetIterable iter env x=pure x)
  (p:Pt pG w hb sc env A n X Z ρ H s) (ex:Exn hb A env X H s E)
  (h:TE pG w hb sc n X ρ iter H fun x H1=>∃ Hk ds,Bk H1 Hk∧R4 pG w hb n x H1 Hk ds∧ds.length * M≤1000000∧C9 pG w hb (z7 scope sc) n em t ifs (V6 ρ scope.names) ds [] Hk fun ys Hk'=>Hk'=Hk∧QL ys H1)
  (fin:∀ {s' Z' D C ys H1 m},Step (own env) Z H s Z' ((D,.lst ys)::H1) s'→Pt pG w hb sc env A n X Z' ρ ((D,.lst ys)::H1) s'→Exn hb A env X ((D,.lst ys)::H1) s' E→QL ys H1→s'.heap.Ns C m→C∈Z'→C∉own env →
   C∉foots ((D,.lst ys)::H1)→(C∈foots H∨s.heap.get? C=none)→compPost (model pG w) A E use Q (.ref D) C (.ok .next) s') :
  wpAny (model pG w) A (comprehension (.ListComp elt (⟨t,iter,ifs,0⟩::rest) scope pos) scope env ipos (newList []) false (eval iter env) use) Q E s:=by
 have hh:∀ x,(x,NameKind.free)∈scope.names→∃ c,env.cells.lookup x=some c:=fun x m=>p.eok.cel x (O6 hc m)
 refine wpAny_comprehension_free rfl (hs env) (bx2 hh) bk.kind (fun x hx hl=>by
  have:=i7 bk.nd (show (x.1,x.2)∈scope.names from hx)
  exact a5 this (a5 hl rfl)) ?_
 refine h.run p ex fun {xv s1 Z1 x ρ1 H1} s1' p1 ex1 u1 r1 q1=>?_
 (refine oA q1 ?_;clear q1;rintro rfl y;refine oE y ?_;clear y;intro Hk y;refine o4 y ?_;clear y;intro ds hbk hi hlen htc)
 refine hi A _ _ _ _ E p1.room p1.sat.toSat r1 fun I h2 t2 kp St ks nI lI W hS hkp=>?_
 refine lj0 ?_ (by exact kx0 _)
 refine nx7 bk.cell (by intro x hx;cases hx) (fun h4 hns hsb=>?_) bk.kind
 have hns':h4.Ns (h2.push { cls:=.type "list",data:=.seq [].toArray }).objs.size fun u_=>none:=hns
 have hsb':Heap.SameBut (h2.push { cls:=.type "list",data:=.seq [].toArray }).objs.size ((h2.push { cls:=.type "list",data:=.seq [].toArray }).push { cls:=.type (if (some env).isSome then "dict" else "frame"),data:=.dict #[] }) h4:=hsb
 have e1:∀ b o,(h2.push { cls:=.type "list",data:=.seq [].toArray }).get? b=some o→h4.get? b=some o:=fun b o e =>
  (hsb'.2 b (kz1 (Qi e))).trans (Qb _ e)
 refine gw1 cl (QL:=fun ys=>QL ys H1) bk hc p1 hbk hlen htc (h2:=h2) (I:=I) (D:=h2.objs.size) (L2:=(h2.push { cls:=.type "list",data:=.seq [].toArray }).objs.size) (t2:=t2) (h4:=h4) ks
  (fun b o e=>e1 b o (Qb _ e)) nI lI (Qf (jw4 _)) (Qf (lq8 (by refine a5 (Heap.size_push ..) ?_;exact kv5 _))) (kz1 (by refine a5 (Heap.size_push ..) ?_;exact kv5 _))
  ⟨_,e1 _ _ (Qc _ rfl)⟩ hns' W hS hkp fun {s' Z' ys m} st p' q hn hz ho hf=>fin (p.tr p1 s1' st) p' (ex1.step p1.sat.toSat st p'.sat.toSat) q hn hz ho hf ?_
 refine (?_:(h2.push { cls:=.type "list",data:=.seq [].toArray }).objs.size∈foots H∨s.heap.get? (h2.push { cls:=.type "list",data:=.seq [].toArray }).objs.size=none)
 have ho:(h2.push { cls:=.type "list",data:=.seq [].toArray }).objs.size∉own env:=ho
 generalize e:s.heap.get? (h2.push { cls:=.type "list",data:=.seq [].toArray }).objs.size=y_;induction y_ using Qd with
 | none=>exact .inr rfl
 | some o =>
  by_cases m:(h2.push { cls:=.type "list",data:=.seq [].toArray }).objs.size∈foots H
  ·exact .inl m
  ·have:=ks _ _ (s1'.keep _ _ e ho m)
   exact a7 this (Qf (lq8 (by refine a5 (Heap.size_push ..) ?_;exact kv5 _)))
theorem Step.lose {C:Addr} {h':Heap} {t:Nat} {ow:List Addr} (st:Step ow Z H s Z' H' s') (ho:C∉ow) (nC:C∈foots H∨s.heap.get? C=none) (zl:∀ a∈Z,∃ o,s.heap.get? a=some o)
  (k:∀ b o,b≠C→s'.heap.get? b=some o→h'.get? b=some o):Step ow Z H s (less Z' C) H' { s' with heap:=h',toks:=t } :=
 ⟨fun b o e n1 n2=>k b o (fun q=>by
  subst q
  refine Qa nC (fun q=>?_) fun q=>?_
  ·exact n2 q
  ·exact a7 e q) (st.keep b o e n1 n2),fun a m=>st.hidden a (n8.mp m).1,fun a m=>by
   by_cases q:a=C
   ·subst q
    refine Qa nC (fun q=>?_) fun q=>?_
    ·exact .inr q
    ·refine oE (zl a m) fun o e=>?_
     exact a7 e q
   ·exact (st.unhid a m).imp (fun h=>n8.mpr ⟨h,q⟩) id,st.feet,st.os⟩
theorem az1 {elt t iter:Expr} {ifs:List Expr} {rest:List Comprehension} {scope:Scope} {pos:Pos} {em:EmT} {M:Nat} (cl:Clauses pG w hb (z7 scope sc) n (.ListComp elt (⟨t,iter,ifs,0⟩::rest) scope pos) t ifs em M) {Q:VP} (QL:List PyData→HL→Prop) (hq:∀ ys H1 D,QL ys H1→Q (.ref D) ((D,.lst ys)::H1)) (bk:BlockOk scope) (hc:aj0 sc scope=true)
  (h:TE pG w hb sc n X ρ iter H fun x H1=>∃ Hk ds,Bk H1 Hk∧R4 pG w hb n x H1 Hk ds∧ds.length * M≤1000000∧C9 pG w hb (z7 scope sc) n em t ifs (V6 ρ scope.names) ds [] Hk fun ys Hk'=>Hk'=Hk∧QL ys H1)
  (hs:∀ env x,foldedSetIterable iter env x=pure x:=by intro _ _;rfl) :
  TE pG w hb sc n X ρ (.ListComp elt (⟨t,iter,ifs,0⟩::rest) scope pos) H Q:=by
 refine .intro fun env A Z s R E p ex k=>?_
 refine a5 (eval_ListComp ..) ?_
 refine bk8 cl (use:=none) (QL:=QL) bk hc hs p ex h fun {s' Z' D C ys H1 m} st p' ex' q hn hz ho hf nC=>?_
 refine ⟨m,hn,fun h' hs'=>?_⟩
 have hk:∀ b o,b≠C→s'.heap.get? b=some o→h'.get? b=some o:=fun b o n e=>(hs'.2 b n).trans e
 refine oA (p'.sat.chgLess (t:=s'.toks) ho hf hz hk) fun y u=>?_
 have st':=st.lose (t:=s'.toks) ho nC p.sat.zlt hk
 exact k st' (p.step st' y) .ref ⟨rfl,hq _ _ D q⟩
mutual
inductive Fz (Hs:HL):V→V→Prop
 | same {d}:Fz Hs d d
 | lst {a xs}:(a,O.lst xs)∈Hs→Fz Hs (.ref a) (.dat (.list xs))
 | dct {a kvs}:(a,O.dct kvs)∈Hs→Fz Hs (.ref a) (.dct kvs)
 | inst {a C dx fs fs'}:(a,O.inst C dx fs)∈Hs→FzF Hs fs fs'→Fz Hs (.ref a) (.inst C fs')
 | tup {vs vs'}:FzL Hs vs vs'→Fz Hs (.tup vs) (.tup vs')
inductive FzF (Hs:HL):List (Str × V)→List (Str × V)→Prop
 | nil:FzF Hs [] []
 | cons {x d d' fs fs'}:Fz Hs d d'→FzF Hs fs fs'→FzF Hs ((x,d)::fs) ((x,d')::fs')
inductive FzL (Hs:HL):List V→List V→Prop
 | nil:FzL Hs [] []
 | cons {d d' vs vs'}:Fz Hs d d'→FzL Hs vs vs'→FzL Hs (d::vs) (d'::vs')
end
theorem az3 {g h:Heap} {a:Addr} {vs:Array Value} {k:Nat} {xs:List PyData} (e:h.get? a=some ⟨.type "list",none,.seq vs k,#[]⟩) (r:RdL h vs.toList xs):Rd h (.ref a) (.list xs):=by
 refine oE (aw1 r) fun as r=>?_
 exact ⟨_,.list e rfl rfl r⟩
theorem gk4 {Hs:HL} {g:Heap} (ok:∀ p∈Hs,RepO pG w g g p.1 p.2):(∀ d d',Fz Hs d d'→∀ v,RepV pG w g v d→RepV pG w g v d')∧(∀ d d',FzF Hs d d'→∀ v,RepF pG w g v d→RepF pG w g v d')∧(∀ d d',FzL Hs d d'→∀ v,RepL pG w g v d→RepL pG w g v d'):=by
 have c1:∀ {a xs},(a,O.lst xs)∈Hs→∀ v,RepV pG w g v (.ref a)→RepV pG w g v (.dat (.list xs)):=fun m v r=>by
  have e:v=_:=r.inv
  refine y9 (ok _ m) fun vs k q z=>?_
  exact e▸.dat (az3 (g:=g) q z)
 have c2:∀ {a kvs},(a,O.dct kvs)∈Hs→∀ v,RepV pG w g v (.ref a)→RepV pG w g v (.dct kvs):=fun m v r=>by
  have e:v=_:=r.inv
  refine o9 (ok _ m) fun kvs q z y=>?_
  exact e▸.dct q z y
 have c3:∀ {a C dx fs fs'},(a,O.inst C dx fs)∈Hs→FzF Hs fs fs'→(∀ v,RepF pG w g v fs→RepF pG w g v fs')→∀ v,RepV pG w g v (.ref a)→RepV pG w g v (.inst C fs'):=fun m u_ ih v r=>by
  have e:v=_:=r.inv
  refine oA (ok _ m) fun q yy=>y9 yy fun es k z y=>?_
  exact e▸.inst q z (ih _ y)
 have c4:∀ {vs vs'},FzL Hs vs vs'→(∀ v,RepL pG w g v vs→RepL pG w g v vs')→∀ v,RepV pG w g v (.tup vs)→RepV pG w g v (.tup vs'):=fun u_ ih v r=>by
  refine oE r.inv fun a y=>oE y fun o y=>oE y fun us y=>oE y fun n y=>w6 y fun e q1 q2 q3 q4=>?_
  exact e▸.tup q1 q2 q3 (ih _ q4)
 have c5:∀ {x d d' fs fs'},Fz Hs d d'→FzF Hs fs fs'→(∀ v,RepV pG w g v d→RepV pG w g v d')→(∀ v,RepF pG w g v fs→RepF pG w g v fs')→∀ v,RepF pG w g v ((x,d)::fs)→RepF pG w g v ((x,d')::fs'):=fun u_ u_ i1 i2 v r=>by
  exact ck6 r.inv fun e es t y=>G9 y fun q a r s=>q▸.cons a (i1 _ r) (i2 _ s)
 have c6:∀ {d d' fs fs'},Fz Hs d d'→FzL Hs fs fs'→(∀ v,RepV pG w g v d→RepV pG w g v d')→(∀ v,RepL pG w g v fs→RepL pG w g v fs')→∀ v,RepL pG w g v (d::fs)→RepL pG w g v (d'::fs'):=fun u_ u_ i1 i2 v r=>by
  exact a8 r.inv fun v us e r q=>e▸.cons (i1 _ r) (i2 _ q)
 refine ⟨fun d d' f=>?_,fun d d' f=>?_,fun d d' f=>?_⟩ <;>
 exact f.rec (motive_1:=fun d d' u_=>∀ v,RepV pG w g v d→RepV pG w g v d') (motive_2:=fun d d' u_=>∀ v,RepF pG w g v d→RepF pG w g v d') (motive_3:=fun d d' u_=>∀ v,RepL pG w g v d→RepL pG w g v d')
  (fun u_ r=>r) c1 c2 c3 c4 (fun u_ r=>r) c5 (fun u_ r=>r) c6
theorem Fz.rep {Hs:HL} {g:Heap} (ok:∀ p∈Hs,RepO pG w g g p.1 p.2) {v:Value} {d d':V} (r:RepV pG w g v d) (f:Fz Hs d d'):RepV pG w g v d':=(gk4 ok).1 _ _ f _ r
theorem FzF.rep {Hs:HL} {g:Heap} (ok:∀ p∈Hs,RepO pG w g g p.1 p.2) {v:List DictEntry} {d d':List (Str × V)} (r:RepF pG w g v d) (f:FzF Hs d d'):RepF pG w g v d':=(gk4 ok).2.1 _ _ f _ r
noncomputable def I4 (Z:List Addr) (ys:List Addr):List Addr:=Z.filter fun a=>!ys.contains a
theorem y8 {Z ys:List Addr} {a:Addr}:a∈I4 Z ys ↔ a∈Z∧a∉ys:=by unfold I4;simp
theorem RepO.both {g h g':Heap} {a:Addr} {o:O} (x:RepO pG w g h a o) (k:Sub g g') (e:∀ b∈o.foot a,∀ ob,h.get? b=some ob→g'.get? b=some ob):RepO pG w g' g' a o:=x.mono k e
theorem Sat.freeze {Hs H0:HL} (x:Sat pG w hb Z (Hs++H0) s):Sat pG w hb (I4 Z (foots Hs)) H0 s∧Sub (f7 s Z) (f7 s (I4 Z (foots Hs)))∧∀ p∈Hs,RepO pG w (f7 s (I4 Z (foots Hs))) (f7 s (I4 Z (foots Hs))) p.1 p.2:=by
 have hm:Sub (f7 s Z) (f7 s (I4 Z (foots Hs))):=fun b o e=>by
  refine oA (c7 e) fun e1 nz=>?_
  exact k9 e1 fun q=>nz (y8.mp q).1
 have nd:=x.nd
 rw [d8,kq9] at nd
 refine ⟨⟨x.bs,x.base.trans hm,fun a m=>x.zlt a (y8.mp m).1,fun a m=>y8.mpr ⟨x.sub a (by refine a5 (d8 ..) ?_;exact jv7 _ m),fun q=>nd.2.2 _ q _ m rfl⟩,nd.2.1,fun p hp=>?_,x.gens⟩,hm,fun p hp=>?_⟩
 ·obtain ⟨b,o⟩:=p
  exact (x.own _ (jv7 _ hp)).mono hm fun c hc y e=>e
 ·obtain ⟨b,o⟩:=p
  exact (x.own _ (jv8 _ hp)).mono hm fun c hc y e=>k9 e fun q=>(y8.mp q).2 (r9 hp hc)
theorem Step.freeze {Hs H0:HL} {ow:List Addr} (st:Step ow Z H s Z' (Hs++H0) s') (zl:∀ a∈Z,∃ o,s.heap.get? a=some o):Step ow Z H s (I4 Z' (foots Hs)) H0 s' :=
 ⟨st.keep,fun a m=>st.hidden a (y8.mp m).1,fun a m=>by
  refine Qa (st.unhid a m) (fun q=>?_) fun q=>?_
  ·by_cases h:a∈foots Hs
   ·refine Qa (st.feet a (by refine a5 (d8 ..) ?_;exact jv8 _ h)) (fun r=>?_) fun r=>?_
    ·exact .inr r
    ·refine oE (zl a m) fun o e=>?_
     exact a7 e r
   ·exact .inl (y8.mpr ⟨q,h⟩)
  ·exact .inr q,fun a m=>st.feet a (by refine a5 (d8 ..) ?_;exact jv7 _ m),st.os⟩
noncomputable def frzQ (Q:VP) (d:V) (H':HL):Prop:=∃ Hs H0 d',H'=Hs++H0∧Fz Hs d d'∧Q d' H0
theorem h8 {f:List Value→Sem Value} {ds:List V} {Q:VP} (o:Op pG w hb n X (RepV pG w) f ds H (frzQ Q)):Op pG w hb n X (RepV pG w) f ds H Q:=by
 intro A Z s vs R E rm fm y rl k
 refine o A Z s vs R E rm fm y rl ⟨fun {a s' Z' b H'} st y' r q=>?_,k.ex⟩
 (refine oE q ?_;clear q;intro Hs y;refine a8 y ?_;clear y;rintro H0 d' rfl hf q)
 refine J7 y'.freeze fun y2 u ok=>?_
 exact k.ok (st.freeze y.zlt) y2 (Fz.rep ok (r.mono u) hf) q
theorem SatE.freeze {Hs H0:HL} {ρ1:c8} (x:SatE pG w hb env Z ρ (Hs++H0) s) (h:∀ y d',ρ1.lookup y=some d'→∃ d,ρ.lookup y=some d∧Fz Hs d d'):SatE pG w hb env (I4 Z (foots Hs)) ρ1 H0 s:=by
 refine J7 x.toSat.freeze fun y u ok=>?_
 refine { toSat:=y,ownZ:=fun a m=>y8.mpr ⟨x.ownZ a m,fun q=>x.ownH a m (by refine a5 (d8 ..) ?_;exact jv8 _ q)⟩,ownH:=fun a m q=>x.ownH a m (by refine a5 (d8 ..) ?_;exact jv7 _ q),ondup:=x.ondup,cells:=x.cells,ns:=?_ }
 refine c9 x.ns fun m hn hm=>?_
 refine ⟨m,hn,fun y d' hd=>?_⟩
 refine c9 (h y d' hd) fun d hd0 hf=>?_
 refine c9 (hm y d hd0) fun v r q=>?_
 exact ⟨v,Fz.rep ok (r.mono u) hf,q⟩
theorem SatE.perm (x:SatE pG w hb env Z ρ H s) (h:H.Perm H'):SatE pG w hb env Z ρ H' s∧Step (own env) Z H s Z H' s:=by
 have fp:∀ {H H':HL},H.Perm H'→(foots H).Perm (foots H'):=fun {H H'} h=>by
  induction h with
  | nil=>exact .refl _
  | cons a _ ih=>exact ih.append_left _
  | swap a b l =>
   obtain ⟨a,oa⟩:=a
   obtain ⟨b,ob⟩:=b
   refine (?_:(ob.foot b++(oa.foot a++foots l)).Perm (oa.foot a++(ob.foot b++foots l)))
   refine p8 (kk4 ..) (p8 (kk4 ..) ?_)
   exact mk7.append_right _
  | trans _ _ i j=>exact i.trans j
 have fh:=fp h
 have y:Sat pG w hb Z H' s:=⟨x.bs,x.base,x.zlt,fun a m=>x.sub a (fh.mem_iff.mpr m),fh.nodup_iff.mp x.nd,fun p hp=>x.own p (h.mem_iff.mpr hp),x.gens⟩
 exact ⟨x.reown y fun a m q=>x.ownH a m (fh.mem_iff.mpr q),⟨fun u_ u_ e u_ u_=>e,fun u_ m=>.inl m,fun u_ m=>.inl m,fun a m=>.inl (fh.mem_iff.mpr m),rfl⟩⟩
theorem ak8 {α β:Type} {rel:Heap→α→β→Prop} {t:Env→Sem α} {Q:β→c8→HL→Prop} {Hs H0:HL} {ρ1:c8} (h:∀ y d',ρ1.lookup y=some d'→∃ d,ρ.lookup y=some d∧Fz Hs d d')
  (x:Tri pG w hb sc n X rel t ρ1 H0 Q):Tri pG w hb sc n X rel t ρ (Hs++H0) Q:=by
 refine .intro fun env A Z s R E p ex k=>?_
 have y:=p.sat.freeze h
 have st:Step (own env) Z (Hs++H0) s (I4 Z (foots Hs)) H0 s:=(Step.refl ..).freeze p.sat.zlt
 have p1:=p.step st y
 exact x.run p1 (ex.step p.sat.toSat st y.toSat) fun st2 p2 ex2 u2 r2 q2=>k (p.tr p1 st st2) p2 r2 q2
theorem W0 {α β:Type} {rel:Heap→α→β→Prop} {t:Env→Sem α} {Q:β→c8→HL→Prop} (h:H.Perm H') (x:Tri pG w hb sc n X rel t ρ H' Q):Tri pG w hb sc n X rel t ρ H Q:=by
 refine .intro fun env A Z s R E p ex k=>?_
 refine oA (p.sat.perm h) fun y st=>?_
 have p1:=p.step st y
 exact x.run p1 (ex.step p.sat.toSat st y.toSat) fun st2 p2 ex2 u2 r2 q2=>k (p.tr p1 st st2) p2 r2 q2
theorem bj2 {e:Expr} {Q:VP} (x:TE pG w hb sc n X ρ e H fun d H'=>∃ Hs H0 d',H'=Hs++H0∧Fz Hs d d'∧Q d' H0):TE pG w hb sc n X ρ e H Q:=by
 refine .intro fun env A Z s R E p ex k=>?_
 refine x.run p ex fun st p1 ex1 u1 r1 q1=>?_
 (refine oA q1 ?_;clear q1;rintro rfl y;refine oE y ?_;clear y;intro Hs y;refine a8 y ?_;clear y;rintro H0 d' rfl hf q)
 refine J7 p1.sat.toSat.freeze fun y2 u ok=>?_
 have y:=p1.sat.freeze (ρ1:=_) (fun y d' h=>⟨d',h,.same⟩)
 have st':=st.freeze p.sat.zlt
 exact k st' (p.step st' y) (Fz.rep ok (r1.mono u) hf) ⟨rfl,q⟩
theorem TA.mono {t:Expr} {d:V} {Q Q':c8→HL→Prop} (x:TA pG w hb sc n X ρ t d H Q) (h:∀ ρ' H',Q ρ' H'→Q' ρ' H'):TA pG w hb sc n X ρ t d H Q' :=
 fun env A Z s v R E p r ex k=>x env A Z s v R E p r ex fun a b c d' q=>k a b c d' (h _ _ q)
theorem TIf.mono {ts:List Expr} {Q Q':Bool→HL→Prop} (x:TIf pG w hb sc n ρ ts H Q) (h:∀ b H',Q b H'→Q' b H'):TIf pG w hb sc n ρ ts H Q':=by
 match ts,x with
 | [],x=>exact h _ _ x
 | [c],x=>exact Tri.mono x fun b ρ' H' q=>⟨q.1,h _ _ q.2⟩
end
noncomputable abbrev KK (w:World):Frag:=Kf w.params
section
variable {pG:Program} {w:World} {hb:Heap} {sc:Scope} {env:Env} {A:Around} {n:Nat} {X:Xs} {Z Z':List Addr} {ρ ρ':c8} {H H':HL} {s s' s'':Shared}
theorem Sat.K (x:Sat pG w hb Z H s):(KK w).In s.heap:=x.bs.X.keeps (x.base.trans (g6 s Z))
noncomputable def bz4 (w:World):Value→Bool
 | .builtin _=>true
 | .type _=>true
 | v=>keepIn (KK w) v
theorem G6 {M:Model} {f:Value} (hk:bz4 w f=true) (h:Heap) (Y:(KK w).In h):∃ k,(k=Keeper.frame∨k=Keeper.machine∨k=Keeper.boundFrame)∧Looks M h (keeperOf f) k:=by
 unfold bz4 at hk
 split at hk
 ·exact ⟨.machine,.inr (.inl rfl),Looks.of_pure rfl⟩
 ·exact ⟨.machine,.inr (.inl rfl),Looks.of_pure rfl⟩
 ·exact keeps_K hk h Y
noncomputable def ik6:List Nat:=[21,37,44,47,66,73,76,88,100,112,124,131,138,143,150,155,169,176,183,190,197,204,207,225,232,239,246,253,260,267,274,281,284,302,309,314,321,328,331,349,356,361,368,371,389,394,399,402,420,427,434,441,446,453,460,465,472,479,486,493,500,507,512,519,526,533,540,547,554,561,568,571,580,587,592,597,604,611,616,621,628,635,640,645,650]
noncomputable def ik7 (v:Value):Bool:=v.casesOn false false false (fun u_=>false) (fun u_ u_=>false) (fun u_ u_=>false) (fun u_ u_=>false) (fun u_ u_=>false) (fun u_=>true) (fun u_=>true) fun a=>ik6.elem a
theorem gj1 {v:Value} (h:ik7 v=true):bz4 w v=true:=by
 have hL:(ik6.all fun a=>keepIn (KK w) (.ref a))=true:=by kernel_rfl
 induction v using PySem.Value.casesOn with
 | builtin u=>rfl
 | type u=>rfl
 | ref a=>exact kq3.mp hL a (List.elem_iff.mp h)
 | _=>exact nb h
noncomputable def jk8 (args:List Expr):Prop:=∀ env pos,(backTo pos (starEach args env)).any (·.1)=false
theorem o5 {M:Model} {E:Value→Shared→Prop} {f:Value} {trees:List (Bool × Sem Value)} {Q:Args→Shared→Prop} (hp:trees.any (·.1)=false)
  (h:wpAny M A (spliced trees) (fun vs s'=>Q ⟨vs,[]⟩ s') E s):wpAny M A (evalArgs f true trees []) Q E s:=by
 match trees,hp,h with
 | [],_,h =>
  refine (?_:wpAny M A (spliced [] >>= _) Q E s)
  refine jk9 (kx7 h (fun vs s' h'=>?_) fun u_ u_ x=>x)
  refine jk9 (jv5 (kx6 ?_))
  exact jk9 (jv5 (jk9 (jv5 (jv5 h'))))
 | (true,x)::rest,hp,h=>exact nt hp
 | (false,x)::rest,hp,h=>exact evalArgs_plain h
theorem Y9 {f:Value} {first:List Value} {firstD:List V} {pos:Pos} {args:List Expr} {Q:VP} {R:Value→Shared→Prop} {E:Value→Shared→Prop} (hk:bz4 w f=true)
  (p:Pt pG w hb sc env A n X Z ρ H s) (ex:Exn hb A env X H s E) (rf:RepL pG w (f7 s Z) first firstD) (hp:(backTo pos (starEach args env)).any (·.1)=false)
  (h:TEs pG w hb sc n X ρ pos args H fun ds H2=>Op pG w hb n X (RepV pG w) (fun vs=>call f vs) (firstD++ds) H2 Q)
  (k:∀ {v s' Z' d H'},Step (own env) Z H s Z' H' s'→Pt pG w hb sc env A n X Z' ρ H' s'→Exn hb A env X H' s' E→Sub (f7 s Z) (f7 s' Z')→RepV pG w (f7 s' Z') v d→Q d H'→R v s') :
  wpAny (model pG w) A (callWith pos f first (backTo pos (starEach args env)) []) R E s:=by
 refine callWith_of (P:=fun h=>(KK w).In h) (by refine a5 hp ?_;rfl) (G6 hk) (o5 hp ?_)
 refine Tri.run (t:=fun env=>spliced (backTo pos (starEach args env))) h p ex fun {vs s2 Z2 ds ρ2 H2} s2' p2 ex2 u2 r2 q2=>?_
 obtain ⟨rfl,q2⟩:=q2
 refine ⟨p2.sat.toSat.K,?_⟩
 exact Op.run (f:=fun vs=>call f vs) q2 p2 ((rf.mono u2).append r2) ex2 fun s3 p3 ex3 u3 r3 q3=>k (p.tr p2 s2' s3) p3 ex3 (u2.trans u3) r3 q3
theorem hk3 {func:Expr} {args:List Expr} {pos:Pos} {Q:VP}
  (h:TE pG w hb sc n X ρ func H fun f H1=>∃ v,f=.con v∧bz4 w v=true∧TEs pG w hb sc n X ρ pos args H1 fun ds H2=>Op pG w hb n X (RepV pG w) (fun vs=>call v vs) ds H2 Q)
  (hp:∀ env,(backTo pos (starEach args env)).any (·.1)=false:=by intro _;rfl)
  (he:∀ env,eval (.Call func args [] pos) env=(do callWith pos (← eval func env) [] (backTo pos (starEach args env)) (backToKw pos (keywordEach [] env))):=by intro _;rfl) :
  TE pG w hb sc n X ρ (.Call func args [] pos) H Q:=by
 refine .intro fun env A Z s R E p ex k=>Call_ ?_ (he env)
 refine h.run p ex fun {fv s1 Z1 f ρ1 H1} s1' p1 ex1 u1 r1 q1=>?_
 obtain ⟨rfl,v,rfl,hk,q⟩:=q1
 have e:fv=v:=by (replace r1:=r1.inv;(replace r1:=r1.symm;subst r1));rfl
 (replace e:=e.symm;subst e)
 exact Y9 (firstD:=[]) hk p1 ex1 .nil (hp env) q fun s2 p2 ex2 u2 r2 q2=>k (p.tr p1 s1' s2) p2 r2 ⟨rfl,q2⟩
noncomputable def fj0 (pG:Program) (w:World) (hb:Heap) (d:V) (H:HL) (name:Str) (f:Value):Prop :=
 ∀ A Z s v pl (Q:Value × List Value→Shared→Prop) (E:Value→Shared→Prop),Sat pG w hb Z H s→RepV pG w (f7 s Z) v d→Q (f,[v]) s→wpAny (model pG w) A (getMethod v name pl) Q E s
theorem ek1 {o:Expr} {name:Str} {apos pos:Pos} {args:List Expr} {Q:VP}
  (h:TE pG w hb sc n X ρ o H fun a H1=>∃ f,fj0 pG w hb a H1 name f∧bz4 w f=true∧TEs pG w hb sc n X ρ pos args H1 fun ds H2=>Op pG w hb n X (RepV pG w) (fun vs=>call f vs) (a::ds) H2 Q)
  (hp:∀ env,(backTo pos (starEach args env)).any (·.1)=false:=by intro _;rfl)
  (he:∀ env,∃ pl,eval (.Call (.Attribute o name apos) args [] pos) env=(do
   let ov ← eval o env
   standAt apos.atName
   let (f,first) ← holding [ov] (getMethod ov name pl)
   callWith pos f first (backTo pos (starEach args env)) (backToKw pos (keywordEach [] env))):=by intro _;exact ⟨_,rfl⟩) :
  TE pG w hb sc n X ρ (.Call (.Attribute o name apos) args [] pos) H Q:=by
 refine .intro fun env A Z s R E p ex k=>?_
 refine oE (he env) fun pl e=>?_
 refine methodCall_KW (pl:=pl) ?_ e
 refine h.run p ex fun {ov s1 Z1 a ρ1 H1} s1' p1 ex1 u1 r1 q1=>?_
 obtain ⟨rfl,f,hm,hk,q⟩:=q1
 refine hm A Z1 s1 ov pl _ _ p1.sat.toSat r1 ?_
 exact Y9 (firstD:=[a]) hk p1 ex1 (.cons r1 .nil) (hp env) q fun s2 p2 ex2 u2 r2 q2=>k (p.tr p1 s1' s2) p2 r2 ⟨rfl,q2⟩
theorem bv1 {kindOf:Str→Option NameKind} {binds:List (Str × Value)} {m cm:Str→Option Value} {x:Str} (nd:(binds.map (·.1)).Nodup) :
  (∀ v,binds.lookup x=some v→if kindOf x=some .local then bindL kindOf binds m x=some v else bindC kindOf binds cm x=some v)∧(binds.lookup x=none→bindL kindOf binds m x=m x∧bindC kindOf binds cm x=cm x):=by
 induction binds generalizing m cm with
 | nil=>exact ⟨fun v h=>nn h,fun u_=>⟨rfl,rfl⟩⟩
 | cons p r ih0 =>
  obtain ⟨y,u⟩:=p
  rw [kx1,kq6] at nd
  have ih:=fun (m cm:Str→Option Value)=>ih0 (m:=m) (cm:=cm) nd.2
  have hno:x=y→r.lookup x=none:=fun e=>by
   cases q:r.lookup x with
   | none=>rfl
   | some v=>exact absurd (jw3 (f:=(·.1)) (Qe q)) (by refine a5 e ?_;exact nd.1)
  by_cases e:x=y
  ·subst e
   refine ⟨fun v h=>?_,fun h=>by simp [List.lookup] at h⟩
   have:v=u:=by simp [List.lookup] at h;exact h.symm
   (replace this:=this.symm;subst this)
   dsimp only [bindL,bindC]
   split
   ·refine a5 (((ih _ cm).2 (hno rfl)).1) ?_;exact if_pos rfl
   ·refine a5 (((ih m _).2 (hno rfl)).2) ?_;exact if_pos rfl
  ·have e':(x == y)=false:=by exact if_neg e
   refine a5 kq2 (a5 e' ?_)
   refine ⟨fun v h=>?_,fun h=>?_⟩
   ·have:=(ih (if kindOf y=some .local then fun z=>if z=y then some u else m z else m) (if kindOf y=some .local then cm else fun z=>if z=y then some u else cm z)).1 v h
    exact this
   ·have:=(ih (if kindOf y=some .local then fun z=>if z=y then some u else m z else m) (if kindOf y=some .local then cm else fun z=>if z=y then some u else cm z)).2 h
    refine ⟨this.1.trans ?_,this.2.trans ?_⟩
    ·split <;> simp [e]
    ·split <;> simp [e]
structure FnAt (w:World) (a:Addr) (fd:FuncData) (body:List Stmt) (names:List Str):Prop where
 lk:∃ oc od sl,(KK w).lookup a=some ⟨oc,od,.func fd,sl⟩
 code:∃ c oc od vs sl t,fd.code=.ref c∧(KK w).lookup c=some ⟨oc,od,.fields vs,sl⟩∧vs[1]?=some (.str fd.qualname t)
 body:fd.body=.stmts body
 bind:∀ vals:List Value,vals.length=names.length→bindArgs fd ⟨vals,[]⟩=pure (names.zip vals)
 clo:fd.closure=[]
 co:fd.scope.isCoroutine=false
 gen:fd.scope.isGenerator=false
 kind:fd.scope.kind=.function
 glob:fd.globals=mainGlobals
 bi:fd.builtins=builtinsNs
 nms:(names.all fun x=>fd.scope.names.lookup x == some .local||fd.scope.names.lookup x == some .cell)=true
 nd:decide names.Nodup=true
 free:(fd.scope.names.all fun y=>y.2 != .free)=true
 snd:decide (fd.scope.names.map (·.1)).Nodup=true
 lam:fd.scope.names.lookup ("signatures":Str)=some .cell→fd.code=.ref 649
theorem I9:∀ {names:List (Str × NameKind)} {k:Nat} {acc:List (Str × Addr)} {x:Str},(acc.lookup x).isSome=true→((cellsFrom k names acc).lookup x).isSome=true
 | [],_,_,_,h=>h
 | (y,kd)::r,k,acc,x,h=>by
  dsimp only [cellsFrom]
  split
  ·refine I9 ?_
   refine a5 kq2 ?_
   split
   ·rfl
   ·exact h
  ·exact I9 h
theorem n7:∀ {names:List (Str × NameKind)} {k:Nat} {acc:List (Str × Addr)} {x:Str},(x,NameKind.cell)∈names→((cellsFrom k names acc).lookup x).isSome=true
 | (y,kd)::r,k,acc,x,h=>by
  dsimp only [cellsFrom]
  refine Qa (jv6.mp h) (fun h=>?_) fun h=>?_
  ·cases h
   exact I9 (by simp [List.lookup])
  ·split
   ·exact n7 h
   ·exact n7 h
theorem x6:∀ {names:List (Str × NameKind)} {k:Nat} {acc:List (Str × Addr)},(names.map (·.1)).Nodup→(acc.map (·.1)).Nodup→(∀ p∈acc,p.1∉names.map (·.1))→((cellsFrom k names acc).map (·.1)).Nodup
 | [],_,_,_,h,_=>h
 | (x,kd)::r,k,acc,hn,h,hd=>by
  rw [kx1,kq6] at hn
  dsimp only [cellsFrom]
  split
  ·refine x6 hn.2 (kq6.mpr ⟨fun q=>?_,h⟩) fun p hp q=>?_
   ·refine c9 (jv9.mp q) fun p hp e=>?_
    exact hd p hp (by refine a5 e ?_;exact jv0)
   ·rcases jv6.mp hp with rfl | hp
    ·exact hn.1 q
    ·exact hd p hp (jv3 _ q)
  ·exact x6 hn.2 h fun p hp q=>hd p hp (jv3 _ q)
theorem T7 {g:Heap} {x:Str}:∀ {names:List Str} {vs:List Value} {ds:List V} {d:V},RepL pG w g vs ds→(names.zip ds).lookup x=some d→∃ v,(names.zip vs).lookup x=some v∧RepV pG w g v d
 | [],_,_,_,_,h=>by exact nn h
 | y::names,_,_,d,.nil,h=>by exact nn h
 | y::names,_,_,d,.cons (v:=v) r rs,h=>by
  rw [List.zip_cons_cons,kq2] at h ⊢
  split at h
  ·cases h;exact ⟨v,rfl,r⟩
  ·exact T7 rs h
theorem Sat.growHide {h':Heap} {t:Nat} {ys:List Addr} (x:Sat pG w hb Z H s) (k:Sub s.heap h') (hn:∀ a∈ys,s.heap.get? a=none) (hl:∀ a∈ys,∃ o,h'.get? a=some o) :
  Sat pG w hb (ys++Z) H { s with heap:=h',toks:=t }∧(∀ ow,Step ow Z H s (ys++Z) H { s with heap:=h',toks:=t })∧Sub (f7 s Z) (f7 { s with heap:=h',toks:=t } (ys++Z)):=by
 have hm:Sub (f7 s Z) (f7 { s with heap:=h',toks:=t } (ys++Z)):=fun b o e=>by
  refine oA (c7 e) fun e1 nz=>?_
  refine k9 (k b o e1) fun q=>?_
  refine Qa (jw1.mp q) (fun q=>?_) fun q=>?_
  ·exact a7 e1 (hn b q)
  ·exact nz q
 have st:∀ ow,Step ow Z H s (ys++Z) H { s with heap:=h',toks:=t }:=fun ow =>
  ⟨fun b o e u_ u_=>k b o e,fun a m=>(jw1.mp m).elim (fun q=>.inr (hn a q)) .inl,fun a m=>.inl (jv7 _ m),fun a m=>.inl m,rfl⟩
 refine ⟨⟨x.bs,x.base.trans hm,fun a m=>?_,fun a m=>jv7 _ (x.sub a m),x.nd,fun p hp=>?_,x.gens⟩,st,hm⟩
 ·refine Qa (jw1.mp m) (fun m=>?_) fun m=>?_
  ·exact hl a m
  ·refine oE (x.zlt a m) fun o e=>?_
   exact ⟨o,k _ _ e⟩
 ·obtain ⟨b,o⟩:=p
  exact (x.own _ hp).mono hm fun c hc y e=>k c y e
noncomputable def aj2 (Q:VP):Flw→c8→HL→Prop
 | .ret d,_,H=>Q d H
 | .next,_,H=>Q (.dat .none) H
 | _,_,_=>False
noncomputable def OpC (pG:Program) (w:World) (hb:Heap) (n:Nat) (X:Xs) (f:Value) (ds:List V) (H:HL) (Q:VP):Prop :=
 ∀ A Z s vs (R:Result→Shared→Prop),Room A n→(X.fr→Fm A hb Z H s)→Sat pG w hb Z H s→RepL pG w (f7 s Z) vs ds →
  Kop pG w hb A X (RepV pG w) Q (fun v s'=>R (.ok (.ret v)) s') (fun e s'=>R (.error e) s') Z H s→codeAny (model pG w) A (.call f ⟨vs,[]⟩) R s
theorem OpC.op {f:Value} {ds:List V} {Q:VP} (o:OpC pG w hb n X f ds H Q):Op pG w hb n X (RepV pG w) (fun vs=>call f vs) ds H Q :=
 fun A Z s vs R E rm fm y rl k=>lx2 (o A Z s vs _ rm fm y rl ⟨fun st y' r q=>k.ok st y' r q,fun hx e s' t=>k.ex hx e s' t⟩)
theorem gk5 {a:Addr} {fd:FuncData} {body:List Stmt} {names:List Str} {ds:List V} {Q:VP} (F:FnAt w a fd body names) (hl:ds.length=names.length)
  (h:TS pG w hb fd.scope n X (names.zip ds) body H (aj2 Q)) {A:Around} {Z:List Addr} {s:Shared} {vs:List Value} {R:Result→Shared→Prop} (ln:fd.scope.names.lookup ("signatures":Str)=some .cell→O3 A=[])
  (rm:Room A (n+1)) (fm:X.fr→Fm A hb Z H s) (y:Sat pG w hb Z H s) (rl:RepL pG w (f7 s Z) vs ds) (k:Kop pG w hb A X (RepV pG w) Q (fun v s'=>R (.ok (.ret v)) s') (fun e s'=>R (.error e) s') Z H s) :
  codeAny (model pG w) A (.call (.ref a) ⟨vs,[]⟩) R s:=by
 refine ck6 F.lk fun oc od sl hlk=>?_
 obtain ⟨c,occ,odc,vsc,slc,tc,hc1,hc2,hc3⟩:=F.code
 refine k8 y.bs.T fun pp loose mg mb T=>?_
 have T':=T.keeps (y.base.trans (g6 s Z))
 have XK:=y.K
 have hlen:vs.length=names.length:=rl.length.trans hl
 have nms:∀ x∈names,fd.scope.names.lookup x=some .local∨fd.scope.names.lookup x=some .cell:=fun x hx=>by
  have:=kq3.mp F.nms x hx
  simpa using this
 have hbm:∀ x∈names.zip vs,x.1∈names:=fun x hx=>(nz2 (a:=x.1) (b:=x.2) hx).1
 have room1:A.depth<recursionLimit:=by have:=rm.depth;refine (?_:A.depth<1000);exact d6 [_,_] 1 (.add (.add zA (.mulL 10 (.add zB nA))) (.num 20)) (.num 1000) (.add zA nA) (.num 1000) tT this
 refine codeAny_call_cells room1 (XK _ _ hlk) rfl T'.nolimit ⟨c,_,vsc,tc,hc1,XK _ _ hc2,rfl,hc3⟩ F.body (F.bind vs hlen) F.clo (fun x hx=>?_) (fun s₁ x=>?_) F.co F.gen F.kind
 ·refine Qa (nms x.1 (hbm x hx)) (fun q=>?_) fun q=>?_
  ·exact .inl q
  ·exact .inr ⟨q,n7 (Qe q)⟩
 generalize hL:s.heap.objs.size=L at *
 obtain ⟨⟨⟨h1,tk,rfl⟩,xns,xkeep,xfresh⟩,xcell,xapart,xabove⟩:=x
 have eloc:(callEnvC fd L a).locals=L:=rfl
 have ecell:(callEnvC fd L a).cells=cellsFrom (L+1) fd.scope.names []:=rfl
 have ekind:∀ z,(callEnvC fd L a).kindOf z=fd.scope.names.lookup z:=fun z=>rfl
 have efr:(callEnvC fd L a).frame=some L:=rfl
 rw [eloc] at xns xabove
 have fresh:∀ b∈own (callEnvC fd L a),s.heap.get? b=none:=fun b hb=>by
  refine Qf ?_
  rcases jv6.mp hb with rfl | hb
  ·exact kj3 hL
  ·(refine c9 (jv9.mp hb) ?_;rintro q hq rfl)
   have h:L<q.2:=xabove q.1 q.2 hq
   exact jw9 (kj3 hL) (lq8 h)
 have cmem:∀ q∈(callEnvC fd L a).cells,(callEnvC fd L a).cells.lookup q.1=some q.2:=fun q hq =>
  i7 (x6 (of_decide_eq_true F.snd) (by trivial) fun p hp=>(nomatch hp)) hq
 have live:∀ b∈own (callEnvC fd L a),∃ o,h1.get? b=some o:=fun b hb=>by
  rcases jv6.mp hb with rfl | hb
  ·obtain ⟨o,es,ep,e,_⟩:=xns
   exact ⟨o,e⟩
  ·(refine c9 (jv9.mp hb) ?_;rintro q hq rfl)
   obtain ⟨o,e,_⟩:=xcell q.1 q.2 (cmem q hq)
   exact ⟨o,e⟩
 refine J7 (y.growHide (h':=h1) (t:=tk) (ys:=own (callEnvC fd L a)) xkeep fresh live) fun y1 st1 u1=>?_
 have notH:∀ b∈own (callEnvC fd L a),b∉foots H:=fun b hb q=>by
  refine oE (y.zlt b (y.sub b q)) fun o e=>?_
  exact a7 e (fresh b hb)
 have eok:EnvOk fd.scope (callEnvC fd L a):=⟨rfl,F.kind,F.glob,F.bi,fun z hz=>by
  refine Qa hz (fun q=>?_) fun q=>?_
  ·exact kk5.mp (n7 (k:=L+1) (acc:=[]) (Qe q))
  ·have:=kq3.mp F.free _ (Qe q)
   exact nb this,F.lam⟩
 have ySE:SatE pG w hb (callEnvC fd L a) (own (callEnvC fd L a)++Z) (names.zip ds) H { s with heap:=h1,toks:=tk }:=by
  refine { toSat:=y1,ownZ:=fun b m=>jv8 _ m,ownH:=notH,ondup:=?_,cells:=fun z c' hz=>⟨_,xcell z c' hz⟩,ns:=⟨_,xns,fun z d hz=>?_⟩ }
  ·refine kq6.mpr ⟨fun m=>?_,?_⟩
   ·refine c9 (jv9.mp m) fun q hq e=>?_
    have h:L<q.2:=xabove q.1 q.2 hq
    exact kj2 h e
   ·rw [List.Nodup,kv8];exact xapart
  ·refine c9 (T7 rl hz) fun v hv r=>?_
   have nd:((names.zip vs).map (·.1)).Nodup:=by
    refine a5 (nx0 (kj3 hlen.symm)) ?_
    exact of_decide_eq_true F.nd
   have bl:=(bv1 (kindOf:=(callEnvC fd L a).kindOf) (m:=fun u_=>none) (cm:=fun u_=>none) nd).1 v hv
   refine ⟨v,r.mono u1,?_⟩
   have hz':z∈names:=hbm (z,v) (Qe hv)
   refine Qa (nms z hz') (fun q=>?_) fun q=>?_
   ·rw [if_pos (by exact a5 (ekind ..) (a5 (q ..) rfl))] at bl
    exact .inl ⟨by exact a5 (ekind ..) (a5 (q ..) rfl),bl⟩
   ·rw [if_neg (by refine a5 (ekind ..) (a5 (q ..) ?_);decide)] at bl
    refine oE (kk5.mp (n7 (k:=L+1) (acc:=[]) (Qe q))) fun c' hc'=>?_
    refine .inr ⟨.inl (by exact a5 (ekind ..) (a5 (q ..) rfl)),c',hc',?_⟩
    refine p8 bl ?_
    exact xcell z c' hc'
 have fm1:X.fr→FmE (A.deeper (callEnvC fd L a)) (callEnvC fd L a) hb (own (callEnvC fd L a)++Z) H { s with heap:=h1,toks:=tk }:=fun hx=>by
  obtain ⟨⟨l,hl,hf⟩,hz⟩:=fm hx
  have efl:(A.deeper (callEnvC fd L a)).frames=some (callEnvC fd L a::l):=by refine (?_:A.frames.map _=_);refine a5 hl ?_;rfl
  have hz':∀ L'∈l.filterMap (·.frame),L'∈Z∧L'∉foots H:=fun L' m=>hz L' (by rw [O3,hl];exact m)
  refine ⟨⟨⟨_,efl,?_⟩,fun L' m=>?_⟩,l,efl,rfl,fun L' m q=>?_,fun q=>by have:=ln q;rw [O3,hl] at this;exact this⟩
  ·refine ⟨by refine (?_:fd.scope.kind≠.module);refine a5 F.kind ?_;decide,⟨L,?_⟩,?_⟩
   ·obtain ⟨o,es,ep,e,e2,_⟩:=xns
    refine ⟨o,efr,?_,e,fun vs q=>by replace q:=e2▸q;cases q⟩
    cases q:hb.get? L with
    | none=>rfl
    | some o'=>exact a7 (c7 (y.base L o' q)).1 (fresh L (jv0 ..))
   ·exact v8 (fun L' m o ho hd=>⟨o,xkeep _ _ ho,hd⟩) hf
  ·have m':L'∈(callEnvC fd L a::l).filterMap (·.frame):=by rw [O3,efl] at m;exact m
   rw [kq5,efr] at m'
   rcases jv6.mp m' with rfl | m'
   ·exact ⟨jv8 _ (jv0 ..),notH _ (jv0 ..)⟩
   ·exact ⟨jv7 _ (hz' L' m').1,(hz' L' m').2⟩
  ·refine oE (y.zlt L' (hz' L' m).1) fun o e=>?_
   exact a7 e (fresh L' q)
 have p1:Pt pG w hb fd.scope (callEnvC fd L a) (A.deeper (callEnvC fd L a)) n X (own (callEnvC fd L a)++Z) (names.zip ds) H { s with heap:=h1,toks:=tk } :=
  ⟨eok,⟨by have:=rm.depth;refine (?_:A.depth+1+10 * n+20≤1000);exact d6 [_,_] 1 (.add (.add zA (.mulL 10 (.add zB nA))) (.num 20)) (.num 1000) (.add (.add (.add zA nA) (.mulL 10 zB)) (.num 20)) (.num 1000) tT this,by have:=rm.units;refine (?_:A.units+3+100 * n+300≤9900);exact d6 [_,_] 1 (.add (.add zA (.mulL 100 (.add zB nA))) (.num 300)) (.num 9900) (.add (.add (.add zA (.num 3)) (.mulL 100 zB)) (.num 300)) (.num 9900) tT this,rm.handled⟩,fm1,ySE⟩
 refine Tri.run (t:=execs body) h p1 (fun hx e s2 t=>?_) fun {fl s2 Z2 d ρ2 H2} st p2 ex2 u2 r q=>?_
 ·obtain ⟨⟨l,hl,hf⟩,hz⟩:=fm (X.imp hx)
  have efl:(A.deeper (callEnvC fd L a)).frames=some (callEnvC fd L a::l):=by refine (?_:A.frames.map _=_);refine a5 hl ?_;rfl
  have efs:O3 (A.deeper (callEnvC fd L a))=L::O3 A:=by rw [O3,O3,efl,hl];refine (?_:List.filterMap _ (_::l)=_);refine a5 kq5 (a5 efr ?_);rfl
  refine bz9 efl rfl t fun s3 th ex=>?_
  have late:∀ {b},Late (own (callEnvC fd L a)) H { s with heap:=h1,toks:=tk } b→Late [] H s b:=fun {b} lb o e=>by
   refine Qa (lb o (xkeep b o e)) (fun q=>?_) fun q=>?_
   ·exact a7 e (fresh b q)
   ·exact .inr q
  refine k.ex hx e s3 ⟨⟨fun b o e u_ n2 n3=>?_,fun b o e u_ n2 n3=>?_,fun l' hl'=>?_,th.os,th.gens⟩,?_⟩
  ·refine th.keep b o (xkeep b o e) (fun q=>a7 e (fresh b q)) n2 ?_
   refine a5 efs ?_
   intro q
   rcases jv6.mp q with rfl | q
   ·exact a7 e (fresh b (jv0 ..))
   ·exact n3 q
  ·exact th.slots b o (xkeep b o e) (fun q=>a7 e (fresh b q)) n2 (by refine a5 efs ?_;exact jv3 _ n3)
  ·rw [hl] at hl'
   (injection hl' with i;subst i)
   exact (th.frames _ efl).2.2
  ·obtain ⟨lt,oe,vs',q1,q2,q3,q4⟩:=ex
   refine ⟨late lt,oe,vs',q1,q2,q3,q4.imp id ?_⟩
   rintro ⟨T,oT,ts,f,a1,a2,a3,a4⟩
   exact ⟨T,oT,ts,f,a1,a2,late a3,a4⟩
 ·have st2:Step [] Z H s Z2 H2 s2:=by
   have:=(st1 (own (callEnvC fd L a))).trans st y.zlt y.sub live
   exact this.dropOwn fun b m=>.inr (fresh b m)
  have y2:=p2.sat.toSat
  cases fl with
  | next =>
   cases d with
   | next=>exact k.ok st2 y2 (.dat ⟨_,.none⟩) q
   | _=>exact r.elim
  | ret v =>
   cases d with
   | ret d=>exact k.ok st2 y2 r q
   | _=>exact r.elim
  | brk=>cases d <;> first | exact r.elim | exact q.elim
  | cont=>cases d <;> first | exact r.elim | exact q.elim
theorem gx0 {a:Addr} {fd:FuncData} {body:List Stmt} {names:List Str} {ds:List V} {Q:VP} (F:FnAt w a fd body names) (nl:fd.scope.names.lookup ("signatures":Str)≠some .cell) (hl:ds.length=names.length)
  (h:TS pG w hb fd.scope n X (names.zip ds) body H (aj2 Q)):OpC pG w hb (n+1) X (.ref a) ds H Q :=
 fun A Z s vs R rm fm y rl k=>gk5 F hl h (fun q=>absurd q nl) rm fm y rl k
theorem op_fn {a:Addr} {fd:FuncData} {body:List Stmt} {names:List Str} {ds:List V} {Q:VP} (F:FnAt w a fd body names) (nl:fd.scope.names.lookup ("signatures":Str)≠some .cell) (hl:ds.length=names.length)
  (h:TS pG w hb fd.scope n X (names.zip ds) body H (aj2 Q)):Op pG w hb (n+1) X (RepV pG w) (fun vs=>call (.ref a) vs) ds H Q:=(gx0 F nl hl h).op
theorem Op.grow {α β:Type} {rel:Heap→α→β→Prop} {f:List Value→Sem α} {ds:List V} {Q:β→HL→Prop}
  (x:∀ A Z s vs (R:α→Shared→Prop) (E:Value→Shared→Prop),Room A n→Sat pG w hb Z H s→RepL pG w (f7 s Z) vs ds →
   (∀ {v h' t d},Sub s.heap h'→rel (f7 { s with heap:=h',toks:=t } Z) v d→Q d H→R v { s with heap:=h',toks:=t })→wpAny (model pG w) A (f vs) R E s):Op pG w hb n X rel f ds H Q :=
 fun A Z s vs R E rm fm y rl k=>x A Z s vs R E rm y rl fun ks r q=>k.ok (.grow ks) (y.grow ks) r q
theorem Sub.refl (h:Heap):Sub h h:=fun u_ u_ e=>e
theorem RepL.inv1 {h:Heap} {vs:List Value} {a:V} (r:RepL pG w h vs [a]):∃ v,vs=[v]∧RepV pG w h v a :=
 a8 r.inv fun v us e q t=>⟨v,e.trans (congrArg _ (show us=[] from t.inv)),q⟩
theorem RepL.inv2 {h:Heap} {vs:List Value} {a b:V} (r:RepL pG w h vs [a,b]):∃ v u,vs=[v,u]∧RepV pG w h v a∧RepV pG w h u b :=
 a8 r.inv fun v us e q t=>c9 t.inv1 fun u e2 p=>⟨v,u,e.trans (congrArg _ e2),q,p⟩
theorem RepL.inv3 {h:Heap} {vs:List Value} {a b c:V} (r:RepL pG w h vs [a,b,c]):∃ v u x,vs=[v,u,x]∧RepV pG w h v a∧RepV pG w h u b∧RepV pG w h x c :=
 a8 r.inv fun v us e q t=>a8 t.inv2 fun u x e2 p o=>⟨v,u,x,e.trans (congrArg _ e2),q,p,o⟩
theorem RepV.int {h:Heap} {v:Value} {i:Int} (r:RepV pG w h v (.dat (.int i))):∃ t,v=.int i t:=oE r.inv fun as r=>rdi r
theorem RepV.str {h:Heap} {v:Value} {i:Str} (r:RepV pG w h v (.dat (.str i))):∃ t,v=.str i t:=oE r.inv fun as r=>rdi r
theorem RepV.bool {h:Heap} {v:Value} {i:Bool} (r:RepV pG w h v (.dat (.bool i))):v=.bool i:=oE r.inv fun as r=>rdi r
theorem RepV.none {h:Heap} {v:Value} (r:RepV pG w h v (.dat .none)):v=.none:=oE r.inv fun as r=>rdi r
theorem K7 {h:Heap} (i:Int) (t:Tok):RepV pG w h (.int i t) (.dat (.int i)):=.dat ⟨_,.int _ _⟩
theorem N5 {h:Heap} (i:Str) (t:Tok):RepV pG w h (.str i t) (.dat (.str i)):=.dat ⟨_,.str _ _⟩
theorem m7 {h:Heap} (i:Bool):RepV pG w h (.bool i) (.dat (.bool i)):=.dat ⟨_,.bool _⟩
theorem bw7 {h:Heap}:RepV pG w h .none (.dat .none):=.dat ⟨_,.none⟩
noncomputable def Z9 (pG:Program) (w:World) (hb:Heap) (H:HL) (d:V) (ds:List V):Prop :=
 ∀ Z s v,Sat pG w hb Z H s→RepV pG w (f7 s Z) v d→∃ a vs,v=.ref a∧(s.heap.IsList a vs∨s.heap.IsTuple a vs)∧RepL pG w (f7 s Z) vs.toList ds
set_option tactic.hygienic true in
theorem d5 {xs:List PyData}:Z9 pG w hb H (.dat (.list xs)) (xs.map .dat):=fun Z s v y r=>by
 replace r:Rd _ _ _:=r.inv
 refine oE r fun as r=>?_
 (refine k8 (rdi r) ?_;rintro a o vs m y;refine o4 y ?_;clear y;rintro as' rfl h1 h2 yy;refine oA yy ?_;clear yy;rintro h3 h4)
 exact ⟨a,vs,rfl,.inl ⟨o,(c7 h1).1,h2,_,h3⟩,.ofData (bw9 h4)⟩
theorem j5 {d:V} {ds:List V} (e:d.items=some ds):Z9 pG w hb H d ds:=fun Z s v y r=>by
 (refine a8 (s6 r e) ?_;rintro a vs rfl it rl)
 exact ⟨a,vs,rfl,.inr (j2 (g6 s Z) it),rl⟩
theorem x4 {a:Addr} {xs:List PyData} (i:Nat) (e:H[i]?=some (a,.lst xs)):Z9 pG w hb H (.ref a) (xs.map .dat):=fun Z s v y r=>by
 (replace r:=r.inv;subst r)
 refine y9 (y.own (a,.lst xs) (kz2 e)) fun vs m h1 h2=>?_
 exact ⟨a,vs,rfl,.inl ⟨_,h1,rfl,_,rfl⟩,.ofData h2⟩
noncomputable abbrev aq0 (slice:Expr):Prop:=∀ l k u,subscripted slice false (.ref l) (.int k u)=operate [.ref l,.int k u] (getItem (.ref l) (.int k u))
theorem dw7 {g:Heap} {ds:List V}:∀ {vs:List Value},RepL pG w g vs ds→∀ {j:Nat} {d:V},ds[j]?=some d→∃ v,vs[j]?=some v∧RepV pG w g v d:=by
 induction ds with
 | nil=>exact fun {vs} r {j d} h=>nn h
 | cons d ds ih =>
  intro vs r j v h
  (refine a8 r.inv ?_;rintro u us rfl q qs)
  induction j using Nat.casesOn with
  | zero=>exact ⟨_,rfl,Qm h▸q⟩
  | succ j=>exact ih qs h
theorem eq1 {value slice:Expr} {d x:V} {ds:List V} {i:Int} {Q:VP} (S:Z9 pG w hb H d ds) (h0:0≤i) (hfit:i<2 ^ 62) (hx:ds[i.toNat]?=some x) (q:Q x H)
  (hs:aq0 slice:=by intro _ _ _;with_unfolding_all rfl):Op pG w hb n X (RepV pG w) (G0 (subscriptTail value slice)) [d,.dat (.int i)] H Q:=by
 refine .grow fun A Z s vs R E rm y rl k=>?_
 (refine a8 rl.inv2 ?_;rintro v u rfl r1 r2)
 (refine oE r2.int ?_;rintro t rfl)
 (refine a8 (S Z s v y r1) ?_;rintro a vs rfl hL rs)
 refine c9 (dw7 rs hx) fun xv hxv rx=>?_
 have fin:=k (h':=s.heap) (t:=s.toks) (Sub.refl _) rx q
 refine (?_:wpAny _ _ (subscriptTail value slice (.ref a) (.int i t)) _ _ _)
 rw [kq7] at hxv
 refine Qa hL (fun hL=>?_) fun hL=>?_
 ·exact tail_any hL.typeIs slot_list_getitem.lookup (wpAny_getItem_list hL h0 (by lia) hxv fin) (hs _ _ _)
 ·have hT:IsTup s.heap a vs:=hL
  refine tail_any hT.typeIs slot_tuple_getitem.lookup (getItem_tuple hT (by lia) (by lia) (j:=i.toNat) ?_ hxv fin) (hs _ _ _)
  have:=(kz5.mp hxv).1
  unfold seqIndex?
  simp only [show ¬i<0 by exact lx8.mpr (F0 [_] 1 (.num 0) zA (.num 0) zA tT h0),if_false]
  rw [if_pos]
  simp;lia
theorem hw3 {value slice:Expr} {d x:V} {ds:List V} {Q:VP} (S:Z9 pG w hb H d ds) (hfit:ds.length<2 ^ 62) (hx:ds.getLast?=some x) (q:Q x H)
  (hs:aq0 slice:=by intro _ _ _;with_unfolding_all rfl):Op pG w hb n X (RepV pG w) (G0 (subscriptTail value slice)) [d,.dat (.int (-1))] H Q:=by
 refine .grow fun A Z s vs R E rm y rl k=>?_
 (refine a8 rl.inv2 ?_;rintro v u rfl r1 r2)
 (refine oE r2.int ?_;rintro t rfl)
 (refine a8 (S Z s v y r1) ?_;rintro a vs rfl hL rs)
 rw [List.getLast?_eq_getElem?] at hx
 refine c9 (dw7 rs hx) fun xv hxv rx=>?_
 have hlen:=rs.length
 rw [jw2] at hlen
 have fin:=k (h':=s.heap) (t:=s.toks) (Sub.refl _) rx q
 refine (?_:wpAny _ _ (subscriptTail value slice (.ref a) (.int (-1) t)) _ _ _)
 rw [kq7,← hlen] at hxv
 have hpos:=(kz5.mp hxv).1
 have e:((-1:Int)+vs.size).toNat=vs.size - 1:=by refine a5 (Int.add_comm ..) ?_;exact Int.toNat_sub vs.size 1
 refine Qa hL (fun hL=>?_) fun hL=>?_
 ·exact tail_any hL.typeIs slot_list_getitem.lookup (wpAny_getItem_list_neg hL (by decide) (by lia) (by decide) (by refine a5 e ?_;exact hxv) fin) (hs _ _ _)
 ·have hT:IsTup s.heap a vs:=hL
  refine tail_any hT.typeIs slot_tuple_getitem.lookup (getItem_tuple hT (by decide) (by decide) (j:=vs.size - 1) ?_ hxv fin) (hs _ _ _)
  unfold seqIndex?
  simp only [show (-1:Int)<0 by lia,if_true]
  rw [if_pos,e]
  simp;lia
noncomputable def DctV (pG:Program) (w:World) (hb:Heap) (H:HL) (d:V) (kvs:List (Str × PyData)):Prop :=
 ∀ Z s v,Sat pG w hb Z H s→RepV pG w (f7 s Z) v d→∃ a es,v=.ref a∧s.heap.DictOf (strKind pG w) a es∧RdD (f7 s Z) es kvs∧(a == sysModules)=false
theorem ik5 {hb:Heap} {a:Addr} (b:Base w hb) {kvs:List (Str × Value)} {h:Heap} (k:Sub hb h) (hd:h.DictOf (strKind pG w) a kvs):True:=trivial
theorem W9 (a b:Str):(a == b)=(b == a):=by rw [lv5,beq_iff_eq,beq_iff_eq];exact eq_comm
theorem P6 {g:Heap} {name:Str} {fs:List (Str × V)}:∀ {es:List DictEntry},RepF pG w g es fs →
  (∀ d,fs.lookup name=some d→∃ v,getL name es=some (some v)∧RepV pG w g v d)∧(fs.lookup name=none→getL name es=some none):=by
 induction fs with
 | nil=>exact fun {es} r=>(show es=[] from r.inv)▸⟨fun d h=>nn h,fun u_=>rfl⟩
 | cons p fs ih =>
  intro es r
  (refine ck6 r.inv ?_;rintro e es t y;refine G9 y ?_;clear y;rintro rfl hk r rs)
  obtain ⟨x,d0⟩:=p
  have ih:=ih rs
  have hs:e.key.isStr name=(name == x):=by refine a5 hk ?_;exact W9 x name
  refine a5 kq2 ?_
  unfold getL at ih ⊢
  refine a5 (kw0) (a5 hs ?_)
  cases q:name == x with
  | true=>exact ⟨fun d h=>by (injection h with i;subst i);exact ⟨_,rfl,r⟩,fun h=>by exact ns h⟩
  | false =>
   have hr:e.refKey=false:=by unfold DictEntry.refKey;exact a5 hk rfl
   simp only [mj8,hr,lx4]
   exact ih
noncomputable def InstV (pG:Program) (w:World) (hb:Heap) (H:HL) (d:V) (C:Addr) (fs:List (Str × V)):Prop :=
 ∀ Z s v,Sat pG w hb Z H s→RepV pG w (f7 s Z) v d→∃ x dx es n,v=.ref x∧s.heap.get? x=some (instObj C dx)∧s.heap.get? dx=some ⟨.type "dict",none,.dict es n,#[]⟩∧RepF pG w (f7 s Z) es.toList fs
theorem Q3 {C:Addr} {fs:List (Str × V)}:InstV pG w hb H (.inst C fs) C fs:=fun Z s v y r=>by
 exact k8 r.inv fun x dx es n y=>G9 y fun e h1 h2 h3=>⟨_,_,_,_,e,(c7 h1).1,(c7 h2).1,h3⟩
theorem gj8 {a C dx:Addr} {fs:List (Str × V)} (i:Nat) (e:H[i]?=some (a,.inst C dx fs)):InstV pG w hb H (.ref a) C fs:=fun Z s v y r=>by
 (replace r:=r.inv;subst r)
 refine oA (y.own (a,.inst C dx fs) (kz2 e)) fun h1 y=>y9 y fun es m h2 h3=>?_
 exact ⟨_,_,_,_,rfl,h1,h2,h3⟩
theorem InstAt.ofI {h:Heap} {x C dx:Addr} {es:Array DictEntry} {n:Nat} (h1:h.get? x=some (instObj C dx)) (h2:h.get? dx=some ⟨.type "dict",none,.dict es n,#[]⟩) :
  InstAt h x (instObj C dx) C (some (dictOf es.toList n)):=⟨h1,rfl,rfl,h2⟩
noncomputable def L0:V→Bool
 | .con _=>false
 | .any _=>false
 | _=>true
theorem fq5 {g:Heap} {v:Value} {d:V} (r:RepV pG w g v d) (h:L0 d=true):handedIn v=true:=by
 cases r with
 | dat r=>(refine oE r ?_;clear r;intro as r);cases r <;> rfl
 | con=>exact nb h
 | any=>exact nb h
 | _=>rfl
theorem hw5 {d x:V} {C:Addr} {fs:List (Str × V)} {name:Str} {attr:Option Value} {Q:VP} (I:InstV pG w hb H d C fs) (hx:fs.lookup name=some x) (hg:plainGet (KK w) C name=true) (hh:hasDictIn (KK w) C=true)
  (ha:findIn (KK w) (.ref C) name=some attr) (hn:noGet (KK w) attr=true) (hc:L0 x=true) (q:Q x H):Op pG w hb n X (RepV pG w) (op1 fun o=>getAttr o name true) [d] H Q:=by
 refine .grow fun A Z s vs R E rm y rl k=>?_
 (refine c9 rl.inv1 ?_;rintro v rfl r)
 (refine oE (I Z s v y r) ?_;intro x' y;refine oE y ?_;clear y;intro dx y;refine oE y ?_;clear y;intro es y;refine o4 y ?_;clear y;rintro m rfl h1 h2 h3)
 refine c9 ((P6 h3).1 x hx) fun u hu ru=>?_
 exact get_value y.K (InstAt.ofI h1 h2) (plainGet_of hg).1 (findObj_own hh ha hn ((lookIn_dict _ _ _).trans hu)) (fq5 ru hc) (k (h':=s.heap) (Sub.refl _) ru q)
theorem ew6 {d:V} {C f:Addr} {fs:List (Str × V)} {name:Str} (I:InstV pG w hb H d C fs) (hx:fs.lookup name=none) (hg:plainGet (KK w) C name=true)
  (hf:findIn (KK w) (.ref C) name=some (some (.ref f))) (ht:isFn (KK w) (.ref f)=true):fj0 pG w hb d H name (.ref f):=fun A Z s v pl Q E y r q=>by
 (refine oE (I Z s v y r) ?_;intro x' y;refine oE y ?_;clear y;intro dx y;refine oE y ?_;clear y;intro es y;refine o4 y ?_;clear y;rintro m rfl h1 h2 h3)
 exact method_fn y.K (InstAt.ofI h1 h2) (plainGet_of hg).1 (plainGet_of hg).2 hf (beq_iff_eq.mp ht) (by refine (?_:(lookIn name (dictOf es.toList m)).map _=_);refine a5 ((lookIn_dict _ _ _).trans ((P6 h3).2 hx)) ?_;rfl) q
theorem ax2 {a:Addr} {xs:List PyData} {name:Str} {id:String} (i:Nat) (e:H[i]?=some (a,.lst xs)) (slot:Slot "list" name id) (hty:typeOf (.builtin id)=pure (.type "method_descriptor"))
  : fj0 pG w hb (.ref a) H name (.builtin id):=fun A Z s v pl Q E y r q=>by
 (replace r:=r.inv;subst r)
 refine y9 (y.own (a,.lst xs) (kz2 e)) fun vs m h1 h2=>?_
 exact getMethod_builtin ⟨_,h1,rfl⟩ PySem.F.plainAttrs_list slot hty (fun b hb=>by (injection hb with i;subst i);exact ⟨_,h1,rfl⟩) q
noncomputable def ev2 (name:Str) (d:V):List (Str × V)→List (Str × V)
 | []=>[(name,d)]
 | (x,e)::r=>if name == x then (x,d)::r else (x,e)::ev2 name d r
theorem fw9 {g:Heap} {name:Str} {hsh:Int} {t:Tok} {v:Value} {d:V} (r:RepV pG w g v d) {fs:List (Str × V)}:∀ {es:List DictEntry},RepF pG w g es fs→RepF pG w g (putL name hsh (.str name t) v es) (ev2 name d fs):=by
 induction fs with
 | nil=>exact fun {es} q=>(show es=[] from q.inv)▸.cons rfl r .nil
 | cons p fs ih =>
  intro es q
  (refine w5 q.inv ?_;rintro e es t rfl y;refine J7 y ?_;clear y;rintro hk r0 rs)
  obtain ⟨x,d0⟩:=p
  have hs:e.key.isStr name=(name == x):=by refine a5 hk ?_;exact W9 x name
  dsimp only [putL,ev2]
  refine a5 hs ?_
  split
  ·exact .cons hk r rs
  ·exact .cons hk r0 (ih rs)
theorem N9 {name:Str} {hsh:Int} {key v:Value}:∀ {es:List DictEntry},(putL name hsh key v es).length≤es.length+1
 | []=>by exact jw4 _
 | e::r=>by
  dsimp only [putL]
  split
  ·exact kz8 ..
  ·have:=N9 (name:=name) (hsh:=hsh) (key:=key) (v:=v) (es:=r);simp;exact this
theorem RepF.length {g:Heap} {fs:List (Str × V)}:∀ {es:List DictEntry},RepF pG w g es fs→es.length=fs.length:=by
 induction fs with
 | nil=>exact fun {es} r=>(show es=[] from r.inv)▸rfl
 | cons p fs ih=>exact fun {es} r=>ck6 r.inv fun e es t y=>G9 y fun q a r s=>q▸congrArg Nat.succ (ih s)
set_option tactic.hygienic true in
theorem bw5 {x C dx:Addr} {es:Array DictEntry} {m:Nat} {name:Str} {v:Value} {Q:Unit→Shared→Prop} {E:Value→Shared→Prop} (X:(KK w).In s.heap) (h1:s.heap.get? x=some (instObj C dx))
  (h2:s.heap.get? dx=some ⟨.type "dict",none,.dict es m,#[]⟩) (hs:findIn (KK w) (.ref C) "__setattr__"=some (some (.builtin "object.__setattr__"))) (hp:plainOver (KK w) C=true) (ht:takerIn (KK w) C name=some none)
  (hh:hasDictIn (KK w) C=true) (hl:(getL name es.toList).isSome=true) (hz:es.size≤900)
  (h:∀ h' t tk hsh,Heap.SameBut dx s.heap h'→h'.get? dx=some ⟨.type "dict",none,.dict (putL name hsh (.str name tk) v es.toList).toArray (putN name es.toList m),#[]⟩→Q () { s with heap:=h',toks:=t }) :
  wpAny (model pG w) A (setAttr (.ref x) name v) Q E s:=by
 have I:=InstAt.ofI h1 h2
 refine set_plain X I hs (osa_open (s:={ s with toks:=s.toks+1 }) X I hp ht fun b=>?_)
 refine c9 (any_some hh) fun cd hc hd'=>?_
 refine jk9 (jv5 (jk9 (jk9 (lz5 h1 (jk9 (Looks.here (s:={ s with toks:=s.toks+1 }) (looks_clsIn X hc) ?_))))))
 refine a5 hd' ?_
 refine jv5 (a:=some dx) (jk9 (jv5 (jk9 ?_)))
 have D:({ s with toks:=s.toks+1+1 }:Shared).heap.get? dx=some (dictOf es.toList m):=h2
 refine jk9 (jk9 (lq2 (jv5 (jk9 (mz5 (jk9 (lz5 D ?_)))))))
 unfold getL at hl
 have c:(!es.any (·.key.isStr name)&&es.any (·.refKey))=false:=by
  refine p8 nq3 (p8 nq3 ?_)
  split at hl
  ·rename_i en he
   refine a5 (nx6.mpr ⟨en,kv2 he,lv2 he⟩) ?_;rfl
  ·split at hl
   ·exact nb hl
   ·rename_i z;rw [lk8] at z;exact a5 (z ..) (a5 (nj2 ..) rfl)
 have e0:(dictOf es.toList m).data=.dict es m:=by refine (?_:Data.dict es.toList.toArray m=_);exact a5 lv9 rfl
 refine a5 e0 ?_
 dsimp only
 refine a5 (aRefKeyMayBeTheName_at ..) (a5 (c ..) ?_)
 refine mj2 D ?_
 have D':=Qj (Obj.putName name (PyData.keyHash w.params name) (.str name (s.toks+1)) v) D (by refine a5 (putName_dict ..) ?_;rfl)
 rw [putName_dict] at D'
 have hz':(putL name (PyData.keyHash w.params name) (.str name (s.toks+1)) v es.toList).length≤1000:=by
  have:=N9 (name:=name) (hsh:=PyData.keyHash w.params name) (key:=.str name (s.toks+1)) (v:=v) (es:=es.toList)
  have e:=jw2 (xs:=es)
  exact T5 [_,_,_] 1 zA zB 1 zC (.add zA nA) 1 zB (.num 900) zC (.num 1000) tT (o7 e) this hz
 have hp':(dictOf (putL name (PyData.keyHash w.params name) (.str name (s.toks+1)) v es.toList) (putN name es.toList m)).data.pastItsLine=none:=by
  refine pastItsLine_dict ?_
  have:sizeLine=16777216:=by rfl
  refine a5 lz0 ?_
  exact ul hz' tT
 refine jk9 (mj3 D' hp' ?_)
 exact jv5 (h _ _ _ _ (Heap.SameBut.update ..) D')
noncomputable abbrev R1 (pG:Program) (w:World):=RepV pG w
theorem hw9 {a b:Int} {Q:VP} (q:Q (.dat (.int (a+b))) H):Op pG w hb n X (RepV pG w) (G0 (binaryOp .Add)) [.dat (.int a),.dat (.int b)] H Q:=by
 refine .grow fun A Z s vs R E rm y rl k=>?_
 (refine a8 rl.inv2 ?_;rintro v u rfl r1 r2)
 (refine oE r1.int ?_;rintro t rfl)
 (refine oE r2.int ?_;rintro t' rfl)
 exact PyProof.Rows.add_int (k (h':=s.heap) (Sub.refl _) (K7 _ _) q)
theorem hv9 {a b:Int} {Q:VP} (q:Q (.dat (.int (a - b))) H):Op pG w hb n X (RepV pG w) (G0 (binaryOp .Sub)) [.dat (.int a),.dat (.int b)] H Q:=by
 refine .grow fun A Z s vs R E rm y rl k=>?_
 (refine a8 rl.inv2 ?_;rintro v u rfl r1 r2)
 (refine oE r1.int ?_;rintro t rfl)
 (refine oE r2.int ?_;rintro t' rfl)
 exact PyProof.Rows.sub_int (k (h':=s.heap) (Sub.refl _) (K7 _ _) q)
theorem hw1 {a b:Int} {Q:VP} (hb0:b≠0) (q:Q (.dat (.int (a.fmod b))) H):Op pG w hb n X (RepV pG w) (G0 (binaryOp .Mod)) [.dat (.int a),.dat (.int b)] H Q:=by
 refine .grow fun A Z s vs R E rm y rl k=>?_
 (refine a8 rl.inv2 ?_;rintro v u rfl r1 r2)
 (refine oE r1.int ?_;rintro t rfl)
 (refine oE r2.int ?_;rintro t' rfl)
 exact PyProof.Rows.mod_int hb0 (k (h':=s.heap) (Sub.refl _) (K7 _ _) q)
theorem hw0 {a b:Int} {Q:VP} (hm:IntMulOk a b) (q:Q (.dat (.int (a * b))) H):Op pG w hb n X (RepV pG w) (G0 (binaryOp .Mult)) [.dat (.int a),.dat (.int b)] H Q:=by
 refine .grow fun A Z s vs R E rm y rl k=>?_
 (refine a8 rl.inv2 ?_;rintro v u rfl r1 r2)
 (refine oE r1.int ?_;rintro t rfl)
 (refine oE r2.int ?_;rintro t' rfl)
 exact P.mul_int (k (h':=s.heap) (Sub.refl _) (K7 _ _) q) hm
noncomputable def cmpI:CmpOp→Int→Int→Bool
 | .Lt,a,b=>decide (a<b)
 | .LtE,a,b=>decide (a≤b)
 | .Gt,a,b=>decide (a > b)
 | .GtE,a,b=>decide (a ≥ b)
 | .Eq,a,b=>a == b
 | .NotEq,a,b=>a != b
 | _,_,_=>false
noncomputable def gj7:CmpOp→Bool
 | .Lt | .LtE | .Gt | .GtE | .Eq | .NotEq=>true
 | _=>false
theorem hw4 {op:CmpOp} {a b:Int} {Q:VP} (ho:gj7 op=true) (q:Q (.dat (.bool (cmpI op a b))) H):Op pG w hb n X (RepV pG w) (G0 (compareOp op)) [.dat (.int a),.dat (.int b)] H Q:=by
 refine .grow fun A Z s vs R E rm y rl k=>?_
 (refine a8 rl.inv2 ?_;rintro v u rfl r1 r2)
 (refine oE r1.int ?_;rintro t rfl)
 (refine oE r2.int ?_;rintro t' rfl)
 have fin:=k (h':=s.heap) (t:=s.toks) (Sub.refl _) (m7 _) q
 induction op using PySem.CmpOp.casesOn with
 | Lt=>exact P.lt_int fin
 | LtE=>exact P.le_int fin
 | Gt=>exact P.gt_int fin
 | GtE=>exact P.ge_int fin
 | Eq=>exact P.eq_int fin
 | NotEq=>exact P.ne_int fin
 | _=>exact nb ho
theorem Room.line {A:Around} (rm:Room A n):A.units+64<cLine:=by
 have h:=rm.units
 have e:cLine=9900:=by rfl
 exact d6 [_,_] 1 (.add (.add zA (.mulL 100 zB)) (.num 300)) (.num 9900) (.add (.add zA (.num 64)) nA) (.num 9900) tT h
theorem az6 {a b:PyData} {Q:VP} (ha:SeqAt.shaped a=true) (hb':SeqAt.shaped b=true) (q:Q (.dat (.bool (PyData.eqv a b))) H):Op pG w hb n X (RepV pG w) (G0 (compareOp .Eq)) [.dat a,.dat b] H Q:=by
 refine .grow fun A Z s vs R E rm y rl k=>?_
 (refine a8 rl.inv2 ?_;rintro v u rfl r1 r2)
 replace r1:Rd _ _ _:=r1.inv
 replace r2:Rd _ _ _:=r2.inv
 (refine oE r1 ?_;clear r1;intro as r1)
 (refine oE r2 ?_;clear r2;intro bs r2)
 exact eq_dataH (PyProof.Rows.Reads.keeps (g6 s Z) r1) (PyProof.Rows.Reads.keeps (g6 s Z) r2) ha hb' rm.line (k (h':=s.heap) (t:=s.toks) (Sub.refl _) (m7 _) q)
theorem X4 {a b:PyData} {Q:VP} (ha:SeqAt.shaped a=true) (hb':SeqAt.shaped b=true) (q:Q (.dat (.bool (!PyData.eqv a b))) H):Op pG w hb n X (RepV pG w) (G0 (compareOp .NotEq)) [.dat a,.dat b] H Q:=by
 refine .grow fun A Z s vs R E rm y rl k=>?_
 (refine a8 rl.inv2 ?_;rintro v u rfl r1 r2)
 replace r1:Rd _ _ _:=r1.inv
 replace r2:Rd _ _ _:=r2.inv
 (refine oE r1 ?_;clear r1;intro as r1)
 (refine oE r2 ?_;clear r2;intro bs r2)
 exact ne_dataH (PyProof.Rows.Reads.keeps (g6 s Z) r1) (PyProof.Rows.Reads.keeps (g6 s Z) r2) ha hb' rm.line (k (h':=s.heap) (t:=s.toks) (Sub.refl _) (m7 _) q)
noncomputable def isN:V→Option Bool
 | .dat .none=>some true
 | .dat _=>some false
 | .inst ..=>some false
 | .tup _=>some false
 | .ref _=>some false
 | .dct _=>some false
 | _=>none
theorem gj5 {g:Heap} {v:Value} {d:V} {b:Bool} (r:RepV pG w g v d) (e:isN d=some b):(v == Value.none)=b:=by
 cases r with
 | dat r =>
  (refine oE r ?_;clear r;intro as r)
  cases r <;> (cases e;rfl)
 | con=>exact nn e
 | rng=>exact nn e
 | any=>exact nn e
 | _=>cases e;rfl
theorem ew3 {d:V} {b:Bool} {Q:VP} (e:isN d=some b) (q:Q (.dat (.bool b)) H):Op pG w hb n X (RepV pG w) (G0 (compareOp .Is)) [d,.dat .none] H Q:=by
 refine .grow fun A Z s vs R E rm y rl k=>?_
 (refine a8 rl.inv2 ?_;rintro v u rfl r1 r2)
 obtain rfl:=r2.none
 exact is_none_gen (by refine a5 (gj5 r1 e) ?_;exact k (h':=s.heap) (t:=s.toks) (Sub.refl _) (m7 _) q)
theorem cq1 {d:V} {b:Bool} {Q:VP} (e:isN d=some b) (q:Q (.dat (.bool (!b))) H):Op pG w hb n X (RepV pG w) (G0 (compareOp .IsNot)) [d,.dat .none] H Q:=by
 refine .grow fun A Z s vs R E rm y rl k=>?_
 (refine a8 rl.inv2 ?_;rintro v u rfl r1 r2)
 obtain rfl:=r2.none
 exact isnot_none_gen (by refine a5 (gj5 r1 e) ?_;exact k (h':=s.heap) (t:=s.toks) (Sub.refl _) (m7 _) q)
theorem ev9 {b:Bool} {Q:Bool→HL→Prop} (q:Q b H):Op pG w hb n X (fun _ (a b:Bool)=>a=b) (op1 truthy) [.dat (.bool b)] H Q:=by
 refine .grow fun A Z s vs R E rm y rl k=>?_
 (refine c9 rl.inv1 ?_;rintro v rfl r1)
 obtain rfl:=r1.bool
 exact lz4 (k (h':=s.heap) (t:=s.toks) (Sub.refl _) rfl q)
theorem g7 {kvs:List (Str × PyData)}:DctV pG w hb H (.dct kvs) kvs:=fun Z s v y r=>by
 exact oEE r.inv fun a es y=>G9 y fun e h1 h2 h3=>⟨_,_,e,Y7 (g6 s Z) h1,h2,h3⟩
theorem x5 {a:Addr} {kvs:List (Str × PyData)} (i:Nat) (e:H[i]?=some (a,.dct kvs)):DctV pG w hb H (.ref a) kvs:=fun Z s v y r=>by
 (replace r:=r.inv;subst r)
 refine o9 (y.own (a,.dct kvs) (kz2 e)) fun es h1 h2 h3=>?_
 exact ⟨_,_,rfl,h1,h2,h3⟩
theorem u9 {g:Heap} {k:Str} {es:List (Str × Value)} {kvs:List (Str × PyData)} (x:RdD g es kvs) :
  (∀ d,kvs.lookup k=some d→∃ v,valueAt es k=some v∧Rd g v d)∧(kvs.lookup k=none→valueAt es k=none):=by
 induction x with
 | nil=>exact ⟨fun d h=>(nomatch h),fun u_=>rfl⟩
 | @cons p q es kvs r _ ih =>
  obtain ⟨x,v⟩:=p
  obtain ⟨y,d0⟩:=q
  (refine oA r ?_;clear r;intro e r)
  have e:x=y:=e
  subst e
  refine a5 kq2 ?_
  unfold valueAt at ih ⊢
  refine a5 (kw0) ?_
  by_cases q:k=x
  ·subst q
   simp only [beq_self_eq_true,decide_true]
   exact ⟨fun d h=>by (injection h with i;subst i);exact ⟨v,rfl,r⟩,fun h=>by exact ns h⟩
  ·have q1:(k == x)=false:=by exact if_neg q
   have q2:decide (x=k)=false:=by simpa using fun h=>q h.symm
   refine a5 q1 ?_
   simp only [q2]
   exact ih
theorem jx0 {value slice:Expr} {d:V} {x:PyData} {kvs:List (Str × PyData)} {k:Str} {Q:VP} (D:DctV pG w hb H d kvs) (hx:kvs.lookup k=some x) (q:Q (.dat x) H)
  (hs:∀ l k u,subscripted slice false (.ref l) (.str k u)=operate [.ref l,.str k u] (getItem (.ref l) (.str k u)):=by intro _ _ _;with_unfolding_all rfl):Op pG w hb n X (RepV pG w) (G0 (subscriptTail value slice)) [d,.dat (.str k)] H Q:=by
 refine .grow fun A Z s vs R E rm y rl kk=>?_
 (refine a8 rl.inv2 ?_;rintro v u rfl r1 r2)
 (refine oE r2.str ?_;rintro t rfl)
 (refine oE (D Z s v y r1) ?_;intro a y;refine o4 y ?_;clear y;rintro es rfl h1 h2 h3)
 refine c9 ((u9 h2).1 x hx) fun xv hxv rx=>?_
 exact tail_any h1.typeIs slot_dict_getitem.lookup (wpAny_getItem_of (knd:=strKind pG w) (strKind_is ..) h1.mapOf hxv (kk (h':=s.heap) (Sub.refl _) (.dat rx) q)) (hs _ _ _)
theorem U9 {d:V} {kvs:List (Str × PyData)} {k:Str} {Q:VP} (D:DctV pG w hb H d kvs) (q:Q (.dat (.bool (kvs.lookup k).isSome)) H):Op pG w hb n X (RepV pG w) (G0 (compareOp .In)) [.dat (.str k),d] H Q:=by
 refine .grow fun A Z s vs R E rm y rl kk=>?_
 (refine a8 rl.inv2 ?_;rintro u v rfl r2 r1)
 (refine oE r2.str ?_;rintro t rfl)
 (refine oE (D Z s v y r1) ?_;intro a y;refine o4 y ?_;clear y;rintro es rfl h1 h2 h3)
 have e:(valueAt es k).isSome=(kvs.lookup k).isSome:=by
  generalize c:kvs.lookup k=y_;induction y_ using Qd with
  | none=>refine a5 ((u9 h2).2 c) ?_;rfl
  | some x=>refine c9 ((u9 h2).1 x c) fun v hv u_=>?_;refine a5 hv ?_;rfl
 exact wpAny_in_of (knd:=strKind pG w) (strKind_is ..) h3 h1.mapOf (by refine a5 e ?_;exact kk (h':=s.heap) (Sub.refl _) (m7 _) q)
theorem P9 {d:V} {kvs:List (Str × PyData)} {k:Str} {Q:VP} (D:DctV pG w hb H d kvs) (q:Q (.dat (.bool (!(kvs.lookup k).isSome))) H):Op pG w hb n X (RepV pG w) (G0 (compareOp .NotIn)) [.dat (.str k),d] H Q:=by
 refine .grow fun A Z s vs R E rm y rl kk=>?_
 (refine a8 rl.inv2 ?_;rintro u v rfl r2 r1)
 (refine oE r2.str ?_;rintro t rfl)
 (refine oE (D Z s v y r1) ?_;intro a y;refine o4 y ?_;clear y;rintro es rfl h1 h2 h3)
 have e:(valueAt es k).isSome=(kvs.lookup k).isSome:=by
  generalize c:kvs.lookup k=y_;induction y_ using Qd with
  | none=>refine a5 ((u9 h2).2 c) ?_;rfl
  | some x=>refine c9 ((u9 h2).1 x c) fun v hv u_=>?_;refine a5 hv ?_;rfl
 exact wpAny_notIn_of (knd:=strKind pG w) (strKind_is ..) h3 h1.mapOf (by refine a5 e ?_;exact kk (h':=s.heap) (Sub.refl _) (m7 _) q)
theorem U0 {g:Heap} {ys:List Str}:∀ {vs:List Value},RepL pG w g vs (ys.map fun y=>.dat (.str y))→StrsAre vs ys:=by
 induction ys with
 | nil=>exact fun {vs} r=>(show vs=[] from r.inv)▸.nil
 | cons y ys ih =>
  intro vs r
  (refine a8 r.inv ?_;rintro v us rfl r rs)
  (refine oE r.str ?_;rintro t rfl)
  exact .cons y t (ih rs)
theorem aq8 {d:V} {ys:List Str} {k:Str} {Q:VP} (S:Z9 pG w hb H d (ys.map fun y=>.dat (.str y))) (q:Q (.dat (.bool (ys.any (· == k)))) H):Op pG w hb n X (RepV pG w) (G0 (compareOp .In)) [.dat (.str k),d] H Q:=by
 refine .grow fun A Z s vs R E rm y rl kk=>?_
 (refine a8 rl.inv2 ?_;rintro u v rfl r2 r1)
 (refine oE r2.str ?_;rintro t rfl)
 (refine a8 (S Z s v y r1) ?_;rintro a vs rfl hL rs)
 have fin:=kk (h':=s.heap) (t:=s.toks) (Sub.refl _) (m7 _) q
 refine Qa hL (fun hL=>?_) fun hL=>?_
 ·exact in_list_strs (vs:=vs.toList) (by refine a5 lv9 ?_;exact hL) (U0 rs) fin
 ·exact in_tuple_strs hL (U0 rs) fin
noncomputable def ListV (pG:Program) (w:World) (hb:Heap) (H:HL) (d:V) (ds:List V):Prop :=
 ∀ Z s v,Sat pG w hb Z H s→RepV pG w (f7 s Z) v d→∃ a vs,v=.ref a∧s.heap.IsList a vs∧RepL pG w (f7 s Z) vs.toList ds
set_option tactic.hygienic true in
theorem l8 {xs:List PyData}:ListV pG w hb H (.dat (.list xs)) (xs.map .dat):=fun Z s v y r=>by
 replace r:Rd _ _ _:=r.inv
 refine oE r fun as r=>?_
 (refine k8 (rdi r) ?_;rintro a o vs m y;refine o4 y ?_;clear y;rintro as' rfl h1 h2 yy;refine oA yy ?_;clear yy;rintro h3 h4)
 exact ⟨a,vs,rfl,⟨o,(c7 h1).1,h2,_,h3⟩,.ofData (bw9 h4)⟩
theorem X9 {a:Addr} {xs:List PyData} (i:Nat) (e:H[i]?=some (a,.lst xs)):ListV pG w hb H (.ref a) (xs.map .dat):=fun Z s v y r=>by
 (replace r:=r.inv;subst r)
 refine y9 (y.own (a,.lst xs) (kz2 e)) fun vs m h1 h2=>?_
 exact ⟨a,vs,rfl,⟨_,h1,rfl,_,rfl⟩,.ofData h2⟩
theorem J5 {d:V} {ys:List Str} {k:Str} {Q:VP} (S:ListV pG w hb H d (ys.map fun y=>.dat (.str y))) (q:Q (.dat (.bool (!ys.any (· == k)))) H):Op pG w hb n X (RepV pG w) (G0 (compareOp .NotIn)) [.dat (.str k),d] H Q:=by
 refine .grow fun A Z s vs R E rm y rl kk=>?_
 (refine a8 rl.inv2 ?_;rintro u v rfl r2 r1)
 (refine oE r2.str ?_;rintro t rfl)
 (refine a8 (S Z s v y r1) ?_;rintro a vs rfl hL rs)
 exact notin_list_strs (vs:=vs.toList) (by refine a5 lv9 ?_;exact hL) (U0 rs) (kk (h':=s.heap) (t:=s.toks) (Sub.refl _) (m7 _) q)
inductive Dats:List V→List PyData→Prop
 | nil:Dats [] []
 | cons {x ds xs}:Dats ds xs→Dats (.dat x::ds) (x::xs)
theorem Dats.of (xs:List PyData):Dats (xs.map .dat) xs:=by
 induction xs with
 | nil=>exact .nil
 | cons _ _ ih=>exact .cons ih
theorem Dats.rd {g:Heap} {ds:List V} {xs:List PyData} (h:Dats ds xs):∀ {vs:List Value},RepL pG w g vs ds→RdL g vs xs:=by
 induction h with
 | nil=>exact fun {vs} r=>(show vs=[] from r.inv)▸.nil
 | cons _ ih=>exact fun {vs} r=>a8 r.inv fun v us e r rs=>e▸.cons r.inv (ih rs)
theorem Dats.length {ds:List V} {xs:List PyData} (h:Dats ds xs):ds.length=xs.length:=by induction h with | nil=>rfl | cons _ ih=>exact congrArg _ ih
theorem T8 {h:Heap} (x:Sat pG w hb Z H s) (k:Sub s.heap h):h.objs.size∉Z:=fun m=>by
 refine oE (x.zlt _ m) fun o e=>?_
 exact a7 (k _ _ e) (Qf (jw4 _))
theorem Y3 {h:Heap} {o:Obj} {t:Nat} (x:Sat pG w hb Z H s) (k:Sub s.heap h) (hf:o.isFreed=false):(f7 { s with heap:=h.push o,toks:=t } Z).get? h.objs.size=some o :=
 k9 (Qc _ hf) (T8 x k)
theorem F4 {h:Heap} {vs:Array Value} {xs:List PyData} {t:Nat} (x:Sat pG w hb Z H s) (k:Sub s.heap h) (r:RdL (f7 s Z) vs.toList xs):RepV pG w (f7 { s with heap:=h.push { cls:=.type "tuple",data:=.seq vs },toks:=t } Z) (.ref h.objs.size) (.dat (.tuple xs)):=by
 refine oE (aw1 (r.mono (G8 (t:=t) (h':=h.push { cls:=.type "tuple",data:=.seq vs }) fun b o e=>Qb _ (k b o e)))) fun as r=>?_
 exact .dat ⟨_,.tuple (Y3 x k rfl) rfl rfl r⟩
theorem N8 {h:Heap} {vs:Array Value} {xs:List PyData} {t:Nat} (x:Sat pG w hb Z H s) (k:Sub s.heap h) (r:RdL (f7 s Z) vs.toList xs):RepV pG w (f7 { s with heap:=h.push { cls:=.type "list",data:=.seq vs },toks:=t } Z) (.ref h.objs.size) (.dat (.list xs)):=by
 refine oE (aw1 (r.mono (G8 (t:=t) (h':=h.push { cls:=.type "list",data:=.seq vs }) fun b o e=>Qb _ (k b o e)))) fun as r=>?_
 exact .dat ⟨_,.list (Y3 x k rfl) rfl rfl r⟩
theorem t0 {h:Heap} (k:Sub s.heap h) (o:Obj):Sub s.heap (h.push o):=fun b o' e=>Qb _ (k b o' e)
theorem ck3 {ds:List V} {xs:List PyData} {Q:VP} (hd:Dats ds xs) (hl:xs.length≤1000000) (q:Q (.dat (.tuple xs)) H):Op pG w hb n X (RepV pG w) newTuple ds H Q:=by
 refine .grow fun A Z s vs R E rm y rl k=>?_
 refine mk5 (k (t0 (Sub.refl _) _) (F4 (vs:=vs.toArray) (t:=s.toks) y (Sub.refl _) (hd.rd rl)) q) ?_
 have:=rl.length
 have e:=hd.length
 have:sizeLine=16777216:=by rfl
 lia
theorem ew2 {ds:List V} {Q:VP} (hl:ds.length≤1000000) (q:Q (.tup ds) H):Op pG w hb n X (RepV pG w) newTuple ds H Q:=by
 refine .grow fun A Z s vs R E rm y rl k=>?_
 refine mk5 (k (t0 (Sub.refl _) _) (.tup (Y3 y (Sub.refl _) rfl) rfl rfl (rl.mono (G8 (t:=s.toks) (t0 (Sub.refl _) _)))) q) ?_
 have:=rl.length
 have:sizeLine=16777216:=by rfl
 lia
theorem dz8 {ds:List V} {xs:List PyData} {Q:VP} (hd:Dats ds xs) (hl:xs.length≤1000000) (q:Q (.dat (.list xs)) H):Op pG w hb n X (RepV pG w) newList ds H Q:=by
 refine .grow fun A Z s vs R E rm y rl k=>?_
 refine lj0 (k (t0 (Sub.refl _) _) (N8 (vs:=vs.toArray) (t:=s.toks) y (Sub.refl _) (hd.rd rl)) q) ?_
 have:=rl.length
 have e:=hd.length
 have:sizeLine=16777216:=by rfl
 lia
theorem Op.make {f:List Value→Sem Value} {ds:List V} {Q:VP} (o:O)
  (x:∀ A Z s vs (R:Value→Shared→Prop) (E:Value→Shared→Prop),Room A n→Sat pG w hb Z H s→RepL pG w (f7 s Z) vs ds →
   (∀ {a h' t},Sub s.heap h'→(∀ b∈o.foot a,s.heap.get? b=none∧∃ ob,h'.get? b=some ob)→(o.foot a).Nodup→(∀ g,Sub (f7 s Z) g→RepO pG w g h' a o)→R (.ref a) { s with heap:=h',toks:=t })→wpAny (model pG w) A (f vs) R E s)
  (q:∀ a,Q (.ref a) ((a,o)::H)):Op pG w hb n X (RepV pG w) f ds H Q:=by
 intro A Z s vs R E rm fm y rl k
 refine x A Z s vs R E rm y rl fun {a h' t} ks hf nd ro=>?_
 refine J7 (y.growHide (h':=h') (t:=t) (ys:=o.foot a) ks (fun b hb=>(hf b hb).1) (fun b hb=>(hf b hb).2)) fun y1 st u=>?_
 have nf:∀ b∈o.foot a,b∉foots H:=fun b hb q=>by
  refine oE (y.zlt b (y.sub b q)) fun ob e=>?_
  exact a7 e (hf b hb).1
 refine k.ok (H':=(a,o)::H) (Z':=o.foot a++Z) ⟨(st []).keep,(st []).hidden,(st []).unhid,fun b m=>?_,rfl⟩ ⟨y1.bs,y1.base,y1.zlt,fun b m=>?_,?_,fun p hp=>?_,y1.gens⟩ .ref (q a)
 ·refine Qa (jw1.mp (show b∈o.foot a++foots H from m)) (fun m=>?_) fun m=>?_
  ·exact .inr (hf b m).1
  ·exact .inl m
 ·refine Qa (jw1.mp (show b∈o.foot a++foots H from m)) (fun m=>?_) fun m=>?_
  ·exact jv8 _ m
  ·exact y1.sub b m
 ·refine (?_:(o.foot a++foots H).Nodup)
  exact kq9.mpr ⟨nd,y.nd,fun b hb c hc e=>nf b hb (e▸hc)⟩
 ·rcases jv6.mp hp with rfl | hp
  ·exact ro _ u
  ·exact y1.own p hp
theorem az5 {ds:List V} {xs:List PyData} {Q:VP} (hd:Dats ds xs) (hl:xs.length≤1000000) (q:∀ a,Q (.ref a) ((a,.lst xs)::H)):Op pG w hb n X (RepV pG w) newList ds H Q:=by
 refine .make (.lst xs) (fun A Z s vs R E rm y rl k=>?_) q
 refine lj0 (k (t:=s.toks) (t0 (Sub.refl _) _) (fun b hb=>?_) (by simp [O.foot]) fun g hg=>⟨vs.toArray,0,Qc _ rfl,(hd.rd rl).mono hg⟩) ?_
 ·refine a5 (show b=s.heap.objs.size from by simpa [O.foot] using hb) ?_
  exact ⟨Qf (jw4 _),_,Qc _ rfl⟩
 ·have:=rl.length
  have e:=hd.length
  have:sizeLine=16777216:=by rfl
  lia
theorem Sat.big (y:Sat pG w hb Z H s):(s.heap.objs.size == sysModules)=false:=by
 refine k8 y.bs.T fun pp loose mg mb T=>?_
 have:sysModules<s.heap.objs.size:=modules_low (T.keeps (y.base.trans (g6 s Z))).nolimit
 exact beq_false_of_ne (kj2 this)
theorem j7 {d:V} {ds:List V} {Q:VP} (S:Z9 pG w hb H d ds) (hl:ds.length<2 ^ 62) (q:Q (.dat (.int ds.length)) H):Op pG w hb n X (RepV pG w) (fun vs=>call (.builtin "len") vs) [d] H Q:=by
 refine .grow fun A Z s vs R E rm y rl k=>?_
 (refine c9 rl.inv1 ?_;rintro v rfl r1)
 (refine a8 (S Z s v y r1) ?_;rintro a vs rfl hL rs)
 have hlen:=rs.length
 rw [jw2] at hlen
 have fin:=k (h':=s.heap) (t:=s.toks+1+1) (v:=.int vs.size (s.toks+1)) (Sub.refl _) (by refine a5 hlen ?_;exact K7 _ _) q
 refine Qa hL (fun hL=>?_) fun hL=>?_
 ·exact PyProof.Rows.len_list hL (by lia) fin
 ·exact PyProof.Rows.len_tuple hL (by lia) fin
theorem hw2 {d:V} {kvs:List (Str × PyData)} {Q:VP} (D:DctV pG w hb H d kvs) (hl:kvs.length<2 ^ 62) (q:Q (.dat (.int kvs.length)) H):Op pG w hb n X (RepV pG w) (fun vs=>call (.builtin "len") vs) [d] H Q:=by
 refine .grow fun A Z s vs R E rm y rl k=>?_
 (refine c9 rl.inv1 ?_;rintro v rfl r1)
 (refine oE (D Z s v y r1) ?_;intro a y;refine o4 y ?_;clear y;rintro es rfl h1 h2 h3)
 have hlen:es.length=kvs.length:=h2.length
 exact call_len_dict h3 h1 (by lia) (k (h':=s.heap) (Sub.refl _) (by refine a5 hlen ?_;exact K7 _ _) q)
theorem jx2 {a:Int} {Q:VP} (q:Q (.dat (.int (if a<0 then -a else a))) H):Op pG w hb n X (RepV pG w) (fun vs=>call (.builtin "abs") vs) [.dat (.int a)] H Q:=by
 refine .grow fun A Z s vs R E rm y rl k=>?_
 (refine c9 rl.inv1 ?_;rintro v rfl r1)
 (refine oE r1.int ?_;rintro t rfl)
 exact call_abs_int fun u tk=>k (h':=s.heap) (Sub.refl _) (K7 _ _) q
theorem jq7 {a b:Int} {Q:VP} (q:Q (.dat (.int (if b<a then b else a))) H):Op pG w hb n X (RepV pG w) (fun vs=>call (.builtin "min") vs) [.dat (.int a),.dat (.int b)] H Q:=by
 refine .grow fun A Z s vs R E rm y rl k=>?_
 (refine a8 rl.inv2 ?_;rintro v u rfl r1 r2)
 (refine oE r1.int ?_;rintro t rfl)
 (refine oE r2.int ?_;rintro t' rfl)
 refine min_two_ints rm.handled fun h' tk hk=>k (h':=h') hk ?_ q
 split <;> exact K7 _ _
theorem r7 {b:Int} {Q:VP} (q:Q (.rng 0 b) H):Op pG w hb n X (RepV pG w) (fun vs=>call (.type "range") vs) [.dat (.int b)] H Q:=by
 refine .grow fun A Z s vs R E rm y rl k=>?_
 (refine c9 rl.inv1 ?_;rintro v rfl r1)
 (refine oE r1.int ?_;rintro t rfl)
 exact call_range_1 (k (t0 (Sub.refl _) _) (.rng (Y3 y (Sub.refl _) rfl)) q)
theorem bj7 {a b:Int} {Q:VP} (q:Q (.rng a b) H):Op pG w hb n X (RepV pG w) (fun vs=>call (.type "range") vs) [.dat (.int a),.dat (.int b)] H Q:=by
 refine .grow fun A Z s vs R E rm y rl k=>?_
 (refine a8 rl.inv2 ?_;rintro v u rfl r1 r2)
 (refine oE r1.int ?_;rintro t rfl)
 (refine oE r2.int ?_;rintro t' rfl)
 exact call_range_2 (k (t0 (Sub.refl _) _) (.rng (Y3 y (Sub.refl _) rfl)) q)
theorem r6 {d:V} {xs:List PyData} {Q:VP} (S:ListV pG w hb H d (xs.map .dat)) (hl:xs.length≤1000000) (q:Q (.dat (.tuple xs)) H):Op pG w hb n X (RepV pG w) (fun vs=>call (.type "tuple") vs) [d] H Q:=by
 refine .grow fun A Z s vs R E rm y rl k=>?_
 (refine c9 rl.inv1 ?_;rintro v rfl r1)
 (refine a8 (S Z s v y r1) ?_;rintro a vs rfl hL rs)
 have hlen:=rs.length
 rw [jw2,jv1] at hlen
 have:sizeLine=16777216:=by rfl
 refine call_tuple_list hL (fun h' hk=>?_) (by exact i5 [_,_] 1 zA zB 1 zB (.num 1000000) zA (.num 16777216) tT (o7 hlen) hl)
 exact k (t0 hk _) (F4 (t:=s.toks) y hk ((Dats.of xs).rd rs)) q
theorem ev8 {xs:List PyData} {Q:VP} (q:Q (.dat (.tuple xs)) H):Op pG w hb n X (RepV pG w) (fun vs=>call (.type "tuple") vs) [.dat (.tuple xs)] H Q:=by
 refine .grow fun A Z s vs R E rm y rl k=>?_
 (refine c9 rl.inv1 ?_;rintro v rfl r1)
 (refine a8 (s6 r1 rfl) ?_;rintro a vs rfl it rs)
 exact call_tuple_same (j2 (g6 s Z) it) (k (h':=s.heap) (t:=s.toks) (Sub.refl _) r1 q)
theorem az8 {d:V} {xs:List PyData} (S:Z9 pG w hb H d (xs.map .dat)) (hl:xs.length≤1000000) {v:Value} (y:Sat pG w hb Z H s) (r1:RepV pG w (f7 s Z) v d) {R:Value→Shared→Prop} {E:Value→Shared→Prop}
  (k:∀ h' c' (vs:Array Value),Sub s.heap h'→h'.get? s.heap.objs.size=some ⟨.type "list",none,.seq vs c',#[]⟩→RdL (f7 s Z) vs.toList xs→R (.ref s.heap.objs.size) { s with heap:=h' }):wpAny (model pG w) A (call (.type "list") [v]) R E s:=by
 (refine a8 (S Z s v y r1) ?_;rintro a vs rfl hL rs)
 have hlen:=rs.length
 rw [jw2,jv1] at hlen
 have:sizeLine=16777216:=by rfl
 rcases hL with ⟨o,ho,hc,m,hd⟩ | ⟨o,ho,hc,m,hd⟩
 ·exact call_list_seq a (T:="list") (.inl rfl) ho hc hd (fun h' c' hk e=>k h' c' vs hk e ((Dats.of xs).rd rs)) (by exact i5 [_,_] 1 zA zB 1 zB (.num 1000000) zA (.num 16777216) tT (o7 hlen) hl)
 ·exact call_list_seq a (T:="tuple") (.inr rfl) ho hc hd (fun h' c' hk e=>k h' c' vs hk e ((Dats.of xs).rd rs)) (by exact i5 [_,_] 1 zA zB 1 zB (.num 1000000) zA (.num 16777216) tT (o7 hlen) hl)
theorem Q0 {d:V} {xs:List PyData} {Q:VP} (S:Z9 pG w hb H d (xs.map .dat)) (hl:xs.length≤1000000) (q:Q (.dat (.list xs)) H):Op pG w hb n X (RepV pG w) (fun vs=>call (.type "list") vs) [d] H Q:=by
 refine .grow fun A Z s vs R E rm y rl k=>?_
 (refine c9 rl.inv1 ?_;rintro v rfl r1)
 refine az8 S hl y r1 fun h' c' vs hk e rd=>?_
 refine oE (aw1 (rd.mono (G8 (t:=s.toks) hk))) fun as r=>?_
 exact k (t:=s.toks) hk (.dat ⟨_,.list (k9 e (T8 y (Sub.refl _))) rfl rfl r⟩) q
theorem ck4 {d:V} {xs:List PyData} {Q:VP} (S:Z9 pG w hb H d (xs.map .dat)) (hl:xs.length≤1000000) (q:∀ a,Q (.ref a) ((a,.lst xs)::H)):Op pG w hb n X (RepV pG w) (fun vs=>call (.type "list") vs) [d] H Q:=by
 refine .make (.lst xs) (fun A Z s vs R E rm y rl k=>?_) q
 (refine c9 rl.inv1 ?_;rintro v rfl r1)
 refine az8 S hl y r1 fun h' c' vs hk e rd=>k (t:=s.toks) hk (fun b hb=>?_) (by simp [O.foot]) fun g hg=>⟨vs,c',e,rd.mono hg⟩
 refine a5 (show b=s.heap.objs.size from by simpa [O.foot] using hb) ?_
 exact ⟨Qf (jw4 _),_,e⟩
theorem dq8 {α β:Type} {R:α→β→Prop} {l:List α}:∀ {m:List β},l.length=m.length→(∀ (i:Nat) a b,l[i]?=some a→m[i]?=some b→R a b)→All2 R l m:=by
 induction l with
 | nil =>
  intro m h _
  induction m using Qh with
  | nil=>exact .nil
  | cons b m=>exact absurd h (Nat.zero_ne_add_one _)
 | cons a l ih =>
  intro m h k
  induction m using Qh with
  | nil=>exact absurd h (kw7 _)
  | cons b m=>exact .cons (k 0 a b rfl rfl) (ih (Nat.succ.inj h) fun i a b ha hb=>k (i+1) a b ha hb)
set_option tactic.hygienic true in
theorem gx2 {lo hi:Int} {Q:VP} (h1:-1000000≤lo) (h2:lo≤1000000) (h3:-1000000≤hi) (h4:hi≤1000000) (q:Q (.dat (.list ((Qg (hi - lo).toNat).map fun (i:Nat)=>.int (lo+i)))) H) :
  Op pG w hb n X (RepV pG w) (fun vs=>call (.type "list") vs) [.rng lo hi] H Q:=by
 refine .grow fun A Z s vs R E rm y rl k=>?_
 (refine c9 rl.inv1 ?_;rintro v rfl r1)
 obtain ⟨r,t,u,v,rfl,hr⟩:=r1.inv
 refine oA (c7 hr) fun g1 nz=>?_
 have hs:Builtin.Range.rangeSize lo hi 1=(((hi - lo).toNat:Nat):Int):=by
  unfold Builtin.Range.rangeSize
  simp
  by_cases c:lo<hi
  ·refine a5 (if_pos c) ?_;exact (nj1 (lw4 (Int.le_of_lt c))).symm
  ·refine a5 (if_neg c) ?_;exact (nz4 (mv9 (lx8.mp c))).symm
 have hsm:Builtin.Range.small lo hi 1=true:=by
  unfold Builtin.Range.small
  refine a5 hs ?_
  unfold Builtin.Range.rangeFitsLong
  simp
  exact ⟨⟨⟨⟨kv0 (by decide) h1,kk8 h2 (by decide)⟩,kv0 (by decide) h3,kk8 h4 (by decide)⟩,kv0 (by decide) (nz5 ..),Int.max_lt.mpr ⟨kk8 (Int.sub_le_sub h4 h1) (by decide),by decide⟩⟩,.inr ⟨kv0 (by decide) h3,kk8 h4 (by decide)⟩⟩
 refine call_list_range rm.handled g1 hsm hs (by lia) fun h' tk acc' c' hk e it=>?_
 have rd:RdL (f7 { s with heap:=h',toks:=tk } Z) acc'.toList ((Qg (hi - lo).toNat).map fun (i:Nat)=>.int (lo+i)):=by
  refine dq8 (by refine a5 jw2 (a5 it.1 ?_);simp) fun i a b ha hb'=>?_
  rw [kq7] at ha
  (refine oE (it.2 i a ha) ?_;rintro t' rfl)
  simp only [jw7,kz0] at hb'
  (refine c9 hb' ?_;clear hb';rintro j hj rfl)
  refine oE (kk3.mp hj) fun hlt hj=>?_
  rw [List.getElem_range] at hj
  subst hj
  refine a5 (mz0 ..) ?_
  exact ⟨_,.int _ _⟩
 refine oE (aw1 rd) fun as r=>?_
 exact k (t:=tk) hk (.dat ⟨_,.list (k9 e (T8 y (Sub.refl _))) rfl rfl r⟩) q
theorem hw8 {d e:V} {xs ys:List PyData} {Q:VP} (S:ListV pG w hb H d (xs.map .dat)) (T:ListV pG w hb H e (ys.map .dat)) (hl:xs.length+ys.length≤1000000) (q:Q (.dat (.list (xs++ys))) H) :
  Op pG w hb n X (RepV pG w) (G0 (binaryOp .Add)) [d,e] H Q:=by
 refine .grow fun A Z s vs R E rm y rl k=>?_
 (refine a8 rl.inv2 ?_;rintro v u rfl r1 r2)
 (refine a8 (S Z s v y r1) ?_;rintro a vs rfl hL rs)
 (refine a8 (T Z s u y r2) ?_;rintro b us rfl hM ts)
 (refine oE (id hL) ?_;rintro ⟨cls,dd,data,sl⟩ y;refine oA y ?_;clear y;intro ho y;refine V7 y ?_;clear y;intro hc n hd)
 (refine oE (id hM) ?_;rintro ⟨cls2,dd2,data2,sl2⟩ y;refine oA y ?_;clear y;intro ho2 y;refine V7 y ?_;clear y;intro hc2 n2 hd2)
 simp only at hc hd hc2 hd2
 subst hc hd hc2 hd2
 have l1:=rs.length
 have l2:=ts.length
 rw [jw2,jv1] at l1 l2
 have:sizeLine=16777216:=by rfl
 refine concat_meets ⟨_,ho,rfl⟩ ⟨_,ho2,rfl⟩ noFill_list_add seq_list_add PySem.F.slot_list_add PySem.F.entry_list_add (PySem.F.args_list_add_2 _ _) (list_addW a b vs us n n2 dd dd2 sl sl2 (by exact T5 [_,_,_,_] 1 zA zB 1 zC zD 1 (.add zD zB) (.num 1000000) (.add zC zA) (.num 16777216) tT (o7 l2) (o7 l1) hl)) ⟨ho,ho2,?_⟩
 refine k (t0 (Sub.refl _) _) (N8 (t:=s.toks) y (Sub.refl _) ?_) q
 refine a5 lz7 ?_
 exact ((Dats.of xs).rd rs).append ((Dats.of ys).rd ts)
theorem hw6 {xs ys:List PyData} {Q:VP} (hl:xs.length+ys.length≤1000000) (q:Q (.dat (.tuple (xs++ys))) H) :
  Op pG w hb n X (RepV pG w) (G0 (binaryOp .Add)) [.dat (.tuple xs),.dat (.tuple ys)] H Q:=by
 refine .grow fun A Z s vs R E rm y rl k=>?_
 (refine a8 rl.inv2 ?_;rintro v u rfl r1 r2)
 (refine a8 (s6 r1 rfl) ?_;rintro a vs rfl it rs)
 (refine a8 (s6 r2 rfl) ?_;rintro b us rfl jt ts)
 have hL:=j2 (g6 s Z) it
 have hM:=j2 (g6 s Z) jt
 (refine oE (id hL) ?_;rintro ⟨cls,dd,data,sl⟩ y;refine oA y ?_;clear y;intro ho y;refine V7 y ?_;clear y;intro hc n hd)
 (refine oE (id hM) ?_;rintro ⟨cls2,dd2,data2,sl2⟩ y;refine oA y ?_;clear y;intro ho2 y;refine V7 y ?_;clear y;intro hc2 n2 hd2)
 simp only at hc hd hc2 hd2
 subst hc hd hc2 hd2
 have l1:=rs.length
 have l2:=ts.length
 rw [jw2,jv1] at l1 l2
 have:sizeLine=16777216:=by rfl
 by_cases e1:xs=[]
 ·subst e1
  refine concat_meets ⟨_,ho,rfl⟩ ⟨_,ho2,rfl⟩ noFill_tuple_add seq_tuple_add PySem.F.slot_tuple_add PySem.F.entry_tuple_add (PySem.F.args_tuple_add_2 _ _) (tuple_addW0 a b vs us n n2 dd dd2 sl sl2 ?_) ⟨ho,ho2,?_⟩
  ·exact decide_eq_true l1
  ·exact k (h':=s.heap) (t:=s.toks) (Sub.refl _) r2 q
 ·by_cases e2:ys=[]
  ·subst e2
   refine concat_meets ⟨_,ho,rfl⟩ ⟨_,ho2,rfl⟩ noFill_tuple_add seq_tuple_add PySem.F.slot_tuple_add PySem.F.entry_tuple_add (PySem.F.args_tuple_add_2 _ _) (tuple_addW1 a b vs us n n2 dd dd2 sl sl2 ?_ ?_) ⟨ho,ho2,?_⟩
   ·intro q
    have:vs.size=0:=by exact of_decide_eq_true q
    exact e1 (kj4.mp (by exact kq1 (i5 [_,_] 1 zA (.num 0) 1 zB zA zB (.num 0) tT (o7 this) (H6 l1)) (ln0 [_] (.num 0) zA tT)))
   ·exact decide_eq_true l2
   ·refine k (h':=s.heap) (t:=s.toks) (Sub.refl _) r1 (by simpa using q)
  ·refine concat_meets ⟨_,ho,rfl⟩ ⟨_,ho2,rfl⟩ noFill_tuple_add seq_tuple_add PySem.F.slot_tuple_add PySem.F.entry_tuple_add (PySem.F.args_tuple_add_2 _ _) (tuple_addW2 a b vs us n n2 dd dd2 sl sl2 ?_ ?_ (by exact T5 [_,_,_,_] 1 zA zB 1 zC zD 1 (.add zD zB) (.num 1000000) (.add zC zA) (.num 16777216) tT (o7 l2) (o7 l1) hl)) ⟨ho,ho2,?_⟩
   ·intro q
    have:vs.size=0:=by exact of_decide_eq_true q
    exact e1 (kj4.mp (by exact kq1 (i5 [_,_] 1 zA (.num 0) 1 zB zA zB (.num 0) tT (o7 this) (H6 l1)) (ln0 [_] (.num 0) zA tT)))
   ·intro q
    have:us.size=0:=by exact of_decide_eq_true q
    exact e2 (kj4.mp (by exact kq1 (i5 [_,_] 1 zA (.num 0) 1 zB zA zB (.num 0) tT (o7 this) (H6 l2)) (ln0 [_] (.num 0) zA tT)))
   ·refine k (t0 (Sub.refl _) _) (F4 (t:=s.toks) y (Sub.refl _) ?_) q
    refine a5 lz7 ?_
    exact ((Dats.of xs).rd rs).append ((Dats.of ys).rd ts)
theorem av2:∀ {H:HL} {i:Nat} {e:Addr × O},H[i]?=some e→∃ Ha Hb,H=Ha++e::Hb∧∀ e',H.set i e'=Ha++e'::Hb
 | [],i,e,h=>by exact nn h
 | x::H,0,e,h=>by simp at h;subst h;exact ⟨[],H,rfl,fun u_=>rfl⟩
 | x::H,i+1,e,h=>by
  refine y9 (av2 (H:=H) (i:=i) (by simpa using h)) fun Ha Hb h1 h2=>?_
  exact ⟨x::Ha,Hb,by refine a5 h1 ?_;rfl,fun e'=>by refine a5 (List.set_cons_succ ..) (a5 (h2 ..) ?_);rfl⟩
theorem Sat.setOwn {i:Nat} {a:Addr} {o o':O} {h':Heap} {t:Nat} (x:Sat pG w hb Z H s) (e:H[i]?=some (a,o)) (hf:o'.foot a=o.foot a)
  (k:∀ b ob,b∉o.foot a→s.heap.get? b=some ob→h'.get? b=some ob) (lv:∀ b∈o.foot a,∃ ob,h'.get? b=some ob) (ro:∀ g,Sub (f7 s Z) g→RepO pG w g h' a o') :
  Sat pG w hb Z (H.set i (a,o')) { s with heap:=h',toks:=t }∧Step [] Z H s Z (H.set i (a,o')) { s with heap:=h',toks:=t }:=by
 (refine y9 (av2 e) ?_;rintro Ha Hb rfl h2)
 refine a5 (h2 ..) ?_
 have ff:foots (Ha++(a,o')::Hb)=foots (Ha++(a,o)::Hb):=by simp [d8,foots,hf]
 have inZ:∀ b∈o.foot a,b∈Z:=fun b hb=>x.sub b (r9 (a:=a) (o:=o) (by exact jv7 _ jv0) hb)
 have hm:Sub (f7 s Z) (f7 { s with heap:=h',toks:=t } Z):=fun b ob e=>by
  refine oA (c7 e) fun e1 nz=>?_
  exact k9 (k b ob (fun q=>nz (inZ b q)) e1) nz
 refine ⟨⟨x.bs,x.base.trans hm,fun b m=>?_,fun b m=>x.sub b (ff▸m),by refine a5 ff ?_;exact x.nd,fun p hp=>?_,x.gens⟩,⟨fun b ob e u_ n2=>k b ob (fun q=>n2 (r9 (a:=a) (o:=o) (by exact jv7 _ jv0) q)) e,fun u_ m=>.inl m,fun u_ m=>.inl m,fun b m=>.inl (ff▸m),rfl⟩⟩
 ·by_cases q:b∈o.foot a
  ·exact lv b q
  ·refine oE (x.zlt b m) fun ob e=>?_
   exact ⟨ob,k b ob q e⟩
 ·have other:∀ p,p∈Ha++Hb→RepO pG w (f7 { s with heap:=h',toks:=t } Z) h' p.1 p.2:=fun p hp=>by
   obtain ⟨c,oc⟩:=p
   have hin:(c,oc)∈Ha++(a,o)::Hb:=by
    refine Qa (jw1.mp hp) (fun h=>?_) fun h=>?_
    ·exact jv8 _ h
    ·exact jv7 _ (jv3 _ h)
   refine (x.own _ hin).mono hm fun b hb' y e=>k b y (fun q=>?_) e
   exact V3 (e:=(a,o)) x.nd q (r9 hp hb')
  refine Qa (jw1.mp hp) (fun h=>?_) fun h=>?_
  ·exact other p (jv8 _ h)
  ·rcases jv6.mp h with rfl | h
   ·exact ro _ hm
   ·exact other p (jv7 _ h)
theorem Op.alter {α β:Type} {rel:Heap→α→β→Prop} {f:List Value→Sem α} {ds:List V} {Q:β→HL→Prop} {i:Nat} {a:Addr} {o:O} (o':O) (e:H[i]?=some (a,o)) (hf:o'.foot a=o.foot a)
  (x:∀ A Z s vs (R:α→Shared→Prop) (E:Value→Shared→Prop),Room A n→Sat pG w hb Z H s→RepL pG w (f7 s Z) vs ds→RepO pG w (f7 s Z) s.heap a o →
   (∀ {v h' t d},(∀ b ob,b∉o.foot a→s.heap.get? b=some ob→h'.get? b=some ob)→(∀ b∈o.foot a,∃ ob,h'.get? b=some ob)→(∀ g,Sub (f7 s Z) g→RepO pG w g h' a o') →
    rel (f7 { s with heap:=h',toks:=t } Z) v d→Q d (H.set i (a,o'))→R v { s with heap:=h',toks:=t })→wpAny (model pG w) A (f vs) R E s):Op pG w hb n X rel f ds H Q:=by
 intro A Z s vs R E rm fm y rl k
 refine x A Z s vs R E rm y rl (y.own (a,o) (kz2 e)) fun {v h' t d} kk lv ro r q=>?_
 refine oA (y.setOwn (t:=t) e hf kk lv ro) fun y' st=>?_
 exact k.ok st y' r q
theorem F6 {a:Addr} {h h':Heap} (hs:Heap.SameBut a h h'):∀ b ob,b∉[a]→h.get? b=some ob→h'.get? b=some ob:=fun b ob n e=>(hs.2 b (fun q=>n (by simp [q]))).trans e
theorem g5 {i:Nat} {a:Addr} {xs:List PyData} {x:PyData} {Q:VP} (e:H[i]?=some (a,.lst xs)) (hl:xs.length≤1000000) (q:Q (.dat .none) (H.set i (a,.lst (xs++[x])))) :
  Op pG w hb n X (RepV pG w) (fun vs=>call (.builtin "list.append") vs) [.ref a,.dat x] H Q:=by
 refine .alter (.lst (xs++[x])) e rfl fun A Z s vs R E rm y rl ro k=>?_
 (refine a8 rl.inv2 ?_;rintro v u rfl r1 r2)
 (replace r1:=r1.inv;subst r1)
 (refine y9 ro ?_;clear ro;intro vs m h1 h2)
 have hlen:=h2.length
 rw [jw2] at hlen
 have:sizeLine=16777216:=by rfl
 refine mw1 ⟨m,h1⟩ (fun h' ⟨m',e'⟩ hs=>?_) (by exact i5 [_,_] 1 zA zB 1 zB (.num 1000000) zA (.num 16777216) tT (o7 hlen) hl)
 refine k (t:=s.toks) (F6 hs) (fun b hb=>?_) (fun g hg=>⟨_,_,e',?_⟩) bw7 q
 ·refine a5 (show b=a from by simpa [O.foot] using hb) ?_
  exact ⟨_,e'⟩
 ·refine a5 lk1 ?_
  replace r2:Rd _ _ _:=r2.inv
  exact (h2.mono hg).append (.cons (r2.mono hg) .nil)
theorem X7 (f:Array Value→Array Value) (its:Array Value) (n:Nat):∃ m,Obj.mapSeq f { cls:=.type "list",data:=.seq its n }={ cls:=.type "list",data:=.seq (f its) m }:=⟨_,rfl⟩
theorem cq6 (l:Addr) (items:Array Value) (n:Nat) (b:Addr) (items2:Array Value) (n2:Nat) (dd2:Option Addr) (sl2:Array (Option Value)) (hc0:¬(!items.isEmpty&&Builtin.List.listTooLong (items.size+items2.size))=true) (hc1:items.size≤sizeLine) (hs2:items.size+items2.size≤sizeLine+1) :
  Meets (Builtin.«list.extend» ⟨[.ref l,.ref b],[]⟩) (fun u_ R s=>s.heap.get? l=some { cls:=.type "list",dict:=none,data:=.seq items n,slots:=#[] }∧s.heap.get? b=some { cls:=.type "list",dict:=dd2,data:=.seq items2 n2,slots:=sl2 }∧R (.ok (.ret Value.none)) { s with heap:=s.heap.update l (Obj.mapSeq fun x=>x++items2),toks:=s.toks }) :=
 .of_wp fun pG w A R s h=>by
  obtain ⟨hp,g,d,tk,os⟩:=s;(refine J7 h ?_;clear h;intro hl hb h);have f1:=AutoSeq1.idx_int;have f2:=AutoSeq1.sub_tuple_tuple;have f3:=AutoSeq1.sub_list_list;have f4:=AutoSeq1.sub_tuple_list;have f5:=AutoSeq1.sub_list_tuple;
  have hz':(items++items2).size≤sizeLine+1:=by refine a5 Array.size_append ?_;exact hs2
  wp_walk using (mk0 hl rfl (hz:=hc1) (_hz':=hz')),AutoSeq1.wpAny_loadPart' hl,AutoSeq1.wpAny_loadPart' hb;exact ⟨_,rfl,h⟩
theorem aq9 {i:Nat} {a:Addr} {xs ys:List PyData} {Q:VP} (e:H[i]?=some (a,.lst xs)) (hl:xs.length+ys.length≤1000000) (q:Q (.dat .none) (H.set i (a,.lst (xs++ys)))) :
  Op pG w hb n X (RepV pG w) (fun vs=>call (.builtin "list.extend") vs) [.ref a,.dat (.list ys)] H Q:=by
 refine .alter (.lst (xs++ys)) e rfl fun A Z s vs R E rm y rl ro k=>?_
 (refine a8 rl.inv2 ?_;rintro v u rfl r1 r2)
 (replace r1:=r1.inv;subst r1)
 (refine y9 ro ?_;clear ro;intro vs m h1 h2)
 have hlen:=h2.length
 rw [jw2] at hlen
 have:sizeLine=16777216:=by rfl
 (refine a8 (l8 Z s u y r2) ?_;rintro b us rfl hL rs)
 (refine oE (id hL) ?_;rintro ⟨cls2,dd2,data2,sl2⟩ y;refine oA y ?_;clear y;intro ho2 y;refine V7 y ?_;clear y;intro hc2 n2 hd2)
 simp only at hc2 hd2
 subst hc2 hd2
 have l2:=rs.length
 rw [jw2,jv1] at l2
 refine call_meets PySem.F.slot_list_extend ⟨_,h1,rfl⟩ PySem.F.entry_list_extend (PySem.F.args_list_extend_2 _ _) (cq6 a vs m b us n2 dd2 sl2 ?_ (by exact i5 [_,_,_] 1 zA zB 1 (.add zB zC) (.num 1000000) zA (.num 16777216) tT (o7 hlen) hl) (by exact T5 [_,_,_,_] 1 zA zB 1 zC zD 1 (.add zD zB) (.num 1000000) (.add zC zA) (.num 16777217) tT (o7 l2) (o7 hlen) hl)) ⟨h1,ho2,?_⟩
 ·unfold Builtin.List.listTooLong
  simp
  intro _
  exact T5 [_,_,_,_] 1 zA zB 1 zC zD 1 (.add zD zB) (.num 1000000) (.add zC zA) (.num 16777216) tT (o7 l2) (o7 hlen) hl
 ·have e':=Qj (Obj.mapSeq fun x=>x++us) h1 rfl
  refine oE (X7 (fun x=>x++us) vs m) fun m' em=>?_
  rw [em] at e'
  refine k (t:=s.toks) (F6 (Heap.SameBut.update ..)) (fun b hb=>?_) (fun g hg=>⟨vs++us,_,e',?_⟩) bw7 q
  ·refine a5 (show b=a from by simpa [O.foot] using hb) ?_
   exact ⟨_,e'⟩
  ·refine a5 lz7 ?_
   exact (h2.mono hg).append (((Dats.of ys).rd rs).mono hg)
theorem T4 {α β:Type} (f:α→β):∀ (l:List α) (j:Nat),(l.eraseIdx j).map f=(l.map f).eraseIdx j
 | [],_=>rfl
 | _::_,0=>rfl
 | a::l,j+1=>by simp [T4 f l j]
theorem All2.eraseIdx {α β:Type} {R:α→β→Prop} {l:List α} {m:List β} (h:All2 R l m):∀ j,All2 R (l.eraseIdx j) (m.eraseIdx j):=by
 induction h with
 | nil=>exact fun u_=>.nil
 | cons r t ih =>
  intro j
  induction j using Nat.casesOn with
  | zero=>exact t
  | succ j=>exact .cons r (ih j)
theorem ew0 {i:Nat} {a:Addr} {ys:List Str} {x:Str} {Q:VP} (e:H[i]?=some (a,.lst (ys.map .str))) (hl:ys.length≤1000000) (hx:x∈ys) (q:Q (.dat .none) (H.set i (a,.lst ((ys.erase x).map .str)))) :
  Op pG w hb n X (RepV pG w) (fun vs=>call (.builtin "list.remove") vs) [.ref a,.dat (.str x)] H Q:=by
 refine .alter (.lst ((ys.erase x).map .str)) e rfl fun A Z s vs R E rm y rl ro k=>?_
 (refine a8 rl.inv2 ?_;rintro v u rfl r1 r2)
 (replace r1:=r1.inv;subst r1)
 (refine oE r2.str ?_;rintro t rfl)
 (refine y9 ro ?_;clear ro;intro vs m h1 h2)
 have hlen:=h2.length
 rw [jw2,jv1] at hlen
 have:sizeLine=16777216:=by rfl
 obtain ⟨j,hj,hjx,hno⟩:∃ j,∃ hj:j<ys.length,ys[j]=x∧∀ m (hm:m<ys.length),m<j→ys[m]≠x:=by
  refine ⟨ys.findIdx (· == x),mq9 ⟨x,hx,by exact if_pos rfl⟩,?_,fun m hm hlt=>?_⟩
  ·have:=List.findIdx_getElem (xs:=ys) (p:=(· == x)) (w:=mq9 ⟨x,hx,by exact if_pos rfl⟩)
   exact of_decide_eq_true this
  ·have:=List.not_of_lt_findIdx hlt
   simpa using this
 have at_:∀ (j:Nat) (hj:j<ys.length),∃ t',vs[j]?=some (.str ys[j] t'):=fun j hj=>by
  refine c9 (h2.get (i:=j) (b:=.str ys[j]) (by simp [hj])) fun v hv r=>?_
  rw [kq7] at hv
  exact oE r fun as r=>oE (rdi r) fun t e=>⟨t,e▸hv⟩
 let eq:Value→Bool:=fun y=>match y with
  | .str z _=>z.cps.toList == x.cps.toList
  | _=>false
 have isS:∀ (j:Nat) (hj:j<ys.length) (hv:j<vs.size),eq vs[j]=(ys[j].cps.toList == x.cps.toList):=fun j hj hv=>by
  refine oE (at_ j hj) fun t' h=>?_
  rw [kx4 hv] at h
  exact a5 (Qm h) rfl
 have cpsE:∀ a b:Str,(a.cps.toList == b.cps.toList)=(a == b):=fun a b=>by
  rw [lv5,beq_iff_eq,beq_iff_eq]
  constructor
  ·intro h
   obtain ⟨⟨a⟩⟩:=a
   obtain ⟨⟨b⟩⟩:=b
   subst h
   rfl
  ·intro h;exact a5 h rfl
 refine call_meets PySem.F.slot_list_remove ⟨_,h1,rfl⟩ PySem.F.entry_list_remove (PySem.F.args_list_remove_2 _ _)
  (MeetsSeq.list_remove a vs m (.str x t) eq (fun y hy=>?_) j (by lia) (by rw [isS j hj,hjx];simp) (fun i hi hlt=>?_) (by lia)) ⟨h1,?_⟩
 ·(refine oE (Array.mem_iff_getElem.mp hy) ?_;intro i y;refine oE y ?_;clear y;rintro hi rfl)
  refine oE (at_ i (by exact i5 [_,_,_] 1 (.add zA nA) zB 1 zB zC (.add zA nA) zC tT hi (o7 hlen))) fun t' h=>?_
  rw [kx4 hi] at h
  refine a5 (isS i (by lia) hi) (a5 (Qm h) ?_)
  exact SeqRoads2.EqGives.str _ _ _ _
 ·refine a5 ((isS i (by lia) hi) ..) (a5 (cpsE ..) ?_)
  simpa using hno i (by lia) hlt
 ·have e':=Qj (Obj.mapSeq fun xs=>xs.eraseIdxIfInBounds j) h1 rfl
  refine oE (X7 (fun xs=>xs.eraseIdxIfInBounds j) vs m) fun m' em=>?_
  rw [em] at e'
  refine k (t:=s.toks) (F6 (Heap.SameBut.update ..)) (fun b hb=>?_) (fun g hg=>⟨_,_,e',?_⟩) bw7 q
  ·refine a5 (show b=a from by simpa [O.foot] using hb) ?_
   exact ⟨_,e'⟩
  ·have er:ys.erase x=ys.eraseIdx j:=by
    refine a5 (List.erase_eq_eraseIdx ..) ?_
    have:ys.idxOf? x=some j:=by
     rw [List.idxOf?,mq7]
     exact ⟨hj,by simpa using hjx,fun m hlt=>by simpa using hno m (by lia) hlt⟩
    exact a5 this rfl
   have ev:(vs.eraseIdxIfInBounds j).toList=vs.toList.eraseIdx j:=by
    unfold Array.eraseIdxIfInBounds
    refine a5 (dif_pos (by lia)) ?_
    simp
   refine a5 (er ..) (a5 (ev ..) (a5 (T4 ..) ?_))
   exact (h2.mono hg).eraseIdx j
theorem hv0 {o:Expr} {attr:Str} {pos:Pos} {d:V} {Q:c8→HL→Prop}
  (h:TE pG w hb sc n X ρ o H fun a H1=>Op pG w hb n X (fun _ (_:Unit) (_:Unit)=>True) (G0 fun o v=>setAttr o attr v) [a,d] H1 fun u_ H2=>Q ρ H2):TA pG w hb sc n X ρ (.Attribute o attr pos) d H Q:=by
 intro env A Z s v R E p r ex k
 refine a5 (assign_Attribute ..) ?_
 refine jk9 (kx6 (h.run p ex fun {ov s1 Z1 a ρ1 H1} s1' p1 ex1 u1 r1 q1=>?_))
 (refine oA q1 ?_;clear q1;rintro rfl q1)
 refine jk9 (kv7 (jk9 (kx6 ?_)))
 exact Op.run (f:=G0 fun o v=>setAttr o attr v) q1 p1 (.cons r1 (.cons (r.mono u1) .nil)) ex1 fun s2 p2 ex2 u2 r2 q2=>wpAny_release (k (p.tr p1 s1' s2) p2 ex2 (u1.trans u2) q2)
theorem iw9 {o i:Expr} {pos:Pos} {d:V} {Q:c8→HL→Prop}
  (h:TE pG w hb sc n X ρ o H fun a H1=>TE pG w hb sc n X ρ i H1 fun b H2=>Op pG w hb n X (fun _ (_:Unit) (_:Unit)=>True) (op3 fun o k v=>setItem o k v) [a,b,d] H2 fun u_ H3=>Q ρ H3):TA pG w hb sc n X ρ (.Subscript o i pos) d H Q:=by
 intro env A Z s v R E p r ex k
 refine a5 (assign_Subscript ..) ?_
 refine jk9 (kx6 (h.run p ex fun {ov s1 Z1 a ρ1 H1} s1' p1 ex1 u1 r1 q1=>?_))
 (refine oA q1 ?_;clear q1;rintro rfl q1)
 refine jk9 (kx6 (q1.run p1 ex1 fun {iv s2 Z2 b ρ2 H2} s2' p2 ex2 u2 r2 q2=>?_))
 (refine oA q2 ?_;clear q2;rintro rfl q2)
 refine jk9 (kv7 (jk9 (kx6 ?_)))
 exact Op.run (f:=op3 fun o k v=>setItem o k v) q2 p2 (.cons (r1.mono u2) (.cons r2 (.cons (r.mono (u1.trans u2)) .nil))) ex2 fun s3 p3 ex3 u3 r3 q3 =>
  wpAny_release (k (p.tr p2 (p.tr p1 s1' s2') s3) p3 ex3 (u1.trans (u2.trans u3)) q3)
noncomputable def X3 (k:Str) (x:PyData):List (Str × PyData)→List (Str × PyData)
 | []=>[(k,x)]
 | (y,v)::r=>if y=k then (y,x)::r else (y,v)::X3 k x r
set_option tactic.hygienic true in
theorem bj5 {g:Heap} {k:Str} {v:Value} {x:PyData} (r:Rd g v x) {es:List (Str × Value)} {kvs:List (Str × PyData)} (h:RdD g es kvs) (nd:(es.map (·.1)).Nodup):RdD g (stored es k v) (X3 k x kvs):=by
 have key:∀ {es:List (Str × Value)} {kvs:List (Str × PyData)},RdD g es kvs→(es.map (·.1)).Nodup →
   RdD g (if es.any (fun kv=>kv.1=k) then es.map (fun kv=>if kv.1=k then (kv.1,v) else kv) else es++[(k,v)]) (X3 k x kvs):=by
  intro es kvs h nd
  induction h with
  | nil=>exact .cons ⟨rfl,r⟩ .nil
  | @cons a b l m ab t ih =>
   obtain ⟨ak,av⟩:=a
   obtain ⟨bk,bv⟩:=b
   (refine oA ab ?_;clear ab;intro e r0)
   have e:ak=bk:=e
   subst e
   rw [kx1,kq6] at nd
   by_cases q:ak=k
   ·subst q
    have hno:∀ p∈l,p.1≠ak:=fun p hp e=>nd.1 (e▸jw3 (f:=(·.1)) hp)
    have hm:l.map (fun kv=>if kv.1=ak then (kv.1,v) else kv)=l:=by
     conv=>rhs;rw [← List.map_id l]
     exact lz9 fun p hp=>by simp [hno p hp]
    dsimp only [X3];simp only [mj8,decide_true,Bool.true_or,if_true,kx1,hm]
    exact .cons ⟨rfl,r⟩ t
   ·have ih:=ih nd.2
    dsimp only [X3];simp only [mj8,q,decide_false,lx4,kx1,if_false]
    split
    ·rename_i hc
     rw [if_pos hc] at ih
     exact .cons ⟨rfl,r0⟩ ih
    ·rename_i hc
     rw [if_neg hc] at ih
     exact .cons ⟨rfl,r0⟩ ih
 exact key h nd
theorem u6 {i:Nat} {a:Addr} {kvs:List (Str × PyData)} {k:Str} {x:PyData} {Q:Unit→HL→Prop} (e:H[i]?=some (a,.dct kvs)) (hl:kvs.length≤1000000) (q:Q () (H.set i (a,.dct (X3 k x kvs)))) :
  Op pG w hb n X (fun _ (_:Unit) (_:Unit)=>True) (op3 fun o k v=>setItem o k v) [.ref a,.dat (.str k),.dat x] H Q:=by
 refine .alter (.dct (X3 k x kvs)) e rfl fun A Z s vs R E rm y rl ro kk=>?_
 (refine oE rl.inv3 ?_;intro v y;refine oE y ?_;clear y;intro u y;refine o4 y ?_;clear y;rintro z rfl r1 r2 r3)
 (replace r1:=r1.inv;subst r1)
 (refine oE r2.str ?_;rintro t rfl)
 (refine o9 ro ?_;clear ro;intro es h1 h2 h3)
 have nd:(es.map (·.1)).Nodup:=oE h1 fun _ h=>oE h fun _ h=>oE h fun _ h=>h.2.2.2.2.2
 have hlen:es.length=kvs.length:=h2.length
 have:sizeLine=16777216:=by rfl
 replace r3:Rd _ _ _:=r3.inv
 refine wpAny_setItem_pairs (knd:=strKind pG w) (k:=k) (strKind_is ..) h1 (fun h' hd hs=>?_) (by exact i5 [_,_] 1 zA zB 1 zB (.num 1000000) zA (.num 16777216) tT (o7 hlen) hl)
 refine kk (F6 hs) (fun b hb=>?_) (fun g hg=>⟨_,hd,bj5 (r3.mono hg) (RdD.mono hg h2) nd,h3⟩) trivial q
 refine a5 (show b=a from by simpa [O.foot] using hb) ?_
 (refine w5 hd ?_;clear hd;intro o _ _ ho _)
 exact ⟨o,ho⟩
theorem dz7 {i:Nat} {a C dx:Addr} {fs:List (Str × V)} {name:Str} {d:V} {Q:Unit→HL→Prop} (e:H[i]?=some (a,.inst C dx fs)) (hl:fs.length≤100) (hn:L0 d=true)
  (hs:findIn (KK w) (.ref C) "__setattr__"=some (some (.builtin "object.__setattr__"))) (hp:plainOver (KK w) C=true) (ht:takerIn (KK w) C name=some none)
  (hh:hasDictIn (KK w) C=true) (q:Q () (H.set i (a,.inst C dx (ev2 name d fs)))) :
  Op pG w hb n X (fun _ (_:Unit) (_:Unit)=>True) (G0 fun o v=>setAttr o name v) [.ref a,d] H Q:=by
 refine .alter (.inst C dx (ev2 name d fs)) e rfl fun A Z s vs R E rm y rl ro kk=>?_
 (refine a8 rl.inv2 ?_;rintro v u rfl r1 r2)
 (replace r1:=r1.inv;subst r1)
 (refine oA ro ?_;clear ro;intro h1 y;refine y9 y ?_;clear y;intro es m h2 h3)
 have hlen:=h3.length
 rw [jw2] at hlen
 have hl':(getL name es.toList).isSome=true:=by
  generalize c:fs.lookup name=y_;induction y_ using Qd with
  | none=>refine a5 ((P6 h3).2 c) ?_;rfl
  | some x=>refine c9 ((P6 h3).1 x c) fun v hv u_=>?_;refine a5 hv ?_;rfl
 have nd:a≠dx:=by
  (refine y9 (av2 e) ?_;rintro Ha Hb rfl _)
  have:=y.nd
  rw [d8] at this
  have:=(kq9.mp this).2.1
  intro q
  subst q
  simp [foots,O.foot] at this
 refine bw5 y.K h1 h2 hs hp ht hh hl' (by exact i5 [_,_] 1 zA zB 1 zB (.num 100) zA (.num 900) tT (o7 hlen) hl) fun h' t tk hsh sb e'=>?_
 refine kk (t:=t) (fun b ob n e=>(sb.2 b (fun q=>n (by simp [O.foot,q]))).trans e) (fun b hb=>?_) (fun g hg=>⟨(sb.2 a nd).trans h1,_,_,e',fw9 (r2.mono hg) (RepF.mono hg h3)⟩) trivial q
 rcases jv6.mp (show b∈[a,dx] from hb) with rfl | hb
 ·exact ⟨_,(sb.2 b nd).trans h1⟩
 ·refine a5 (jv4.mp hb) ?_;exact ⟨_,e'⟩
theorem fv2 {pos:Pos} {Q:VP} (q:∀ a,Q (.ref a) ((a,.dct [])::H)):TE pG w hb sc n X ρ (.Dict [] [] pos) H Q:=by
 refine .intro fun env A Z s R E p ex k=>?_
 have o:Op pG w hb n X (RepV pG w) (fun u_=>(alloc { cls:=.type "dict",data:=.dict #[] } >>= fun a=>pure (Value.ref a):Sem Value)) [] H Q:=by
  refine .make (.dct []) (fun A Z s vs R E rm y rl k=>?_) q
  refine jk9 (nx8 (jv5 (k (t:=s.toks) (t0 (Sub.refl _) _) (fun b hb=>?_) (by simp [O.foot]) fun g hg=>⟨[],Heap.DictOf.new _,.nil,y.big⟩)))
  refine a5 (show b=s.heap.objs.size from by simpa [O.foot] using hb) ?_
  exact ⟨Qf (jw4 _),_,Qc _ rfl⟩
 refine a5 (eval_Dict_empty ..) ?_
 simp only [newDict,newObj]
 exact jk9 (kv7 (o.run p .nil ex fun s2 p2 ex2 u2 r2 q2=>k s2 p2 r2 ⟨rfl,q2⟩))
theorem fv1 {k1 k2:Str} {kk1 kk2:Nat} {pos1 pos2 pos:Pos} {e1 e2:Expr} {Q:VP} (hne:k1≠k2)
  (h:TE pG w hb sc n X ρ e1 H fun a H1=>∃ x,a=.dat x∧TE pG w hb sc n X ρ e2 H1 fun b H2=>∃ y,b=.dat y∧∀ D,Q (.ref D) ((D,.dct [(k1,x),(k2,y)])::H2)) :
  TE pG w hb sc n X ρ (.Dict [some (.Constant (.str k1) kk1 pos1),some (.Constant (.str k2) kk2 pos2)] [e1,e2] pos) H Q:=by
 refine .intro fun env A Z s R E p ex k=>?_
 refine wpAny_Dict_walk (knd:=strKind pG w) rfl rfl (by simp) (by exact (jv2 tT)) ?_
 generalize hD:s.heap.objs.size=D
 have nD:s.heap.get? D=none:=Qf (kj3 hD)
 have eD:(s.heap.push { cls:=.type "dict",data:=.dict #[] }).get? D=some { cls:=.type "dict",data:=.dict #[] }:=by refine p8 hD ?_;exact Qc _ rfl
 have bD:(D == sysModules)=false:=by refine p8 hD ?_;exact p.sat.toSat.big
 refine J7 (p.sat.growHide (h':=s.heap.push { cls:=.type "dict",data:=.dict #[] }) (t:=s.toks) (ys:=[D]) (t7 _ _) (fun a ha=>by refine a5 (jv4.mp ha) ?_;exact nD) (fun a ha=>by refine a5 (jv4.mp ha) ?_;exact ⟨_,eD⟩)) fun y0 st0 u0=>?_
 have p0:=p.step st0 y0
 have ex0:=ex.step p.sat.toSat st0 y0.toSat
 have nH:D∉foots H:=fun q=>by refine oE (p.sat.zlt D (p.sat.sub D q)) fun o e=>?_;exact a7 e nD
 have nO:D∉own env:=fun q=>by refine oE (p.sat.live D q) fun o e=>?_;exact a7 e nD
 refine pairTrees_cons_walk (mx7 ?_)
 have p1:=p0.tok (s.toks+1)
 have ex1:=ex0.step p0.sat.toSat (.tok _ _ _ _ (s.toks+1)) p1.sat.toSat
 refine h.run p1 ex1 fun {v1 s2 Z2 a ρ2 H2} s2' p2 ex2 u2 r2 q2=>?_
 (refine oA q2 ?_;clear q2;rintro rfl y;refine c9 y ?_;clear y;rintro x rfl q2)
 refine pairTrees_cons_walk (mx7 ?_)
 have p3:=p2.tok (s2.toks+1)
 have ex3:=ex2.step p2.sat.toSat (.tok _ _ _ _ (s2.toks+1)) p3.sat.toSat
 refine q2.run p3 ex3 fun {v2 s4 Z4 b ρ4 H4} s4' p4 ex4 u4 r4 q4=>?_
 (refine oA q4 ?_;clear q4;rintro rfl y;refine c9 y ?_;clear y;rintro yv rfl q4)
 refine pairTrees_nil_walk ?_
 have stA:=p.tr p0 st0 (.tok _ _ _ _ (s.toks+1))
 have stB:=p.tr p1 stA s2'
 have stC:=p.tr p2 stB (.tok _ _ _ _ (s2.toks+1))
 have stD:=p.tr p3 stC s4'
 have tok1:Step (own env) ([D]++Z) H { s with heap:=s.heap.push { cls:=.type "dict",data:=.dict #[] },toks:=s.toks } Z4 H4 s4 :=
  p0.tr p3 (p0.tr p2 (p0.tr p1 (.tok _ _ _ _ (s.toks+1)) s2') (.tok _ _ _ _ (s2.toks+1))) s4'
 have zD:D∈Z4:=by
  refine Qa (tok1.unhid D (by exact jv0)) (fun q=>?_) fun q=>?_
  ·exact q
  ·exact absurd q nH
 have kD:=tok1.keep D _ eD nO nH
 have nH4:D∉foots H4:=fun q=>by
  refine Qa (tok1.feet D q) (fun q=>?_) fun q=>?_
  ·exact nH q
  ·exact a7 eD q
 replace r2:Rd _ _ _:=r2.inv
 replace r4:Rd _ _ _:=r4.inv
 refine ⟨[(k1,v1),(k2,v2)],⟨strKind_is ..,rfl,strKind_is ..,rfl,trivial⟩,⟨_,#[],0,kD,⟨rfl,rfl,rfl⟩,rfl,fun u_ he=>by simp at he,.nil,kk9⟩,fun h' hd hs=>?_⟩
 have em:merged [] [(k1,v1),(k2,v2)]=[(k1,v1),(k2,v2)]:=by
  refine (?_:stored (stored [] k1 v1) k2 v2=_)
  unfold stored
  simp [hne]
 rw [em] at hd
 have hk:∀ b o,b≠D→s4.heap.get? b=some o→h'.get? b=some o:=fun b o n e=>(hs.2 b n).trans e
 refine w5 (id hd) fun o' u_ u_ ho' u_=>?_
 refine oA (p4.sat.chg (t:=s4.toks+2) nO nH4 zD hk ⟨o',ho'⟩) fun y5 u5=>?_
 have st5:Step (own env) Z H s Z4 H4 { s4 with heap:=h',toks:=s4.toks+2 } :=
  ⟨fun b o e n1 n2=>hk b o (fun q=>by (replace q:=q.symm;subst q);exact a7 e nD) (stD.keep b o e n1 n2),stD.hidden,stD.unhid,stD.feet,stD.os⟩
 have st6:Step (own env) Z H s Z4 ((D,.dct [(k1,x),(k2,yv)])::H4) { s4 with heap:=h',toks:=s4.toks+2 } :=
  ⟨st5.keep,st5.hidden,st5.unhid,fun b m=>by
   refine Qa (jw1.mp (show b∈[D]++foots H4 from m)) (fun m=>?_) fun m=>?_
   ·refine a5 (jv4.mp m) ?_;exact .inr nD
   ·exact st5.feet b m,st5.os⟩
 have y6:Sat pG w hb Z4 ((D,.dct [(k1,x),(k2,yv)])::H4) { s4 with heap:=h',toks:=s4.toks+2 }:=by
  refine ⟨y5.bs,y5.base,y5.zlt,fun b m=>?_,?_,fun q hq=>?_,y5.gens⟩
  ·refine Qa (jw1.mp (show b∈[D]++foots H4 from m)) (fun m=>?_) fun m=>?_
   ·refine a5 (jv4.mp m) ?_;exact zD
   ·exact y5.sub b m
  ·refine (?_:([D]++foots H4).Nodup)
   exact kq6.mpr ⟨nH4,y5.nd⟩
  ·rcases jv6.mp hq with rfl | hq
   ·exact ⟨_,hd,.cons ⟨rfl,r2.mono (u4.trans u5)⟩ (.cons ⟨rfl,r4.mono u5⟩ .nil),bD⟩
   ·exact y5.own q hq
 have y7:=y5.reown y6 fun b m q=>by
  refine Qa (jw1.mp (show b∈[D]++foots H4 from q)) (fun q=>?_) fun q=>?_
  ·rw [jv4.mp q] at m;exact nO m
  ·exact y5.ownH b m q
 exact k st6 (p.step st6 y7) .ref ⟨rfl,q4 D⟩
theorem N0 {x:Str} {px:Pos} {elt t iter:Expr} {ifs:List Expr} {rest:List Comprehension} {scope:Scope} {cpos pos:Pos} {em:EmT} {M:Nat} (cl:Clauses pG w hb (z7 scope sc) n (.ListComp elt (⟨t,iter,ifs,0⟩::rest) scope cpos) t ifs em M) {Q:Flw→c8→HL→Prop} (QL:List PyData→HL→Prop) (hq:∀ ys H1,QL ys H1→TA pG w hb sc n X ρ (.Name x px) (.dat (.list ys)) H1 (Q .next)) (bk:BlockOk scope) (hc:aj0 sc scope=true)
  (h:TE pG w hb sc n X ρ iter H fun z H1=>∃ Hk ds,Bk H1 Hk∧R4 pG w hb n z H1 Hk ds∧ds.length * M≤1000000∧C9 pG w hb (z7 scope sc) n em t ifs (V6 ρ scope.names) ds [] Hk fun ys Hk'=>Hk'=Hk∧QL ys H1)
  (hsw:∀ env,EnvOk sc env→swapsWith (.ListComp elt (⟨t,iter,ifs,0⟩::rest) scope cpos) (some (.Name x px)) pos.line env=pure true)
  (hs:∀ env x,foldedSetIterable iter env x=pure x:=by intro _ _;rfl) :
  TX pG w hb sc n X ρ (.Assign [.Name x px] (.ListComp elt (⟨t,iter,ifs,0⟩::rest) scope cpos) pos) H Q:=by
 refine .intro fun env A Z s R E p ex k=>?_
 refine a5 (exec_Assign_Name_used _ _ _ _ (hsw env p.eok)) ?_
 refine jk9 (kv7 (jk9 ?_))
 refine (?_:wpAny _ A (do let _ ← comprehension (.ListComp elt (⟨t,iter,ifs,0⟩::rest) scope cpos) scope env _ (newList []) false (eval iter env) (some (assign (.Name x px) env))) _ _ s)
 refine jk9 (kx7 (bk8 cl (use:=some (assign (.Name x px) env)) (Q:=fun u_ s'=>R .next s') (QL:=QL) bk hc hs p ex h
  fun {s' Z' D C ys H1 m} st p' ex' q hn hz ho hf nC=>?_) (fun u_ s' hq=>jv5 (jv5 hq)) fun u_ u_ e=>e)
 refine (?_:wpAny _ A (assign (.Name x px) env (.ref D)) _ _ _)
 have fz:Fz [(D,.lst ys)] (.ref D) (.dat (.list ys)):=.lst (by exact kz6 _)
 refine J7 (Sat.freeze (Hs:=[(D,.lst ys)]) (H0:=H1) p'.sat.toSat) fun y2 u2 ok2=>?_
 have y:=SatE.freeze (Hs:=[(D,.lst ys)]) (H0:=H1) (ρ1:=ρ) p'.sat (fun y d' h=>⟨d',h,.same⟩)
 have st':=Step.freeze (Hs:=[(D,.lst ys)]) (H0:=H1) st p.sat.zlt
 have pf:=p.step st' y
 have exf:=ex.step p.sat.toSat st' y.toSat
 have hz':C∈I4 Z' (foots [(D,.lst ys)]):=y8.mpr ⟨hz,fun q=>hf (by
  refine (?_:C∈foots ([(D,.lst ys)]++H1))
  refine a5 (d8 ..) ?_;exact jv8 _ q)⟩
 have hf':C∉foots H1:=fun q=>hf (by refine (?_:C∈foots ([(D,.lst ys)]++H1));refine a5 (d8 ..) ?_;exact jv7 _ q)
 refine hq _ _ q env A _ _ _ _ _ pf (Fz.rep ok2 .ref fz) exf fun {s3 Z3 ρ3 H3} s3' p3 ex3 u3 q3=>?_
 (refine w5 hn ?_;clear hn;intro o es ep e r)
 have eC:=s3'.keep C o e ho hf'
 have hz3:C∈Z3:=by
  refine Qa (s3'.unhid C hz') (fun q=>?_) fun q=>?_
  ·exact q
  ·exact absurd q hf'
 have hf3:C∉foots H3:=fun q=>by
  refine Qa (s3'.feet C q) (fun q=>?_) fun q=>?_
  ·exact hf' q
  ·exact a7 e q
 refine ⟨m,⟨o,es,ep,eC,r⟩,fun h' hs'=>?_⟩
 have hk:∀ b o,b≠C→s3.heap.get? b=some o→h'.get? b=some o:=fun b o n e=>(hs'.2 b n).trans e
 refine oA (p3.sat.chgLess (t:=s3.toks) ho hf3 hz3 hk) fun y4 u4=>?_
 have st4:=(p.tr pf st' s3').lose (t:=s3.toks) ho nC p.sat.zlt hk
 exact k (d:=.next) st4 (p.step st4 y4) trivial q3
noncomputable def bv5:List Str→List V→c8→c8
 | x::xs,d::ds,ρ=>bv5 xs ds ((x,d)::ρ)
 | _,_,ρ=>ρ
set_option tactic.hygienic true in
theorem ew5 {Q:c8→HL→Prop} {env:Env} {A:Around} {R:Unit→Shared→Prop} {E:Value→Shared→Prop} (xs:List Str):∀ {ds:List V} {ρ:c8} {Z:List Addr} {s:Shared} {vs:List Value},
  (xs.all fun x=>sc.names.lookup x == some .local)=true→xs.length=ds.length→Pt pG w hb sc env A n X Z ρ H s→RepL pG w (f7 s Z) vs ds→Exn hb A env X H s E →
  (∀ {s' Z'},Step (own env) Z H s Z' H s'→Pt pG w hb sc env A n X Z' (bv5 xs ds ρ) H s'→Exn hb A env X H s' E→R () s') →
  wpAny (model pG w) A (assignInOrder (xs.map fun x=>bindName env x) vs) R E s:=by
 induction xs with
 | nil =>
  intro ds ρ Z s vs hk hl p rl ex k
  induction ds using Qh with
  | nil=>(have e:vs=[]:=rl.inv;subst e);exact jv5 (k (.refl ..) p ex)
  | cons d ds=>trivial
 | cons x xs ih =>
  intro ds ρ Z s vs hk hl p rl ex k
  induction ds using Qh with
  | nil=>trivial
  | cons d ds =>
   (refine a8 rl.inv ?_;rintro v vs rfl r rs)
   refine a5 kx1 ?_
   refine (?_:wpAny _ _ (do holding vs (bindName env x v);assignInOrder (xs.map fun x=>bindName env x) vs) _ _ _)
   rw [mj9,kz7] at hk
   refine c9 p.sat.ns fun m hn hm=>?_
   have hk':env.kindOf x=some .local:=by refine a5 (p.eok.kindOf ..) ?_;exact beq_iff_eq.mp hk.1
   refine jk9 (kx6 (bindName_ (nq4 hk' hn (fun h' hn' hs'=>?_) (by refine a5 p.eok.fn ?_;rfl))))
   have y:=p.sat.storeLocal (t:=s.toks+1) hm hk' r hn' hs'
   have st:Step (own env) Z H s Z H { s with heap:=h',toks:=s.toks+1 }:=.same (jv0 ..) hs'
   have p1:=p.step st y
   exact ih hk.2 (by simpa using hl) p1 (rs.mono (p.sat.mono st)) (ex.step p.sat.toSat st y.toSat) fun st2 p2 ex2=>k (p.tr p1 st st2) p2 ex2
theorem RepL.reverse {h:Heap} {ds:List V}:∀ {vs:List Value},RepL pG w h vs ds→RepL pG w h vs.reverse ds.reverse:=by
 induction ds with
 | nil=>exact fun {vs} x=>(show vs=[] from x.inv)▸.nil
 | cons d ds ih =>
  intro vs x
  (refine a8 x.inv ?_;rintro v us rfl r rs)
  exact a5 mw8 (a5 mw8 ((ih rs).append (.cons r .nil)))
theorem bw0 {elts:List Expr} {kk:Nat} {tpos pos:Pos} {e:Expr} {names:List Str} {Q:Flw→c8→HL→Prop} (hk:(names.all fun x=>sc.names.lookup x == some .local)=true)
  (h:TE pG w hb sc n X ρ e H fun d H1=>∃ ds,d.items=some ds∧ds.length=names.length∧Q .next (bv5 names.reverse ds.reverse ρ) H1)
  (hs:∀ env,swapsWithSole [.Tuple elts kk tpos] e pos.line env=pure false:=by intro _;rfl)
  (hw:∀ env,EnvOk sc env→swappedStores [.Tuple elts kk tpos] e env=pure (some names):=by intro env h;cases env;cases h.scp;rfl) :
  TX pG w hb sc n X ρ (.Assign [.Tuple elts kk tpos] e pos) H Q:=by
 refine .intro fun env A Z s R E p ex k=>Assign_Tuple_swapped (names:=names) ?_ (hs env) (hw env p.eok)
 refine h.run p ex fun {v s1 Z1 d ρ1 H1} s1' p1 ex1 u1 r1 q1=>?_
 (refine oA q1 ?_;clear q1;rintro rfl y;refine o9 y ?_;clear y;intro ds ei hl q)
 (refine a8 (s6 r1 ei) ?_;rintro a vs rfl it rl)
 have en:names.length=vs.size:=by
  have:=rl.length
  rw [jw2] at this
  exact kq1 (i5 [_,_,_] 1 zA zB 1 zC zA zC zB tT (H6 this) (H6 hl)) (i5 [_,_,_] 1 zA zB 1 zB zC zA zC tT (o7 this) (o7 hl))
 refine a5 en ?_
 refine unpackItems_tuple p1.room.handled (j2 (g6 _ _) it) fun h' he=>?_
 have kk:Sub s1.heap h':=fun b o q=>he b o (kz1 (Qi q)) q
 have p2:=p1.grow (t:=s1.toks) kk
 refine ew5 (Q:=fun u_ u_=>True) (s:={ s1 with heap:=h',toks:=s1.toks }) names.reverse (ds:=ds.reverse) (by refine a5 List.all_reverse ?_;exact hk) (by simp [hl]) p2 (rl.mono (G8 kk)).reverse (ex1.step p1.sat.toSat (.grow kk) p2.sat.toSat) fun st2 p3 ex3=>?_
 exact k (d:=.next) (p.tr p1 s1' (p1.tr p2 (.grow kk) st2)) p3 trivial q
theorem I3 {k:Nat} (h:k≤1000000):k≤sizeLine:=by
 have:sizeLine=16777216:=by rfl
 exact ul h tT
noncomputable abbrev TJ (pG:Program) (w:World) (hb:Heap) (sc:Scope) (n:Nat) (X:Xs) (ρ:c8) (out:Str) (es:List Expr) (H:HL) (Q:VP):Prop :=
 Tri pG w hb sc n X (RepV pG w) (fun env=>joinParts out (evalEach es env)) ρ H (fun d ρ' H'=>ρ'=ρ∧Q d H')
theorem hj9 {v1 v2:Expr} {rest:List Expr} {pos:Pos} {Q:VP} (h:TJ pG w hb sc n X ρ Str.empty (v1::v2::rest) H Q):TE pG w hb sc n X ρ (.JoinedStr (v1::v2::rest) pos) H Q :=
 .intro fun env A Z s R E p ex k=>JoinedStr_many (h.run (t:=fun env=>joinParts Str.empty (evalEach (v1::v2::rest) env)) p ex fun st p1 ex1 u1 r1 q1=>k st p1 r1 q1)
theorem iw3 {out:Str} {Q:VP} (hl:out.length≤1000000) (q:Q (.dat (.str out)) H):TJ pG w hb sc n X ρ out [] H Q :=
 .intro fun env A Z s R E p ex k=>joinParts_nil (k (.tok ..) (p.tok _) (N5 _ _) ⟨rfl,q⟩) (I3 hl)
theorem hj5 {out:Str} {e:Expr} {es:List Expr} {Q:VP} (h:TE pG w hb sc n X ρ e H fun a H1=>∃ y,a=.dat (.str y)∧(out++y).length≤1000000∧TJ pG w hb sc n X ρ (out++y) es H1 Q)
  (he:∀ env,evalEach (e::es) env=eval e env::evalEach es env:=by intro _;rfl):TJ pG w hb sc n X ρ out (e::es) H Q:=by
 refine .intro fun env A Z s R E p ex k=>?_
 refine a5 (he ..) ?_
 refine joinParts_cons (h.run p ex fun {v s1 Z1 a ρ1 H1} s1' p1 ex1 u1 r1 q1=>?_)
 (refine oA q1 ?_;clear q1;rintro rfl yy;refine o9 yy ?_;clear yy;rintro y rfl hl q)
 (refine oE r1.str ?_;rintro t rfl)
 have:sizeLine=16777216:=by rfl
 exact ⟨by exact ul hl tT,Tri.run (t:=fun env=>joinParts (out++y) (evalEach es env)) q p1 ex1 fun s2 p2 ex2 u2 r2 q2=>k (p.tr p1 s1' s2) p2 r2 q2⟩
theorem te_fmtS {e:Expr} {pos:Pos} {Q:VP} (h:TE pG w hb sc n X ρ e H fun a H1=>∃ y:Str,a=.dat (.str y)∧y.length≤1000000∧Q (.dat (.str y)) H1):TE pG w hb sc n X ρ (.FormattedValue e (-1) none pos) H Q:=by
 refine .intro fun env A Z s R E p ex k=>FormattedValue_plain (h.run p ex fun {v s1 Z1 a ρ1 H1} s1' p1 ex1 u1 r1 q1=>?_)
 (refine oA q1 ?_;clear q1;rintro rfl yy;refine o9 yy ?_;clear yy;rintro y rfl hl q)
 (refine oE r1.str ?_;rintro t rfl)
 have:sizeLine=16777216:=by rfl
 exact formatField_str (fun t' tk=>k (p.tr p1 s1' (.tok _ _ _ _ tk)) (p1.tok tk) (N5 _ _) ⟨rfl,q⟩) (by exact ul hl tT)
theorem bq1 {a:Int} (h:a.natAbs≤1000000000):a.natAbs.log2<1920:=by
 by_cases h0:a.natAbs=0
 ·refine a5 h0 ?_;exact kx3 _
 ·exact (Nat.log2_lt h0).mpr (kj8 h (by exact (jv2 tT)))
theorem te_fmtI {e:Expr} {pos:Pos} {Q:VP} (h:TE pG w hb sc n X ρ e H fun a H1=>∃ i:Int,a=.dat (.int i)∧i.natAbs≤1000000000∧Q (.dat (.str (toString i:String))) H1):TE pG w hb sc n X ρ (.FormattedValue e (-1) none pos) H Q:=by
 refine .intro fun env A Z s R E p ex k=>FormattedValue_plain (h.run p ex fun {v s1 Z1 a ρ1 H1} s1' p1 ex1 u1 r1 q1=>?_)
 (refine oA q1 ?_;clear q1;rintro rfl yy;refine o9 yy ?_;clear yy;rintro y rfl hl q)
 (refine oE r1.int ?_;rintro t rfl)
 exact formatField_int_small (bq1 hl) (k (p.tr p1 s1' (.tok _ _ _ _ _)) (p1.tok _) (N5 _ _) ⟨rfl,q⟩)
theorem cq0 {i:Int} {Q:VP} (hl:i.natAbs≤1000000000) (q:Q (.dat (.str (toString i:String))) H):Op pG w hb n X (RepV pG w) (fun vs=>call (.type "str") vs) [.dat (.int i)] H Q:=by
 refine .grow fun A Z s vs R E rm y rl k=>?_
 (refine c9 rl.inv1 ?_;rintro v rfl r1)
 (refine oE r1.int ?_;rintro t rfl)
 exact str_of_int_fit (N:=2000000000) (by split <;> lia) (by trivial) fun u_=>k (h':=s.heap) (Sub.refl _) (N5 _ _) q
theorem hw7 {a b:Str} {Q:VP} (hl:a.length+b.length≤1000000) (q:Q (.dat (.str (a++b))) H):Op pG w hb n X (RepV pG w) (G0 (binaryOp .Add)) [.dat (.str a),.dat (.str b)] H Q:=by
 refine .grow fun A Z s vs R E rm y rl k=>?_
 (refine a8 rl.inv2 ?_;rintro v u rfl r1 r2)
 (refine oE r1.str ?_;rintro t rfl)
 (refine oE r2.str ?_;rintro t' rfl)
 have:sizeLine=16777216:=by rfl
 exact SB.add (fun t' tk=>k (h':=s.heap) (Sub.refl _) (N5 _ _) q) (by exact ul hl tT)
theorem te_or {e1 e2:Expr} {pos:Pos} {Q:VP} (h:TE pG w hb sc n X ρ e1 H fun a H1=>∃ b,a=.dat (.bool b)∧(b=true→Q (.dat (.bool true)) H1)∧(b=false→TE pG w hb sc n X ρ e2 H1 Q)) :
  TE pG w hb sc n X ρ (.BoolOp .Or [e1,e2] pos) H Q:=by
 refine .intro fun env A Z s R E p ex k=>BoolOp_or (h.run p ex fun {v s1 Z1 a ρ1 H1} s1' p1 ex1 u1 r1 q1=>?_)
 (refine oA q1 ?_;clear q1;rintro rfl y;refine o9 y ?_;clear y;rintro b rfl q2 q3)
 obtain rfl:=r1.bool
 refine lz4 ?_
 induction b using Ql with
 | true=>exact k s1' p1 (m7 _) ⟨rfl,q2 rfl⟩
 | false=>exact BoolOp_one ((q3 rfl).run p1 ex1 fun s2 p2 ex2 u2 r2 q2=>k (p.tr p1 s1' s2) p2 r2 q2)
theorem ek2 {l r1 r2:Expr} {o1 o2:CmpOp} {pos:Pos} {Q:Bool→HL→Prop}
  (h:TE pG w hb sc n X ρ l H fun a H1=>TE pG w hb sc n X ρ r1 H1 fun b H2=>Op pG w hb n X (RepV pG w) (G0 (compareOp o1)) [a,b] H2 fun c H3=>∃ t,c=.dat (.bool t) ∧
   (t=false→Q false H3)∧(t=true→TE pG w hb sc n X ρ r2 H3 fun d H4=>Op pG w hb n X (RepV pG w) (G0 (compareOp o2)) [b,d] H4 fun c H5=>∃ t,c=.dat (.bool t)∧Q t H5))
  (hm:lastMarks [o1,o2] [r1,r2]=false:=by with_unfolding_all rfl):TB pG w hb sc n X ρ (.Compare l [o1,o2] [r1,r2] pos) H Q:=by
 refine .intro fun env A Z s R E p ex k=>isTrue_chain ?_ hm
 refine h.run p ex fun {v0 s1 Z1 a ρ1 H1} s1' p1 ex1 u1 r1 q1=>?_
 (refine oA q1 ?_;clear q1;rintro rfl q1)
 refine test_link ?_
 refine q1.run p1 ex1 fun {v2 s2 Z2 b ρ2 H2} s2' p2 ex2 u2 r2 q2=>?_
 (refine oA q2 ?_;clear q2;rintro rfl q2)
 refine Op.run (f:=G0 (compareOp o1)) q2 p2 (.cons (r1.mono u2) (.cons r2 .nil)) ex2 fun {v3 s3 Z3 c H3} s3' p3 ex3 u3 r3 q3=>?_
 (refine o9 q3 ?_;clear q3;rintro t rfl qf qt)
 obtain rfl:=r3.bool
 have st3:=p.tr p2 (p.tr p1 s1' s2') s3'
 refine lz4 ?_
 induction t using Ql with
 | false=>exact k st3 p3 rfl ⟨rfl,qf rfl⟩
 | true =>
  refine test_last ?_
  refine (qt rfl).run p3 ex3 fun {v4 s4 Z4 d ρ4 H4} s4' p4 ex4 u4 r4 q4=>?_
  (refine oA q4 ?_;clear q4;rintro rfl q4)
  refine Op.run (f:=G0 (compareOp o2)) q4 p4 (.cons (r2.mono (u3.trans u4)) (.cons r4 .nil)) ex4 fun {v5 s5 Z5 c H5} s5' p5 ex5 u5 r5 q5=>?_
  (refine c9 q5 ?_;clear q5;rintro t rfl q5)
  obtain rfl:=r5.bool
  exact lz4 (k (p.tr p4 (p.tr p3 st3 s4') s5') p5 rfl ⟨rfl,q5⟩)
theorem eq3 {i:Int} {Q:VP} (q:Q (.dat (.bool true)) H):Op pG w hb n X (RepV pG w) (fun vs=>call (.builtin "isinstance") vs) [.dat (.int i),.con (.type "int")] H Q:=by
 refine .grow fun A Z s vs R E rm y rl k=>?_
 (refine a8 rl.inv2 ?_;rintro v u rfl r1 r2)
 (refine oE r1.int ?_;rintro t rfl)
 (replace r2:=r2.inv;subst r2)
 exact IsiPair.int_int (k (h':=s.heap) (t:=s.toks) (Sub.refl _) (m7 _) q)
theorem eq4 {i:Int} {Q:VP} (q:Q (.dat (.bool false)) H):Op pG w hb n X (RepV pG w) (fun vs=>call (.builtin "isinstance") vs) [.dat (.int i),.con (.type "bool")] H Q:=by
 refine .grow fun A Z s vs R E rm y rl k=>?_
 (refine a8 rl.inv2 ?_;rintro v u rfl r1 r2)
 (refine oE r1.int ?_;rintro t rfl)
 (replace r2:=r2.inv;subst r2)
 exact IsiPair.int_bool (k (h':=s.heap) (Sub.refl _) (m7 _) q)
theorem eq2 {xs:List PyData} {Q:VP} (q:Q (.dat (.bool true)) H):Op pG w hb n X (RepV pG w) (fun vs=>call (.builtin "isinstance") vs) [.dat (.tuple xs),.con (.type "tuple")] H Q:=by
 refine .grow fun A Z s vs R E rm y rl k=>?_
 (refine a8 rl.inv2 ?_;rintro v u rfl r1 r2)
 (refine a8 (s6 r1 rfl) ?_;rintro a ws rfl it rs)
 (replace r2:=r2.inv;subst r2)
 have hT:IsTup s.heap a ws:=j2 (g6 s Z) it
 (refine o9 hT ?_;clear hT;intro o ho hc _)
 exact IsiPair.tuple_tuple ho hc (k (h':=s.heap) (t:=s.toks) (Sub.refl _) (m7 _) q)
theorem W8 (C:Addr) (rest:List Value) (kw:List (Str × Value)):Code.weight (.builtin "type.__call__" ⟨.ref C::rest,kw⟩)=1:=by kernel_rfl
theorem cj3 (args:Args):Code.cUnits (.builtin "type.__call__" args)=1:=by kernel_rfl
theorem av1 (args:Args):Code.envs (.builtin "type.__call__" args)=[]:=by kernel_rfl
theorem J6 {C fI:Addr} {ds:List V} {Q:VP} (hm:makesIn (KK w) C=true) (hi:findIn (KK w) (.ref C) "__init__"=some (some (.ref fI))) (hf:typeIn (KK w) (.ref fI)=some (.type "function"))
  (h:∀ x dx,OpC pG w hb n X (.ref fI) (.ref x::ds) ((x,.inst C dx [])::H) fun d H'=>d=.dat .none∧Q (.ref x) H'):Op pG w hb (n+1) X (RepV pG w) (fun vs=>call (.ref C) vs) ds H Q:=by
 intro A Z s vs R E rm fm y rl k
 refine lx2 ?_
 obtain ⟨hh,g,d,t,os⟩:=s
 have XK:(KK w).In hh:=y.K
 refine make_core (makes_of XK hm) (looks_findIn XK hi) (fun self=>bind_fn XK self hf) (.inl rfl) ?_
 have k2:Sub hh ((hh.push emptyDict).push (instObj C hh.objs.size)):=fun b o e=>Qb _ (Qb _ e)
 have ex:((hh.push emptyDict).push (instObj C hh.objs.size)).get? (hh.objs.size+1)=some (instObj C hh.objs.size):=by
  have:=Qc (h:=hh.push emptyDict) (o:=instObj C hh.objs.size) rfl
  rwa [Heap.size_push] at this
 have ed:((hh.push emptyDict).push (instObj C hh.objs.size)).get? hh.objs.size=some emptyDict:=Qb _ (Qc _ rfl)
 have n1:hh.get? (hh.objs.size+1)=none:=Qf (lz6 _)
 have n2:hh.get? hh.objs.size=none:=Qf (jw4 _)
 have nHx:hh.objs.size+1∉foots H:=fun q=>by refine oE (y.zlt _ (y.sub _ q)) fun o e=>?_;exact a7 e n1
 have nHd:hh.objs.size∉foots H:=fun q=>by refine oE (y.zlt _ (y.sub _ q)) fun o e=>?_;exact a7 e n2
 refine J7 (y.growHide (h':=(hh.push emptyDict).push (instObj C hh.objs.size)) (t:=t) (ys:=[hh.objs.size+1,hh.objs.size]) k2 (fun b hb=>by
   rcases jv6.mp hb with rfl | hb
   ·exact n1
   ·refine a5 (jv4.mp hb) ?_;exact n2) (fun b hb=>by
   rcases jv6.mp hb with rfl | hb
   ·exact ⟨_,ex⟩
   ·refine a5 (jv4.mp hb) ?_;exact ⟨_,ed⟩)) fun y1 st1 u1=>?_
 have ff:foots ((hh.objs.size+1,O.inst C hh.objs.size [])::H)=(hh.objs.size+1)::hh.objs.size::foots H:=rfl
 have st2:Step [] Z H ⟨hh,g,d,t,os⟩ ([hh.objs.size+1,hh.objs.size]++Z) ((hh.objs.size+1,O.inst C hh.objs.size [])::H) ⟨(hh.push emptyDict).push (instObj C hh.objs.size),g,d,t,os⟩ :=
  ⟨(st1 []).keep,(st1 []).hidden,(st1 []).unhid,fun b m=>by
   rw [ff] at m
   rcases jv6.mp m with rfl | m
   ·exact .inr n1
   ·rcases jv6.mp m with rfl | m
    ·exact .inr n2
    ·exact .inl m,rfl⟩
 have y2:Sat pG w hb ([hh.objs.size+1,hh.objs.size]++Z) ((hh.objs.size+1,O.inst C hh.objs.size [])::H) ⟨(hh.push emptyDict).push (instObj C hh.objs.size),g,d,t,os⟩:=by
  refine ⟨y1.bs,y1.base,y1.zlt,fun b m=>?_,?_,fun p hp=>?_,y1.gens⟩
  ·rw [ff] at m
   rcases jv6.mp m with rfl | m
   ·exact jv0
   ·rcases jv6.mp m with rfl | m
    ·simp
    ·exact y1.sub b m
  ·refine a5 ff ?_
   refine kq6.mpr ⟨fun m=>?_,kq6.mpr ⟨nHd,y1.nd⟩⟩
   refine Qa (jv6.mp m) (fun q=>?_) fun m=>?_
   ·exact absurd q (Nat.succ_ne_self _)
   ·exact nHx m
  ·rcases jv6.mp hp with rfl | hp
   ·exact ⟨ex,#[],0,ed,.nil⟩
   ·exact y1.own p hp
 have ek:=Kop.step k y st2 y2
 have eA:O3 (A.under (.builtin "type.__call__" ⟨.ref C::vs,[]⟩))=O3 A:=by delta O3 Around.under;refine a5 (av1 ..) ?_;rfl
 have eF:(A.under (.builtin "type.__call__" ⟨.ref C::vs,[]⟩)).frames=A.frames:=by dsimp only [Around.under];refine a5 (av1 ..) ?_;rfl
 have rm':Room (A.under (.builtin "type.__call__" ⟨.ref C::vs,[]⟩)) n:=by
  refine ⟨?_,?_,?_⟩
  ·refine (?_:A.depth+Code.weight _+10 * n+20≤1000)
   refine a5 (W8 ..) ?_
   have:=rm.depth
   exact d6 [_,_] 1 (.add (.add zA (.mulL 10 (.add zB nA))) (.num 20)) (.num 1000) (.add (.add (.add zA nA) (.mulL 10 zB)) (.num 20)) (.num 1000) tT this
  ·refine (?_:A.units+Code.cUnits _+100 * n+300≤9900)
   refine a5 (cj3 ..) ?_
   have:=rm.units
   exact d6 [_,_] 1 (.add (.add zA (.mulL 100 (.add zB nA))) (.num 300)) (.num 9900) (.add (.add (.add zA nA) (.mulL 100 zB)) (.num 300)) (.num 9900) tT this
  ·exact rm.handled
 have rlx:RepL pG w (f7 ⟨(hh.push emptyDict).push (instObj C hh.objs.size),g,d,t,os⟩ ([hh.objs.size+1,hh.objs.size]++Z)) vs ds:=by
  have:∀ {vs:List Value} {ds:List V},RepL pG w (f7 ⟨hh,g,d,t,os⟩ Z) vs ds→RepL pG w (f7 ⟨(hh.push emptyDict).push (instObj C hh.objs.size),g,d,t,os⟩ ([hh.objs.size+1,hh.objs.size]++Z)) vs ds:=fun r=>r.mono u1
  exact this rl
 refine h (hh.objs.size+1) hh.objs.size _ _ _ _ _ rm' (fun hx=>?_) y2 (.cons .ref rlx) ⟨fun {v s' Z' b H'} st' y' r q=>?_,fun hx e s' th=>?_⟩
 ·obtain ⟨⟨l,hl,hfr⟩,hz⟩:=(fm hx).step y st2
  exact ⟨⟨l,eF.trans hl,hfr⟩,fun L hL=>hz L (eA▸hL)⟩
 ·(refine oA q ?_;clear q;rintro rfl q)
  have e:v=.none:=r.none
  refine ⟨e,?_⟩
  exact ek.ok st' y' .ref q
 ·refine ek.ex hx e s' ⟨⟨fun a o e1 n1 n2 n3=>th.h.keep a o e1 n1 n2 (by refine a5 eA ?_;exact n3),fun a o e1 n1 n2 n3=>th.h.slots a o e1 n1 n2 (by refine a5 eA ?_;exact n3),fun l hl=>th.h.frames l (eF.trans hl),th.h.os,th.h.gens⟩,th.exc⟩
theorem gx1 {i:Int} {Q:VP} (q:Q (.dat (.int (-i))) H):Op pG w hb n X (RepV pG w) (op1 (unaryOp .USub)) [.dat (.int i)] H Q:=by
 refine .grow fun A Z s vs R E rm y rl k=>?_
 (refine c9 rl.inv1 ?_;rintro v rfl r1)
 (refine oE r1.int ?_;rintro t rfl)
 exact P.neg_int (k (h':=s.heap) (Sub.refl _) (K7 _ _) q)
noncomputable def F3 {α:Type} (xs:List α) (lo hi st:Option Int):List α :=
 (sliceRange (sliceBounds lo hi st xs.length).1 (sliceBounds lo hi st xs.length).2.1 (sliceBounds lo hi st xs.length).2.2).filterMap (xs[·]?)
theorem All2.places {α β:Type} {R:α→β→Prop} {l:List α} {m:List β} (h:All2 R l m):∀ js:List Nat,All2 R (js.filterMap (l[·]?)) (js.filterMap (m[·]?))
 | []=>.nil
 | j::js=>by
  have ih:=h.places js
  generalize hn:m[j]?=y_;induction y_ using Qd with
  | some b =>
   refine c9 (h.get hn) fun a ha r=>?_
   simp only [kq5,hn,ha]
   exact .cons r ih
  | none =>
   have hv:l[j]?=none:=by
    rw [lj9] at hn ⊢
    refine a5 h.length ?_;exact hn
   simp only [kq5,hn,hv]
   exact ih
theorem bw2 {g:Heap} {vs:Array Value} {xs:List PyData} (h:RdL g vs.toList xs) (lo hi st:Option Int):RdL g (slicePick vs lo hi st).toList (F3 xs lo hi st):=by
 have e:(slicePick vs lo hi st).toList=(sliceRange (sliceBounds lo hi st xs.length).1 (sliceBounds lo hi st xs.length).2.1 (sliceBounds lo hi st xs.length).2.2).filterMap (vs.toList[·]?):=by
  have:=h.length
  rw [jw2] at this
  simp [slicePick,this]
 refine a5 e ?_
 exact h.places _
noncomputable def bz0 (pG:Program) (w:World) (hb:Heap) (sc:Scope) (n:Nat) (X:Xs) (ρ:c8) (e:Option Expr) (H:HL) (v:Option Int):Prop:=match e,v with
 | none,none=>True
 | some e,some i=>TE pG w hb sc n X ρ e H fun d H'=>d=.dat (.int i)∧H'=H
 | _,_=>False
theorem O0 {e:Option Expr} {v:Option Int} {R:Value→Shared→Prop} {E:Value→Shared→Prop} (h:bz0 pG w hb sc n X ρ e H v) (p:Pt pG w hb sc env A n X Z ρ H s) (ex:Exn hb A env X H s E)
  (k:∀ {u s' Z'},Step (own env) Z H s Z' H s'→Pt pG w hb sc env A n X Z' ρ H s'→Exn hb A env X H s' E→Sub (f7 s Z) (f7 s' Z')→IsPart u v→R u s'):wpAny (model pG w) A (evalPart e env) R E s:=by
 induction e using Qd with
 | none =>
  induction v using Qd with
  | none=>exact jv5 (k (.refl ..) p ex (Sub.refl _) .none)
  | some=>exact False.elim h
 | some e =>
  induction v using Qd with
  | none=>exact False.elim h
  | some i =>
   refine Tri.run (show TE pG w hb sc n X ρ e H _ from h) p ex fun {u s1 Z1 d ρ1 H1} s1' p1 ex1 u1 r1 q1=>?_
   (refine J7 q1 ?_;clear q1;rintro rfl rfl rfl)
   (refine oE r1.int ?_;rintro t rfl)
   exact k s1' p1 ex1 u1 (.int i t)
theorem ek0 {v:Expr} {lo hi st:Option Expr} {p' pos:Pos} {l u k:Option Int} {Q:VP}
  (h:TE pG w hb sc n X ρ v H fun d H1=>∃ xs,ListV pG w hb H1 d (xs.map .dat)∧xs.length≤1000000∧bz0 pG w hb sc n X ρ lo H1 l∧bz0 pG w hb sc n X ρ hi H1 u∧bz0 pG w hb sc n X ρ st H1 k∧k≠some 0∧Q (.dat (.list (F3 xs l u k))) H1)
  (hs:∀ a b,∃ ops,subscripted (.Slice lo hi st p') false (.ref a) (.ref b)=operate ops (getItem (.ref a) (.ref b)):=by intro _ _;exact ⟨_,rfl⟩) :
  TE pG w hb sc n X ρ (.Subscript v (.Slice lo hi st p') pos) H Q:=by
 refine .intro fun env A Z s R E p ex kk=>Subscript_ ?_
 refine h.run p ex fun {ov s1 Z1 d ρ1 H1} s1' p1 ex1 u1 r1 q1=>?_
 (refine oA q1 ?_;clear q1;rintro rfl y;refine oE y ?_;clear y;intro xs y;refine oA y ?_;clear y;intro S y;refine oA y ?_;clear y;intro hl y;refine w6 y ?_;clear y;intro h1 h2 h3 hk q)
 refine wpAny_Slice (O0 h1 p1 ex1 fun {vl s2 Z2} s2' p2 ex2 u2 i1=>?_)
 refine O0 h2 p2 ex2 fun {vu s3 Z3} s3' p3 ex3 u3 i2=>?_
 refine O0 h3 p3 ex3 fun {vk s4 Z4} s4' p4 ex4 u4 i3=>?_
 have r4:=r1.mono (u2.trans (u3.trans u4))
 (refine a8 (S Z4 s4 ov p4.sat.toSat r4) ?_;rintro a vs rfl hL rs)
 refine oE (hs a s4.heap.objs.size) fun ops hs=>?_
 have hlen:=rs.length
 rw [jw2,jv1] at hlen
 have hT:({ s4 with heap:=s4.heap.push { cls:=.type "slice",data:=.fields #[vl,vu,vk] } }:Shared).TypeIs (.ref a) "list":=Heap.IsList.typeIs (s:={ s4 with heap:=s4.heap.push { cls:=.type "slice",data:=.fields #[vl,vu,vk] } }) (hL.push _)
 refine tail_any hT list_getitem_lookup (wpAny_getItem_list_slice (hL.push _) (Heap.IsSliceOf.new ..) i1 i2 i3 hk ?_ (I3 (by exact i5 [_,_] 1 zA zB 1 zB (.num 1000000) zA (.num 1000000) tT (o7 hlen) hl))) hs
 have ks:Sub s4.heap (s4.heap.push { cls:=.type "slice",data:=.fields #[vl,vu,vk] }):=t7 _ _
 have st4:=p.tr p3 (p.tr p2 (p.tr p1 s1' s2') s3') s4'
 have p5:=p4.grow (t:=s4.toks) (t0 ks { cls:=.type "list",data:=.seq (slicePick vs l u k) })
 exact kk (p.tr p4 st4 (.grow (t0 ks _))) p5 (N8 (s:=s4) (h:=s4.heap.push { cls:=.type "slice",data:=.fields #[vl,vu,vk] }) (t:=s4.toks) p4.sat.toSat ks (bw2 ((Dats.of xs).rd rs) _ _ _)) ⟨rfl,q⟩
theorem ek9 (a b:Nat):sliceRange (a:Int) (b:Int) 1=(Qg (b - a)).map (a+·):=by
 dsimp only [sliceRange]
 have h1:(1:Int) > 0:=by decide
 simp only [h1,if_true,lw5]
 have e:(if (a:Int)<b then ((b:Int) - a+1 - 1) / 1 else 0).toNat=b - a:=by
  by_cases c:(a:Int)<b
  ·refine a5 (if_pos c) (a5 (Int.ediv_one ..) (a5 (Int.add_sub_cancel ..) ?_));exact Int.toNat_sub b a
  ·refine a5 (if_neg c) ?_;exact (Nat.sub_eq_zero_of_le (mx4.mp (lx8.mp c))).symm
 refine a5 e ?_
 apply lz9
 intro k hk
 lia
theorem aw3 {α:Type} (xs:List α) (lo hi:Option Int):F3 xs lo hi none=(xs.drop (kms_lo lo xs.length)).take (kms_hi hi xs.length - kms_lo lo xs.length):=by
 dsimp only [F3]
 refine a5 (kms_bounds ..) ?_
 refine (?_:(sliceRange ((kms_lo lo xs.length:Nat):Int) ((kms_hi hi xs.length:Nat):Int) 1).filterMap (xs[·]?)=_)
 refine a5 (ek9 ..) ?_
 have:=pick_run xs.toArray (kms_lo lo xs.length) (kms_hi hi xs.length - kms_lo lo xs.length)
 simpa using this
theorem bj6 {α:Type} (xs:List α) (j:Nat):F3 xs none (some (j:Int)) none=xs.take j:=by
 refine a5 (aw3 ..) ?_
 simp only [kms_hi,kms_lo,show ¬((j:Int)<0) by exact lx8.mpr (F0 [_] 1 (.num 0) zA (.num 0) zA tT (kx2 _)),if_false,nz9,Nat.sub_zero,mx3]
 by_cases h:j≤xs.length
 ·exact a5 (nz7 h) rfl
 ·exact a5 (nz0 (by exact d6 [_,_] 1 (.add zA nA) zB zA zB tT (lv0 h))) (a5 (kw3 (jw4 _)) (a5 (kw3 (by exact d6 [_,_] 1 (.add zA nA) zB zA zB tT (lv0 h))) rfl))
theorem ev6 {α:Type} (xs:List α) (j:Nat):F3 xs (some (j:Int)) none none=xs.drop j:=by
 refine a5 (aw3 ..) ?_
 simp only [kms_hi,kms_lo,show ¬((j:Int)<0) by exact lx8.mpr (F0 [_] 1 (.num 0) zA (.num 0) zA tT (kx2 _)),if_false,mx3]
 refine a5 (kw3 (by simp)) ?_
 by_cases h:j≤xs.length
 ·exact a5 (nz7 h) rfl
 ·exact a5 (nz0 (by exact d6 [_,_] 1 (.add zA nA) zB zA zB tT (lv0 h))) (a5 (mk4 (jw4 _)) (a5 (mk4 (by exact d6 [_,_] 1 (.add zA nA) zB zA zB tT (lv0 h))) rfl))
theorem ev5 {α:Type} (xs:List α):F3 xs none (some (-1)) none=xs.dropLast:=by
 refine a5 (aw3 ..) ?_
 refine (?_:(xs.drop 0).take ((xs.length - (-(-1:Int)).toNat) - 0)=_)
 refine a5 nz9 (a5 List.dropLast_eq_take ?_)
 rfl
theorem gq7 {α:Type} (xs:List α):F3 xs none none (some (-1))=xs.reverse:=by
 dsimp only [F3]
 refine a5 (krv_bounds ..) ?_
 refine (?_:(sliceRange ((xs.length:Int) - 1) (-1) (-1)).filterMap (xs[·]?)=_)
 refine a5 (krv_sliceRange ..) (a5 (krv_range ..) (a5 (List.filterMap_reverse ..) ?_))
 have:=krv_all xs.toArray
 simp only [lz0] at this
 congr 1
 simpa using this
end
theorem bk6:entryFor table "dict.update.loop"=some Builtin.«dict.update.loop»:=entryFor_of_tree (by kernel_rfl)
theorem P8:plainId "dict.update.loop"=true:=by decide +kernel
theorem cq5:typeLookup (.type "list") "keys"=pure none:=am_miss_of_fast (by kernel_rfl)
section
variable {pG:Program} {w:World} {A:Around} {E:Value→Shared→Prop} {s:Shared}
theorem fq2 {a:Addr} {xs:Array Value} {k:Nat} {Q:Option Value→Shared→Prop} (hx:s.heap.get? a=some ⟨.type "list",none,.seq xs k,#[]⟩) (hA:A.handled=none)
  (h:∀ h' tk,(∀ b o,s.heap.get? b=some o→h'.get? b=some o)→Q none { s with heap:=h',toks:=tk }):wpAny (model pG w) A (getAttr? (.ref a) "keys") Q E s:=by
 obtain ⟨hp,g,d,tk,os⟩:=s
 have hT:∀ tk',(⟨hp,g,d,tk',os⟩:Shared).TypeIs (.ref a) "list":=fun u_=>⟨_,hx,rfl⟩
 have f1:=sub_AttributeError
 have f3:=F.slot_list_getattribute.lookup
 have f4:=F.slot_list_getattribute.bind (.ref a)
 have f5:=am_list_getattr_none
 repeat (any_goals (first | assumption | exact hT _ | ((with_reducible refine (?_:wpAny _ _ (call (Value.builtin "list.__getattribute__") _ _) _ _ _));refine call_meets F.slot_list_getattribute (hT _) am_entry_list_getattribute (F.args_list_getattribute_2 _ _) (meets_getattribute_miss_list a xs k #[] "keys" _ cq5 (by rfl) (by exact (jv2 tT))) ⟨hx,hA,fun h' tk' e hx'=>?_⟩) | wp_step))
 refine oEE hx'.there fun t' u' he=>?_
 refine (?_:wpAny _ _ (getattributeRaised _ _ _ _ _ _ _) _ _ _)
 unfold getattributeRaised
 repeat (any_goals (first | assumption | wp_step))
 exact h _ _ hx'.keeps
theorem ix3 {I l D:Addr} {vs:Array Value} {h₀:Heap} (hIl:I≠l) (hID:I≠D) (hlD:l≠D) (hh:A.handled=none) (DI:Nat→Heap→Prop)
  (step:∀ i (s:Shared) kv vv t (Q:Unit→Shared→Prop) (E:Value→Shared→Prop),vs[i]?=some (.ref t)→IsTup s.heap t #[kv,vv]→DI i s.heap→(∀ b o,b≠I→b≠D→h₀.get? b=some o→s.heap.get? b=some o) →
   (∀ h' tk,DI (i+1) h'→Heap.SameBut D s.heap h'→Q () { s with heap:=h',toks:=tk })→wpAny (model pG w) A.in1 (dictSet D kv vv) Q E s)
  (DIk:∀ i h h',DI i h→(∀ b o,b≠I→h.get? b=some o→h'.get? b=some o)→DI i h')
  (pairs:∀ i,i<vs.size→∃ t kv vv,vs[i]?=some (.ref t)∧IsTup h₀ t #[kv,vv]∧t≠D∧t≠I) {R:Result→Shared→Prop} {s0:Shared}
  (fin:∀ h' t,DI vs.size h'→(∀ b o,b≠I→b≠D→h₀.get? b=some o→h'.get? b=some o)→R (.ok (.ret .none)) { s0 with heap:=h',toks:=t }) (m:Nat) :
  ∀ (i:Nat) (h:Heap) (tk:Nat),vs.size - i=m→i≤vs.size→h.IsListIter I l i→h.IsList l vs→DI i h→(∀ b o,b≠I→b≠D→h₀.get? b=some o→h.get? b=some o) →
   codeAny (model pG w) A (.builtin "dict.update.loop" ⟨[.ref D,.ref I,rawInt i,.none],[]⟩) R { s0 with heap:=h,toks:=tk }:=by
 have W:=Walks.list (prog:=pG) (w:=w) (A:=A.in1) hh I l (Ne.symm hIl) vs
 induction m with
 | zero =>
  intro i h tk hm hi hit hl hd hk
  have e:i=vs.size:=by exact kq1 (hi) (i5 [_,_,_] 1 zA (.num 0) 1 zB (.add zA zC) zB zC tT (o7 hm) sA)
  subst e
  refine kw4 bk6 ?_
  refine a5 (Around.under_plainId P8 _) ?_
  refine jk9 (W.done _ _ _ ⟨hit,hl⟩ fun h' tk' hk'=>?_)
  refine jk9 (jv5 (jv5 ?_))
  exact fin h' tk' (DIk _ _ _ hd fun b o n e=>hk' b o (by simpa using n) e) fun b o n1 n2 e=>hk' b o (by simpa using n1) (hk b o n1 n2 e)
 | succ m ih =>
  intro i h tk hm hi hit hl hd hk
  have hlt:i<vs.size:=by exact i5 [_,_,_,_] 1 (.add zA nA) zB 1 (.add zB zC) zD (.add zC nA) zD tT (H6 hm) (sC (hi))
  refine kw4 bk6 ?_
  refine a5 (Around.under_plainId P8 _) ?_
  refine jk9 (W.item i _ _ _ hlt ⟨hit,hl⟩ fun v h' tk' hP hS hk'=>?_)
  have hk1:∀ b o,b≠I→b≠D→h₀.get? b=some o→h'.get? b=some o:=fun b o n1 n2 e=>hk' b o (by simpa using n1) (hk b o n1 n2 e)
  refine oE (pairs i hlt) fun t y=>oE y fun kv y=>o4 y fun vv hv ht ntD ntI=>?_
  have hv':v=.ref t:=by
   have:vs[i]?=some v:=hP
   rw [hv] at this
   exact (Qm this).symm
  subst hv'
  refine oE (id ht) fun o y=>oA y fun ho y=>V7 y fun hc n hdat=>?_
  have ho':({ s0 with heap:=h',toks:=tk' }:Shared).heap.get? t=some o:=hk1 t o ntI ntD ho
  refine jk9 (kx6 (jk9 (wpAny_tryCatch ?_)))
  refine jk9 (lz3 (T:="tuple") ⟨o,ho',hc⟩ ?_)
  refine a5 (if_pos (by rfl)) ?_
  refine jk9 (wpAny_seqItems ho' hdat (jv5 ?_))
  refine (?_:wpAny _ _ (holding [kv,vv] (dictSet D kv vv)) _ _ _)
  refine kx6 (step i _ kv vv t _ _ hv ⟨o,ho',hc,n,hdat⟩ (DIk _ _ _ hd fun b o n e=>hk' b o (by simpa using n) e) hk1 fun h'' tk'' hd' hs=>?_)
  refine jv5 ⟨plainId_quiet P8 _,?_⟩
  (refine oA hS ?_;clear hS;rintro ⟨oi,ei,ri⟩ ⟨ol,el,rl⟩)
  exact ih (i+1) h'' tk'' (by exact kq1 (T5 [_,_,_,_,_] 1 zA (.add zB nA) 1 (.add zC (.add zD nA)) (.var 4) 1 (.var 4) (.add zA zD) zC zB tT (o7 hm) (sC (hlt)) sA) (T5 [_,_,_,_,_] 1 (.add zA nA) zB 1 zC (.add zD (.add (.var 4) nA)) 1 (.add zB (.var 4)) zC zA zD tT (H6 hm) sA (sC (d6 [_,_] 1 (.add zA nA) zB zA zB tT hlt)))) hlt ⟨oi,(hs.2 I hID).trans ei,ri⟩ ⟨ol,(hs.2 l hlD).trans el,rl⟩ hd' fun b o n1 n2 e=>(hs.2 b n2).trans (hk1 b o n1 n2 e)
theorem M8 {l:Addr} {vs:Array Value} {n:Nat} {Q:Value→Shared→Prop} (hh:A.handled=none) (hx:s.heap.get? l=some ⟨.type "list",none,.seq vs n,#[]⟩) (DI:Nat→Heap→Prop)
  (d0:∀ h,h.get? s.heap.objs.size=some { cls:=.type "dict",data:=.dict #[] }→DI 0 h) (bigD:(s.heap.objs.size == sysModules)=false)
  (step:∀ A' i (s1:Shared) kv vv t (Q:Unit→Shared→Prop) (E:Value→Shared→Prop),A'.handled=none→A'.units≤A.units+10→vs[i]?=some (.ref t)→IsTup s1.heap t #[kv,vv]→DI i s1.heap→(∀ b o,s.heap.get? b=some o→s1.heap.get? b=some o) →
   (∀ h' tk,DI (i+1) h'→Heap.SameBut s.heap.objs.size s1.heap h'→Q () { s1 with heap:=h',toks:=tk })→wpAny (model pG w) A' (dictSet s.heap.objs.size kv vv) Q E s1)
  (DIk:∀ i h h',DI i h→(∀ o,h.get? s.heap.objs.size=some o→h'.get? s.heap.objs.size=some o)→(∀ b o,s.heap.get? b=some o→h'.get? b=some o)→DI i h')
  (pairs:∀ i,i<vs.size→∃ t kv vv,vs[i]?=some (.ref t)∧IsTup s.heap t #[kv,vv])
  (fin:∀ h' t,DI vs.size h'→(∀ b o,s.heap.get? b=some o→h'.get? b=some o)→Q (.ref s.heap.objs.size) { s with heap:=h',toks:=t }) :
  wpAny (model pG w) A (call (.type "dict") [.ref l]) Q E s:=by
 refine callType_codes (Q₁:=fun obj s₁=>obj=.ref s.heap.objs.size∧s₁={ s with heap:=s.heap.push { cls:=.type "dict",data:=.dict #[] } }) F.kt_called_dict (F.kt_typeCall_dict_1 _) F.entry_dict_init (kt_code_dict_new _ ⟨rfl,rfl⟩) ?_
 (intro obj s₁ yz;refine oA yz ?_;clear yz;rintro rfl rfl)
 have eD:(s.heap.push { cls:=.type "dict",data:=.dict #[] }).get? s.heap.objs.size=some { cls:=.type "dict",data:=.dict #[] }:=Qc _ rfl
 have hx':(s.heap.push { cls:=.type "dict",data:=.dict #[] }).get? l=some ⟨.type "list",none,.seq vs n,#[]⟩:=Qb _ hx
 have hTd:({ s with heap:=s.heap.push { cls:=.type "dict",data:=.dict #[] } }:Shared).TypeIs (.ref s.heap.objs.size) "dict":=⟨_,eD,rfl⟩
 have hTl:({ s with heap:=s.heap.push { cls:=.type "dict",data:=.dict #[] } }:Shared).TypeIs (.ref l) "list":=⟨_,hx',rfl⟩
 refine ⟨hTd,F.args_dict_init_2 _ _,?_⟩
 refine jk9 ?_
 refine jk9 (nq5 hTd ?_)
 refine (?_:wpAny _ _ (pure (s.heap.objs.size,[Value.ref l])) _ _ _)
 refine jv5 ?_
 refine (?_:wpAny _ _ (Builtin.Dict.updateFrom "dict.__init__" s.heap.objs.size (.ref l) [] .none) _ _ _)
 refine jk9 (lz3 hTl ?_)
 refine a5 (if_pos (by rfl)) ?_
 refine jk9 (fq2 hx' hh fun h1 t1 k1=>?_)
 have hl1:h1.get? l=some ⟨.type "list",none,.seq vs n,#[]⟩:=k1 _ _ hx'
 refine jk9 (mx6 (jk9 (mz4 (s:={ s with heap:=h1,toks:=t1 }) (l:=l) (items:=vs) ⟨_,hl1,rfl,n,rfl⟩ ?_)))
 have lt_l:l<h1.objs.size:=Qi hl1
 have eD1:h1.get? s.heap.objs.size=some { cls:=.type "dict",data:=.dict #[] }:=k1 _ _ eD
 have lt_D:s.heap.objs.size<h1.objs.size:=Qi eD1
 have ne:∀ b o,s.heap.get? b=some o→b≠h1.objs.size∧b≠s.heap.objs.size:=fun b o e=>by
  have:=Qi e
  exact ⟨kz1 (lj2 this lt_D),kz1 this⟩
 refine jv5 ⟨plainId_quiet P8 _,?_⟩
 refine ix3 (pG:=pG) (w:=w) (A:=A.in1) (R:=wants (fun r s₂=>r=Value.none∧Q (Value.ref s.heap.objs.size) s₂) E) (I:=h1.objs.size) (l:=l) (D:=s.heap.objs.size) (vs:=vs) (h₀:=s.heap) (kj2 lt_l) (kj2 lt_D) (ne l _ hx).2 hh
  (fun i h=>DI i h∧(∀ b o,s.heap.get? b=some o→h.get? b=some o)) (fun i s1 kv vv t Q E hv ht hd hk q=>?_) (fun i h h' hd hk=>⟨DIk i h h' hd.1 (fun o e=>hk _ o (kz1 lt_D) e) fun b o e=>hk b o (ne b o e).1 (hd.2 b o e),fun b o e=>hk b o (ne b o e).1 (hd.2 b o e)⟩)
  (fun i hi=>?_) (s0:=s) (fun h' t hd hk=>?_) _ 0 _ t1 rfl (kx0 _) ?_ ((show h1.IsList l vs from ⟨_,hl1,rfl,n,rfl⟩).push _) ⟨d0 _ (Qb _ eD1),fun b o e=>Qb _ (k1 b o (Qb _ e))⟩
  (fun b o u_ u_ e=>Qb _ (k1 b o (Qb _ e)))
 ·exact step _ i s1 kv vv t Q E hh (by simp) hv ht hd.1 hd.2 fun h' tk d' hs=>q h' tk ⟨d',fun b o e=>(hs.2 b (ne b o e).2).trans (hd.2 b o e)⟩ hs
 ·refine w5 (pairs i hi) fun t kv vv e1 e2=>?_
  refine c9 (id e2) fun o e u_=>?_
  exact ⟨t,kv,vv,e1,e2,(ne t o e).2,(ne t o e).1⟩
 ·exact ⟨rfl,fin h' t hd.1 hd.2⟩
 ·exact ⟨_,Qc _ rfl,rfl,rfl⟩
end
section
variable {pG:Program} {w:World} {hb:Heap} {sc:Scope} {env:Env} {A:Around} {n:Nat} {X:Xs} {Z Z':List Addr} {ρ ρ':c8} {H H':HL} {s s' s'':Shared}
set_option tactic.hygienic true in
theorem cj5 {K:Type} [DecidableEq K] (es:List (K × Value)) (k:K) (v:Value) (nd:(es.map (·.1)).Nodup):((stored es k v).map (·.1)).Nodup:=by
 unfold stored
 split
 ·have:(es.map fun kv=>if kv.1=k then (kv.1,v) else kv).map (·.1)=es.map (·.1):=by
   refine a5 jw5 ?_
   apply lz9
   intro p _
   refine (?_:(if p.1=k then (p.1,v) else p).1=p.1)
   split <;> rfl
  refine a5 this ?_;exact nd
 ·rename_i hc
  refine a5 kq0 ?_
  refine kq9.mpr ⟨nd,by simp,fun a ha b hb e=>?_⟩
  (refine c9 (jv9.mp ha) ?_;rintro p hp rfl)
  have:b=k:=by simpa using hb
  (replace this:=this.symm;subst this)
  exact hc (nx6.mpr ⟨p,hp,by exact decide_eq_true e⟩)
theorem bz1 {K:Type} [DecidableEq K] (es:List (K × Value)) (k:K) (v:Value):(stored es k v).length≤es.length+1:=by
 unfold stored
 split <;> simp
theorem T3 {K:Type} [DecidableEq K]:∀ (es acc:List (K × Value)),(merged acc es).length≤acc.length+es.length
 | [],acc=>by exact jw4 _
 | p::es,acc=>by
  refine (?_:(merged (stored acc p.1 p.2) es).length≤_)
  have h1:=T3 es (stored acc p.1 p.2)
  have h2:=bz1 acc p.1 p.2
  simp;exact i5 [_,_,_,_] 1 zA (.add zB nA) 1 zC (.add zA zD) zC (.add zB (.add zD nA)) tT h2 h1
noncomputable def bq0 (acc:List (Str × PyData)) (kvs:List (Str × PyData)):List (Str × PyData):=kvs.foldl (fun acc p=>X3 p.1 p.2 acc) acc
theorem ew7 {g:Heap} {es:List (Str × Value)} {kvs:List (Str × PyData)} (x:RdD g es kvs):∀ {acc:List (Str × Value)} {acd:List (Str × PyData)},RdD g acc acd→(acc.map (·.1)).Nodup→RdD g (merged acc es) (bq0 acd kvs):=by
 induction x with
 | nil=>exact fun h u_=>h
 | @cons p q _ _ r _ ih =>
  intro acc acd h nd
  exact ih (show RdD g (stored acc p.1 p.2) (X3 q.1 q.2 acd) from r.1▸bj5 r.2 h nd) (cj5 acc p.1 p.2 nd)
set_option tactic.hygienic true in
theorem gq8 {g:Heap} {vs:List Value} {kvs:List (Str × PyData)} (r:RdL g vs (kvs.map fun p=>.tuple [.str p.1,p.2])) :
  ∃ es:List (Str × Value),RdD g es kvs∧es.length=vs.length∧∀ (i:Nat) k v,es[i]?=some (k,v)→∃ t tk,vs[i]?=some (.ref t)∧IsTup g t #[.str k tk,v]:=by
 induction kvs generalizing vs with
 | nil=>cases r;exact ⟨[],.nil,rfl,fun i k v h=>by exact nn h⟩
 | cons p kvs ih =>
  cases r with
  | cons r rs =>
  refine o9 (ih rs) fun es h1 h2 h3=>?_
  refine oE r fun as r=>?_
  (refine k8 (rdi r) ?_;rintro a o us m y;refine w6 y ?_;clear y;rintro rfl e1 e2 e3 e4)
  obtain ⟨l⟩:=us
  obtain ⟨v1,l1,_,_,f1,q1,e4⟩:=X0 e4
  obtain ⟨x,l2,_,_,f2,q2,e4⟩:=X0 e4
  have f3:l2=[]:=X0 e4
  refine oE (rdi q1) fun tk f4=>?_
  have f1:l=_:=f1
  subst f3 f4 f2 f1
  refine ⟨(p.1,x)::es,.cons ⟨rfl,_,q2⟩ h1,by simp [h2],fun i k v h=>?_⟩
  induction i using Nat.casesOn with
  | zero =>
   simp at h
   (refine oA h ?_;clear h;rintro rfl rfl)
   exact ⟨a,tk,rfl,o,e1,e2,m,e3⟩
  | succ i=>simpa using h3 i k v (by simpa using h)
theorem X5 {i:Nat} {a:Addr} {kvs:List (Str × PyData)} {Q:VP} (e:H[i]?=some (a,.lst (kvs.map fun p=>.tuple [.str p.1,p.2]))) (hl:kvs.length≤1000000) (q:Q (.dct (bq0 [] kvs)) H) :
  Op pG w hb n X (RepV pG w) (fun vs=>call (.type "dict") vs) [.ref a] H Q:=by
 refine .grow fun A Z s vs R E rm y rl k=>?_
 (refine c9 rl.inv1 ?_;rintro v rfl r1)
 (replace r1:=r1.inv;subst r1)
 refine y9 (y.own (a,.lst (kvs.map fun p=>.tuple [.str p.1,p.2])) (kz2 e)) fun us m hx hr=>?_
 refine o9 (gq8 hr) fun es h1 h2 h3=>?_
 have h2:es.length=us.size:=by simpa using h2
 have hlen:es.length=kvs.length:=h1.length
 have at_:∀ i,i<us.size→∃ t tk kk v,us[i]?=some (.ref t)∧es[i]?=some (kk,v)∧IsTup (f7 s Z) t #[.str kk tk,v]:=fun i hi=>by
  have hi':i<es.length:=by exact i5 [_,_,_] 1 (.add zA nA) zB 1 zB zC (.add zA nA) zC tT hi (H6 h2)
  have:es[i]?=some es[i]:=jw0 hi'
  refine y9 (h3 i es[i].1 es[i].2 this) fun t tk q1 q2=>?_
  rw [kq7] at q1
  exact ⟨t,tk,_,_,q1,this,q2⟩
 refine M8 rm.handled hx (fun i h=>h.DictOf (strKind pG w) s.heap.objs.size (merged [] (es.take i))) (fun h eh=>?_) y.big (fun A' i s1 kv vv t Q E hA hu hv ht hd hk q=>?_) (fun i h h' hd hk u_=>?_) (fun i hi=>?_) fun h' t hd hk=>?_
 ·exact ⟨_,#[],0,eh,⟨rfl,rfl,rfl⟩,rfl,fun u_ he=>by simp at he,.nil,kk9⟩
 ·have hi:i<us.size:=by
   refine Qa (lq7 i us.size) (fun h=>?_) fun h=>?_
   ·exact h
   ·rw [kw2 h] at hv;exact nn hv
  refine oE (at_ i hi) fun t' y=>oE y fun tk y=>a8 y fun kk v q1 q2 q3=>?_
  rw [q1] at hv
  cases hv
  (refine oE q3 ?_;clear q3;intro o1 y;refine oA y ?_;clear y;intro g1 y;refine V7 y ?_;clear y;intro c1 n1 d1)
  (refine oE ht ?_;clear ht;intro o2 y;refine oA y ?_;clear y;intro g2 y;refine V7 y ?_;clear y;intro c2 n2 d2)
  have:=hk _ o1 (c7 g1).1
  rw [this] at g2
  (injection g2 with i;subst i)
  rw [d1] at d2
  refine oA (Data.seq.inj d2) fun e1 u_=>?_
  have e2:[Value.str kk tk,v]=[kv,vv]:=congrArg Array.toList e1
  refine oA (List.cons.inj e2) fun e3 e4=>?_
  refine oA (List.cons.inj e4) fun e5 u_=>?_
  subst e3 e5
  refine wpAny_dictSet_pairs (knd:=strKind pG w) (k:=kk) (strKind_is ..) hd (fun h' hd' hs=>?_) (I3 ?_)
  ·refine q h' _ ?_ hs
   refine a5 (merged_take_succ [] es i (kk,v) q2) ?_
   exact hd'
  ·have:=T3 (es.take i) ([]:List (Str × Value))
   have:=lw8 i es
   simp at *
   lia
 ·(refine w5 hd ?_;clear hd;intro o es' ep ho r)
  exact ⟨o,es',ep,hk o ho,r⟩
 ·refine oE (at_ i hi) fun t y=>oE y fun tk y=>a8 y fun kk v q1 q2 q3=>?_
  exact ⟨t,_,_,q1,q3.keeps (g6 s Z)⟩
 ·rw [kw3 (by exact (o7 h2))] at hd
  (refine w5 hd ?_;clear hd;intro o es' ep ho r)
  exact k hk (.dct ⟨o,es',ep,k9 ho (T8 y (Sub.refl _)),r⟩ (RdD.mono (fun b o e=>k9 (hk b o (c7 e).1) (c7 e).2) (ew7 h1 .nil kk9)) y.big) q
theorem gx3 {d:V} {kvs:List (Str × PyData)} {Q:VP} (D:DctV pG w hb H d kvs) (hl:kvs.length≤1000000) (q:∀ D,Q (.ref D) ((D,.dct kvs)::H)) :
  Op pG w hb n X (RepV pG w) (fun vs=>call (.type "dict") vs) [d] H Q:=by
 refine .make (.dct kvs) (fun A Z s vs R E rm y rl k=>?_) q
 (refine c9 rl.inv1 ?_;rintro v rfl r1)
 (refine oE (D Z s v y r1) ?_;intro a y;refine o4 y ?_;clear y;rintro es rfl h1 h2 h3)
 have hlen:es.length=kvs.length:=h2.length
 refine kt_call_dict h3 h1 (I3 (by exact i5 [_,_] 1 zA zB 1 zB (.num 1000000) zA (.num 1000000) tT (o7 hlen) hl)) fun h' hd hs=>?_
 have hk:Sub s.heap h':=fun b o e=>(hs.2 b (kz1 (Qi e))).trans (Qb _ e)
 refine k (t:=s.toks) hk (fun b hb=>?_) (by simp [O.foot]) fun g hg=>⟨_,hd,RdD.mono hg h2,y.big⟩
 refine a5 (show b=s.heap.objs.size from by simpa [O.foot] using hb) ?_
 refine w5 (id hd) fun o es' ep ho r=>?_
 exact ⟨Qf (jw4 _),o,ho⟩
end
section
variable {pG:Program} {w:World} {A:Around} {E:Value→Shared→Prop} {h:Heap} {g:Array GenState} {d:Drawn} {t:Nat} {os:OsState}
variable {nm q:Str} {C N:Addr} {bs bm:List Value} {hdct:Bool} {sn:List Str} {sub:List Value} {ab:Bool} {col:Option Bool} {dd:Option Addr} {k0 k1 k2 k3 k5:Option Value} {B newId initId:String} {bmB:List Value}
theorem cw0 (F:ExcBaseFacts B newId initId bmB) {rest:List Value} {R:Result→Shared→Prop} (hcB:(Value.ref C::bm).contains (.type B)=true) (hcA:(Value.ref C::bm).contains (.type "AttributeError")=false) (hcN:(Value.ref C::bm).contains (.type "NameError")=false)
  (hC:h.get? C=some (excClassObj nm q C N bs bm hdct sn sub ab col dd k0 k1 k2 k3 k5 newId))
  (hq:R (.ok (.ret (.ref (h.objs.size+1)))) ⟨(h.push { cls:=.type "tuple",data:=.seq rest.toArray }).push
   { cls:=.ref C,data:=.fields #[.ref h.objs.size,.none,.none,.none,.bool false,.none] },g,d,t,os⟩) (hrest:rest.length≤sizeLine) :
  codeAny (model pG w) A (.builtin newId ⟨.ref C::rest,[]⟩) R ⟨h,g,d,t,os⟩:=by
 have hends:=F.ends
 refine codeAny_builtinAt F.entry ?_
 refine PySem.wpAt_bind ?_
 show PySem.wpAt _ _ _ (stack >>= _) _ _ _
 refine PySem.wpAt_bind (PySem.wpAt_stack fun p below=>PySem.wpAt_of_wpAny ?_)
 wp_walk
 refine PySem.wpAt_of_wpAny ?_
 rw [F.owner]
 repeat (first | with_reducible refine wpAny_madeHere_exc F.canon hC ?_ | with_reducible refine kj6 hC ?_ | (with_reducible refine lx7 hC ?_;first | rw [hcB] | rw [hcA] | rw [hcN]) | wp_step)
 show R _ _
 rw [Heap.size_push]
 exact hq
theorem bz5 (F:ExcBaseFacts B newId initId bmB) {M:Model} {rest:List Value} {Q:Unit→Shared→Prop} (hcB:(Value.ref C::bm).contains (.type B)=true) (hC:h.get? C=some (excClassObj nm q C N bs bm hdct sn sub ab col dd k0 k1 k2 k3 k5 newId))
  (hq:Q () ⟨h,g,d,t,os⟩):wpAny M A (checkBuiltinCall newId ⟨.ref C::rest,[]⟩) Q E ⟨h,g,d,t,os⟩:=by
 have hstar:=F.noStar
 have e1:=F.newKind
 have e2:=F.newSplit
 have e3:=F.newRow
 delta checkBuiltinCall
 generalize builtinKind newId=z1 at e1 ⊢
 subst e1
 generalize splitId newId=z2 at e2 ⊢
 subst e2
 generalize Manifest.signature? newId=z3 at e3 ⊢
 subst e3
 repeat (first | refine kj6 hC ?_ | (refine lx7 hC ?_;refine a5 hcB ?_) | refine wpAny_staticBase_exc hC ?_ | refine wpAny_madeBy_exc hC ?_ | wp_step | refine mk1 (by rw [bne_self_eq_false];rfl) ?_)
 exact hq
theorem gv3 (F:ExcBaseFacts B newId initId bmB) {K:Frag} (X:K.In h) {rest:List Value} {fI:Addr} {Q:Value→Shared→Prop} (hcB:(Value.ref C::bm).contains (.type B)=true) (hcA:(Value.ref C::bm).contains (.type "AttributeError")=false) (hcN:(Value.ref C::bm).contains (.type "NameError")=false)
  (hC:h.get? C=some (excClassObj nm q C N bs bm hdct sn sub ab col dd k0 k1 k2 k3 k5 newId)) (hi:findIn K (.ref C) "__init__"=some (some (.ref fI))) (hf:typeIn K (.ref fI)=some (.type "function"))
  (hq:wpAny (model pG w) (A.under (.builtin "type.__call__" ⟨.ref C::rest,[]⟩)) (call (.ref fI) (.ref (h.objs.size+1)::rest)) (fun r s'=>r=.none∧Q (.ref (h.objs.size+1)) s') E
   ⟨(h.push { cls:=.type "tuple",data:=.seq rest.toArray }).push { cls:=.ref C,data:=.fields #[.ref h.objs.size,.none,.none,.none,.bool false,.none] },g,d,t,os⟩) (hrest:rest.length≤sizeLine) :
  wpAny (model pG w) A (call (.ref C) rest) Q E ⟨h,g,d,t,os⟩:=by
 have f1:=tc_lookup
 have f2:=tc_bind (.ref C)
 have hT:(⟨h,g,d,t,os⟩:Shared).TypeIs (.ref C) "type":=⟨_,hC,rfl⟩
 refine lx2 (kk0 ?_)
 refine (?_:wpAny _ _ (callAny (.ref C) _) _ _ _)
 repeat (any_goals (first | assumption | with_reducible refine kj6 hC ?_ | wp_step))
 refine ⟨rfl,?_⟩
 refine codeAny_call_builtin_at (Code.quiet_builtin _ (by decide +kernel)) entry_typeCall (wpAny_check_type_call_sub hC ?_)
 repeat (first | with_reducible refine kj6 hC ?_ | with_reducible refine wpAny_madeBy_exc hC ?_ | wp_step)
 refine codeAny_call_builtin_code (Code.quiet_builtin _ F.quiet) (bz5 F hcB hC ?_)
 refine cw0 F hcB hcA hcN hC ?_ hrest
 refine (?_:wpAny _ _ _ _ _ _)
 have k2:∀ b o,h.get? b=some o→((h.push { cls:=.type "tuple",data:=.seq rest.toArray }).push { cls:=.ref C,data:=.fields #[.ref h.objs.size,.none,.none,.none,.bool false,.none] }).get? b=some o:=fun b o e=>Qb _ (Qb _ e)
 have hC₁:=k2 _ _ hC
 have hget:((h.push { cls:=.type "tuple",data:=.seq rest.toArray }).push
   { cls:=.ref C,data:=.fields #[.ref h.objs.size,.none,.none,.none,.bool false,.none] }).get? (h.objs.size+1)=some
   { cls:=.ref C,data:=.fields #[.ref h.objs.size,.none,.none,.none,.bool false,.none] }:=by heap_get
 have hcC:(Value.ref C::bm).contains (.ref C)=true:=by simp
 repeat (first | with_reducible refine kj6 hget ?_ | (with_reducible refine lx7 hC₁ ?_;rw [hcC]) | wp_step)
 refine lx7 hC₁ ?_
 refine a5 hcC ?_
 have X1:=X.keeps k2
 have I:InstAt ((h.push { cls:=.type "tuple",data:=.seq rest.toArray }).push { cls:=.ref C,data:=.fields #[.ref h.objs.size,.none,.none,.none,.bool false,.none] }) (h.objs.size+1)
   { cls:=.ref C,data:=.fields #[.ref h.objs.size,.none,.none,.none,.bool false,.none] } C none:=⟨hget,rfl,rfl,trivial⟩
 refine jk9 (kx6 (special_fn (s:=⟨_,g,d,t,os⟩) X1 I hi hf (kx7 hq (fun r s' hr=>?_) fun u_ u_ z=>z)))
 (refine oA hr ?_;clear hr;rintro rfl hr)
 exact jv5 hr
end
theorem az9:typeOf (.builtin "Exception.__init__")=pure (.type "wrapper_descriptor"):=by refine (?_:builtinType _=_);refine a5 builtinType_eq_fast ?_;kernel_rfl
theorem cx2:entryFor table "wrapper_descriptor.__get__"=some Builtin.«wrapper_descriptor.__get__»:=entryFor_of_tree (by kernel_rfl)
theorem dq7 (a b c:Value):argsOk "wrapper_descriptor.__get__" ⟨[a,b,c],[]⟩:=by dsimp only [argsOk];kernel_rfl
theorem cx1:".".intercalate ("Exception.__init__".cutAt '.').dropLast="Exception":=by rfl
theorem N3:Slot "wrapper_descriptor" "__get__" "wrapper_descriptor.__get__":=.of (owner:="wrapper_descriptor") (n:="__get__") (by refine a5 (typeLookup_type ..) (a5 (builtinLookup_eq_fast ..) ?_);kernel_rfl) (by rfl) (by rfl) (by rfl) (.inl (by rfl)) (by refine a5 (isSubtype_type ..) ?_;kernel_rfl)
section
variable {pG:Program} {w:World} {M:Model} {A:Around} {E:Value→Shared→Prop} {h:Heap} {g:Array GenState} {d:Drawn} {t:Nat} {os:OsState}
theorem aq4 {so D x C:Addr} {l₀ l:List Value} {K:Frag} {tk:Tok} {Q:Fin→Shared→Prop}
  (hso:h.get? so=some { cls:=.type "super",dict:=none,data:=.fields #[.ref D,.ref x,.ref C],slots:=#[] }) (hno:Looks (model pG w) h (opaqueClassAbove (.ref C)) none)
  (hC:Looks (model pG w) h (mroOf (.ref C)) l₀) (hl:(l₀.dropWhile (· != .ref D)).drop 1=l) (X:K.In h)
  (hf:alongIn K "__init__" l=some (some (.builtin "Exception.__init__"))) (hxC:x≠C) {ox:Obj} (hx:h.get? x=some ox) (hxc:ox.cls=.ref C) (hsub:Looks (model pG w) h (isSubtype (.ref C) (.type "Exception")) true)
  (hq:Q (.done (.ret (.ref h.objs.size))) ⟨h.push { cls:=.type "method-wrapper",data:=.fields #[.builtin "Exception.__init__",.ref x] },g,d,t,os⟩) :
  wpAny (model pG w) A (Builtin.«super.__getattribute__» ⟨[.ref so,.str "__init__" tk],[]⟩) Q E ⟨h,g,d,t,os⟩:=by
 have hlk:=N3.lookup
 have hne:(Value.ref x == Value.ref C)=false:=by simp [hxC]
 have hty:=az9
 have hTf:(⟨h,g,d,t,os⟩:Shared).TypeIs (.builtin "Exception.__init__") "wrapper_descriptor":=az9
 have hdt:({ cls:=.type "super",dict:=none,data:=.fields #[.ref D,.ref x,.ref C],slots:=#[] }:Obj).data=.fields #[.ref D,.ref x,.ref C]:=rfl
 have f0:(#[.ref D,.ref x,.ref C]:Array Value)[0]?=some (.ref D):=rfl
 have f1:(#[.ref D,.ref x,.ref C]:Array Value)[1]?=some (.ref x):=rfl
 have f2:(#[.ref D,.ref x,.ref C]:Array Value)[2]?=some (.ref C):=rfl
 have hn:(("__init__":Str) == ("__class__":Str))=false:=by rfl
 unfold Builtin.«super.__getattribute__»
 repeat (first
  | (with_reducible refine kw1 hso hdt f0 ?_) | (with_reducible refine kw1 hso hdt f1 ?_) | (with_reducible refine kw1 hso hdt f2 ?_)
  | (with_reducible refine ks_wpAny_notOpaque hno ?_)
  | (with_reducible refine Looks.at hC ?_;refine a5 hl ?_)
  | (refine ks_forIn_along X (fun u_ u_=>rfl) rfl ?_ hf)
  | (with_reducible refine lz3 hTf ?_)
  | wp_step
  | (with_reducible refine mk1 (by rw [hne];rfl) ?_)
  | dsimp only
  | refine a5 (if_neg (show ¬((Value.ref x == Value.ref C)=true) by refine a5 hne ?_;exact lx6)) ?_)
 refine mq5 N3.plain cx2 (N3.check _ _ _ _ _ _ _ _ hTf (dq7 _ _ _) ?_)
 unfold Builtin.«wrapper_descriptor.__get__»
 repeat (first
  | (with_reducible refine Looks.at hsub ?_)
  | (with_reducible refine kj6 hx ?_;refine a5 hxc ?_)
  | wp_step
  | dsimp only)
 refine a5 cx1 ?_
 repeat (first
  | (with_reducible refine Looks.at hsub ?_)
  | wp_step
  | dsimp only)
 all_goals exact hq
theorem N1 {so D x C:Addr} {l₀ l:List Value} {K:Frag} {pl:Sem Bool} {Q:Value × List Value→Shared→Prop}
  (hso:h.get? so=some { cls:=.type "super",dict:=none,data:=.fields #[.ref D,.ref x,.ref C],slots:=#[] }) (hno:Looks (model pG w) h (opaqueClassAbove (.ref C)) none)
  (hC:Looks (model pG w) h (mroOf (.ref C)) l₀) (hl:(l₀.dropWhile (· != .ref D)).drop 1=l) (X:K.In h)
  (hf:alongIn K "__init__" l=some (some (.builtin "Exception.__init__"))) (hxC:x≠C) {ox:Obj} (hx:h.get? x=some ox) (hxc:ox.cls=.ref C) (hsub:Looks (model pG w) h (isSubtype (.ref C) (.type "Exception")) true)
  (hq:Q (.ref h.objs.size,[]) ⟨h.push { cls:=.type "method-wrapper",data:=.fields #[.builtin "Exception.__init__",.ref x] },g,d,t+1,os⟩) :
  wpAny (model pG w) A (getMethod (.ref so) "__init__" pl) Q E ⟨h,g,d,t,os⟩:=by
 have hlk:=F.ks_slot_super_ga.lookup
 have hcan:=F.ks_canon_super_ga
 have hT:∀ t',(⟨h,g,d,t',os⟩:Shared).TypeIs (.ref so) "super":=fun u_=>⟨_,hso,rfl⟩
 dsimp only [getMethod]
 refine jk9 (wpAny_specialOf (hT _) hlk ?_)
 refine (?_:wpAny _ _ (if (Manifest.canonical "super.__getattribute__" != "object.__getattribute__")=true then _ else _) _ _ _)
 refine a5 (if_pos hcan) ?_
 delta getAttr getAttrBy
 refine jk9 (jk9 (mz5 (kx6 (jk9 (lz3 (hT _) (jk9 (mq3 hlk ?_)))))))
 refine (?_:wpAny _ _ (getAttrByItsOwn (.ref so) (.str "__init__" t) (.type "super") (.builtin "super.__getattribute__") true false) _ _ _)
 delta getAttrByItsOwn hookBefore callGetattribute boundAndCalled
 refine jk9 (mq3 (show (if onTheHeap (.type "super") then typeLookup (.type "super") "__getattr__" else pure none)=pure none from rfl) ?_)
 refine jk9 (mv1 (kx6 ?_))
 refine (?_:wpAny _ _ (bindSpecial (.builtin "super.__getattribute__") (.ref so) >>= _) _ _ _)
 refine jk9 (mq3 (F.ks_slot_super_ga.bind _) ?_)
 refine kx7 (Q:=fun v s'=>v=.ref h.objs.size∧s'=⟨h.push { cls:=.type "method-wrapper",data:=.fields #[.builtin "Exception.__init__",.ref x] },g,d,t+1,os⟩) (E:=fun u_ u_=>False)
  (kv6 F.ks_slot_super_ga (hT _) F.ks_entry_super_ga (aq4 hso hno hC hl X hf hxC hx hxc hsub ⟨_,rfl,rfl,rfl⟩) (F.ks_gaArgs_super _ _)) (fun v s' hv=>?_) fun u_ u_ z=>z.elim
 (refine oA hv ?_;clear hv;rintro rfl rfl)
 exact jv5 (jv5 hq)
theorem cw6 {mw x C a0:Addr} {v:Value} {cC:Value} {dC:Option Addr} {cd:ClassData} {sC:Array (Option Value)} (hC:h.get? C=some ⟨cC,dC,.cls cd,sC⟩) {Q:Value→Shared→Prop} (hmw:h.get? mw=some { cls:=.type "method-wrapper",data:=.fields #[.builtin "Exception.__init__",.ref x] })
  (hx:h.get? x=some { cls:=.ref C,data:=.fields #[.ref a0,.none,.none,.none,.bool false,.none] })
  (hq:Q .none ⟨(h.push { cls:=.type "tuple",data:=.seq #[v] }).update x (Qn (·.setIfInBounds 0 (.ref h.objs.size))),g,d,t,os⟩) :
  wpAny (model pG w) A (call (.ref mw) [v]) Q E ⟨h,g,d,t,os⟩:=by
 refine lx2 (kk0 ?_)
 refine (?_:wpAny _ _ (callAny (.ref mw) _) _ _ _)
 dsimp only [callAny]
 refine jk9 (lx1 hmw ?_)
 refine (?_:wpAny _ _ (checkBoundCall "Exception.__init__" ⟨[.ref x,v],[]⟩ >>= fun u_=>again (.builtin "Exception.__init__" ⟨[.ref x,v],[]⟩)) _ _ _)
 have FE:=F.excBase_Exception
 refine jk9 ?_
 delta checkBoundCall
 have z1:=FE.initKind
 have z2:=FE.initRow
 generalize builtinKind "Exception.__init__"=k1 at z1 ⊢
 subst z1
 generalize Manifest.signature? "Exception.__init__"=k2 at z2 ⊢
 subst z2
 have hstar:=FE.noStar
 repeat (first | with_reducible refine kj6 hx ?_ | with_reducible refine kj6 hC ?_ | wp_step)
 refine ⟨Code.quiet_builtin _ (by decide +kernel),kw4 FE.initEntry ?_⟩
 unfold Builtin.«BaseException.__init__»
 have hx1:=Qb { cls:=.type "tuple",data:=.seq [v].toArray } hx
 repeat (first
  | (with_reducible refine kj6 hx1 ?_)
  | wp_step
  | dsimp only)
 exact hq
end
end Mine
section
namespace Mine
open Builtin Builtin.ObjectAttr
section
variable {pG:Program} {w:World} {A:Around} {E:Value→Shared→Prop} {s:Shared} {K:Frag} {x C:Addr} {R:Result→Shared→Prop}
theorem dk1 (self:Value):refuseLoop self "__setattr__" [.ref 100,.ref 76,.ref 47,.type "Exception",.type "BaseException",.type "object"]=pure ():=by
 refine a5 (refuseLoop_ref ..) (a5 (refuseLoop_ref ..) (a5 (refuseLoop_ref ..) ?_))
 kernel_rfl
theorem Y5 {ox:Obj} {od:Option Obj} {name:Str} {tk:Tok} {v:Value} {cd:ClassData} (X:K.In s.heap) (I:InstAt s.heap x ox C od) (hc:clsIn K C=some cd) (hm:cd.mro=[.ref 100,.ref 76,.ref 47,.type "Exception",.type "BaseException",.type "object"]) (ht:takerIn K C name=some none)
  (h:∀ b,wpAny (model pG w) A.in1 (storeInOwnDict (.ref x) (.ref C) (.str name tk) name v b)
   (fun fin s'=>match fin with | .done f=>R (.ok f) s' | .again c'=>c'.quiet=true∧codeAny (model pG w) A c' R s') (fun e s'=>R (.error e) s') s) :
  codeAny (model pG w) A (.call (.builtin "object.__setattr__") ⟨[.ref x,.str name tk,v],[]⟩) R s:=by
 have SF:=PySem.F.store_object
 have sub:Looks (model pG w) s.heap (isInstance (.ref x) (.type "object")) true:=I.type.andThen (looks_mroIn X (by dsimp only [mroIn];refine a5 (hc ..) (a5 (Option.bind_some ..) (a5 (hm ..) ?_));rfl))
 refine mq5 SF.slot.plain SF.entry (@check_slot (model pG w) _ _ s "object.__setattr__" "object" "__setattr__" (.ref x) [.str name tk,v] [] _ SF.kind SF.split sub (SF.args (.ref x) (.str name tk) v) ?_)
 refine c9 (lk4.mp ht) fun attr ha hr=>?_
 have hm':Looks (model pG w) s.heap (mroOf (.ref C)) cd.mro:=(looks_clsIn X hc).andThen .now
 have L3:Looks (model pG w) s.heap (storeTaker? attr) none:=by
  induction attr using Qd with
  | none=>cases hr;exact .now
  | some a =>
   refine c9 (kz0.mp hr) fun b hb hr=>?_
   refine (looks_takesIn X hb).andThen ?_
   induction b using Ql with
   | true=>exact ns hr
   | false=>exact .now
 refine a5 (osa_eq ..) (a5 (refuse_eq ..) ?_)
 refine jk9 (jk9 (I.type.here (jk9 (hm'.here ?_))))
 refine a5 (hm ..) (a5 (dk1 ..) ?_)
 refine jv5 (jk9 (I.type.here (jk9 ((looks_findIn X ha).here (jk9 (L3.here ?_))))))
 exact h _
theorem gv2 {name:Str} {v:Value} {cd:ClassData} {vs:Array Value} {Q:Unit→Shared→Prop} (X:K.In s.heap) (hx:s.heap.get? x=some { cls:=.ref C,data:=.fields vs }) (hc:clsIn K C=some cd) (hm:cd.mro=[.ref 100,.ref 76,.ref 47,.type "Exception",.type "BaseException",.type "object"])
  (hd:cd.hasDict=true) (hs:findIn K (.ref C) "__setattr__"=some (some (.builtin "object.__setattr__"))) (ht:takerIn K C name=some none)
  (h:∀ h' tk hsh t1,h'.get? x=some { cls:=.ref C,dict:=some s.heap.objs.size,data:=.fields vs }→h'.get? s.heap.objs.size=some ⟨.type "dict",none,.dict #[⟨hsh,.str name t1,v⟩] 1,#[]⟩→(∀ b o,b≠x→s.heap.get? b=some o→h'.get? b=some o)→Q () { s with heap:=h',toks:=tk }) :
  wpAny (model pG w) A (setAttr (.ref x) name v) Q E s:=by
 have I:InstAt s.heap x { cls:=.ref C,data:=.fields vs } C none:=⟨hx,rfl,rfl,trivial⟩
 refine set_plain X I hs (Y5 (s:={ s with toks:=s.toks+1 }) X I hc hm ht fun b=>?_)
 delta storeInOwnDict ownDictForStores instanceDict
 refine jk9 (jv5 (jk9 (jk9 (lz5 hx (jk9 (Looks.here (s:={ s with toks:=s.toks+1 }) (looks_clsIn X hc) ?_))))))
 refine a5 hd ?_
 refine (?_:wpAny _ _ (alloc { cls:=Value.type "dict",data:=Data.dict #[] } >>= fun d=>update x (fun o=>{ cls:=o.cls,dict:=some d,data:=o.data,slots:=o.slots }) >>= fun u_=>dictMade (.ref C) x d) _ _ _)
 refine jk9 (nx8 (jk9 ?_))
 have hx1:(s.heap.push { cls:=Value.type "dict",data:=Data.dict #[] }).get? x=some { cls:=.ref C,data:=.fields vs }:=Qb _ hx
 have hlt:x≠s.heap.objs.size:=kz1 (Qi hx)
 refine wpAny_update hx1 ?_
 have ex:=Qj (fun o:Obj=>{ cls:=o.cls,dict:=some s.heap.objs.size,data:=o.data,slots:=o.slots }) hx1 rfl
 have ed:((s.heap.push { cls:=Value.type "dict",data:=Data.dict #[] }).update x (fun o:Obj=>{ cls:=o.cls,dict:=some s.heap.objs.size,data:=o.data,slots:=o.slots })).get? s.heap.objs.size=some (dictOf [] 0) :=
  (Qk _ _ hlt).trans (Qc _ rfl)
 have ek:∀ b o,b≠x→s.heap.get? b=some o→((s.heap.push { cls:=Value.type "dict",data:=Data.dict #[] }).update x (fun o:Obj=>{ cls:=o.cls,dict:=some s.heap.objs.size,data:=o.data,slots:=o.slots })).get? b=some o:=fun b o n e =>
  (Qk _ _ (Ne.symm n)).trans (Qb _ e)
 generalize ((s.heap.push { cls:=Value.type "dict",data:=Data.dict #[] }).update x (fun o:Obj=>{ cls:=o.cls,dict:=some s.heap.objs.size,data:=o.data,slots:=o.slots }))=h2 at ex ed ek ⊢
 refine jv5 ?_
 refine (?_:wpAny _ _ (storeInDict s.heap.objs.size (.str name s.toks) name v) _ _ _)
 dsimp only [storeInDict]
 refine jk9 (jv5 (jk9 ?_))
 dsimp only [nsSet]
 have D:({ s with heap:=h2,toks:=s.toks+1+1 }:Shared).heap.get? s.heap.objs.size=some (dictOf [] 0):=ed
 refine jk9 (jk9 (lq2 (jv5 (jk9 (mz5 (jk9 (lz5 D ?_)))))))
 dsimp only
 refine a5 (aRefKeyMayBeTheName_at ..) ?_
 have c:(!(#[]:Array DictEntry).any (·.key.isStr name)&&(#[]:Array DictEntry).any (·.refKey))=false:=by
  simp
 refine a5 c ?_
 refine mj2 D ?_
 have D':=Qj (Obj.putName name (PyData.keyHash w.params name) (.str name (s.toks+1)) v) D (by refine a5 (putName_dict ..) ?_;rfl)
 rw [putName_dict] at D'
 have hp':(dictOf (putL name (PyData.keyHash w.params name) (.str name (s.toks+1)) v []) (putN name [] 0)).data.pastItsLine=none:=by
  refine pastItsLine_dict ?_
  have:sizeLine=16777216:=by rfl
  refine (?_:1≤_)
  exact jv2 tT
 refine jk9 (mj3 D' hp' ?_)
 refine jv5 (h _ _ _ _ ?_ D' fun b o n e=>?_)
 ·exact (Qk _ _ (Ne.symm hlt)).trans ex
 ·exact (Qk _ _ (kj2 (Qi e))).trans (ek b o n e)
theorem gv1 {name nm1:Str} {v v1:Value} {hsh1:Int} {t1:Tok} {dd:Addr} {m:Nat} {cd:ClassData} {vs:Array Value} {Q:Unit→Shared→Prop} (X:K.In s.heap) (hx:s.heap.get? x=some { cls:=.ref C,dict:=some dd,data:=.fields vs }) (hdd:s.heap.get? dd=some ⟨.type "dict",none,.dict #[⟨hsh1,.str nm1 t1,v1⟩] m,#[]⟩) (hne:(nm1 == name)=false) (hxd:x≠dd)
  (hc:clsIn K C=some cd) (hm:cd.mro=[.ref 100,.ref 76,.ref 47,.type "Exception",.type "BaseException",.type "object"])
  (hd:cd.hasDict=true) (hs:findIn K (.ref C) "__setattr__"=some (some (.builtin "object.__setattr__"))) (ht:takerIn K C name=some none)
  (h:∀ h' tk,h'.get? x=some { cls:=.ref C,dict:=some dd,data:=.fields vs }→(∀ b o,b≠dd→s.heap.get? b=some o→h'.get? b=some o)→Q () { s with heap:=h',toks:=tk }) :
  wpAny (model pG w) A (setAttr (.ref x) name v) Q E s:=by
 have I:InstAt s.heap x { cls:=.ref C,dict:=some dd,data:=.fields vs } C (some ⟨.type "dict",none,.dict #[⟨hsh1,.str nm1 t1,v1⟩] m,#[]⟩):=⟨hx,rfl,rfl,hdd⟩
 refine set_plain X I hs (Y5 (s:={ s with toks:=s.toks+1 }) X I hc hm ht fun b=>?_)
 delta storeInOwnDict ownDictForStores instanceDict
 refine jk9 (jv5 (jk9 (jk9 (lz5 hx (jk9 (Looks.here (s:={ s with toks:=s.toks+1 }) (looks_clsIn X hc) ?_))))))
 refine a5 hd ?_
 refine jv5 (a:=some dd) ?_
 refine (?_:wpAny _ _ (storeInDict dd (.str name s.toks) name v) _ _ _)
 dsimp only [storeInDict]
 refine jk9 (jv5 (jk9 ?_))
 dsimp only [nsSet]
 have D:({ s with toks:=s.toks+1+1 }:Shared).heap.get? dd=some (dictOf [⟨hsh1,.str nm1 t1,v1⟩] m):=hdd
 refine jk9 (jk9 (lq2 (jv5 (jk9 (mz5 (jk9 (lz5 D ?_)))))))
 dsimp only
 refine a5 (aRefKeyMayBeTheName_at ..) ?_
 have c:(!(List.toArray [(⟨hsh1,.str nm1 t1,v1⟩:DictEntry)]).any (·.key.isStr name)&&(List.toArray [(⟨hsh1,.str nm1 t1,v1⟩:DictEntry)]).any (·.refKey))=false:=by
  simp [DictEntry.refKey]
 refine a5 c ?_
 refine mj2 D ?_
 have D':=Qj (Obj.putName name (PyData.keyHash w.params name) (.str name (s.toks+1)) v) D (by refine a5 (putName_dict ..) ?_;rfl)
 rw [putName_dict] at D'
 have hp':(dictOf (putL name (PyData.keyHash w.params name) (.str name (s.toks+1)) v [⟨hsh1,.str nm1 t1,v1⟩]) (putN name [⟨hsh1,.str nm1 t1,v1⟩] m)).data.pastItsLine=none:=by
  refine pastItsLine_dict ?_
  have:=N9 (name:=name) (hsh:=PyData.keyHash w.params name) (key:=.str name (s.toks+1)) (v:=v) (es:=[⟨hsh1,.str nm1 t1,v1⟩])
  have:sizeLine=16777216:=by rfl
  refine a5 lz0 ?_
  simp at *
  exact ul this tT
 refine jk9 (mj3 D' hp' ?_)
 refine jv5 (h _ _ ?_ fun b o n e=>?_)
 ·exact (Qk _ _ (Ne.symm hxd)).trans hx
 ·exact (Qk _ _ (Ne.symm n)).trans e
end
end Mine
end
namespace Mine
section
variable {pG:Program} {w:World} {A:Around} {E:Value→Shared→Prop} {s:Shared} {hb:Heap} {R:Result→Shared→Prop}
noncomputable abbrev V4 (a0:Addr) (d:Option Addr):Obj:={ cls:=.ref 100,dict:=d,data:=.fields #[.ref a0,.none,.none,.none,.bool false,.none] }
theorem dw3 {x:Addr} {g h h':Heap} (k:Sub g h) (nx:g.get? x=none) (u:∀ b o,b≠x→h.get? b=some o→h'.get? b=some o):Sub g h':=fun b o e=>u b o (fun q=>by (replace q:=q.symm;subst q);exact a7 e nx) (k b o e)
theorem gz0 {x L:Addr} {h h':Heap} {m:Str→Option Value} (n:h.Ns L m) (ne:L≠x) (u:∀ b o,b≠x→h.get? b=some o→h'.get? b=some o):h'.Ns L m:=by
 (refine w5 n ?_;clear n;intro oL es ep e r)
 exact ⟨oL,es,ep,u _ _ ne e,r⟩
set_option tactic.hygienic true in
theorem bk5 {x D cc cda f a0:Addr} {L:Addr} {scope:Scope} {q attr:Str} {body:List Stmt} {p0 p1:Pos} {fd:FuncData} {ar:Arg} {m:Str→Option Value} {whole:Sem Value} {oc ccl cl:Value} {od cdd cld:Option Addr} {osl ccs csl:Array (Option Value)} {vs:Array Value} {tf:Tok} {cdD:ClassData} {dx:Option Addr} {Q:Value→Shared→Prop}
  (B:Base w hb) (k:Sub hb s.heap) (hx:s.heap.get? x=some (V4 a0 dx)) (hns:s.heap.Ns L m) (hv:m ar.arg=some (.ref x))
  (hfile:(pG.main.file == ("/claim/cut.py":Str))=true) (htop:(pG.main.scope.names.lookup ("super":Str)).isSome=false)
  (hf:(KK w).lookup f=some ⟨oc,od,.func fd,osl⟩) (hp:(fd.params.posonlyargs++fd.params.args).head?=some ar) (hcode:(KK w).lookup cda=some ⟨ccl,cdd,.fields vs,ccs⟩) (hvs:vs[2]?=some (.str "/claim/cut.py" tf))
  (hcell:(KK w).lookup cc=some ⟨cl,cld,.cell (some (.ref D)),csl⟩) (hD:clsIn (KK w) D=some cdD) (hsub:mroIn (KK w) 100 (.ref D)=some true)
  (hat:(attr == ("__class__":Str))=false) (hks:scope.names.lookup ("super":Str)=some .globalImplicit) (hkc:scope.names.lookup ("__class__":Str)=some .free) (hka:scope.names.lookup ar.arg=some .local) (hk:scope.kind=.function)
  (h:∀ h',h'.get? s.heap.objs.size=some (ks_superObj D x 100)→Sub s.heap h'→Q (.ref s.heap.objs.size) { s with heap:=h' }) :
  _root_.PySem.wpAt (model pG w) A (.func body (ksEnv q scope L f (.ref cda) cc)) (attributeBase (.Call (.Name "super" p0) [] [] p1) attr (ksEnv q scope L f (.ref cda) cc) whole) Q E s:=by
 refine k8 B.T fun pp loose mg mb T0=>?_
 have X:=B.X.keeps k
 have T:=T0.keeps k
 obtain ⟨hh,g,d,t,os⟩:=s
 obtain ⟨oD,hD1,hD2⟩:∃ oD,hh.get? D=some oD∧oD.data=.cls cdD:=by
  dsimp only [clsIn] at hD
  split at hD
  ·rename_i c d cd' sl ho
   (injection hD with i;subst i)
   exact ⟨_,X _ _ ho,rfl⟩
  ·exact nn hD
 refine ks_wpAt_super_base (env:=ksEnv q scope L f (.ref cda) cc) hks hkc hat rfl (X _ _ hf) rfl hp rfl (X _ _ hcode) rfl hvs hfile htop ?_
 refine ks_loadName_global hk hks (loadGlobal_builtin (env:=ksEnv q scope L f (.ref cda) cc) T.g (mg_none_of B.X T0.g rfl) T.b ((T.builtins _ (by trivial)).trans rfl) ⟨rfl,?_⟩)
 refine lj8 hk hkc rfl ⟨_,X _ _ hcell,rfl⟩ ?_
 refine kj9 hk hka hns hv ?_
 refine ks_wpAny_isType_cls hD1 hD2 ⟨rfl,?_⟩
 refine ks_wpAny_call_super hD1 hD2 hx rfl (fun c e=>by cases e) (looks_mroIn X hsub) (fun h' e k=>?_)
 exact h _ e k
theorem jz9 {x a0:Addr} {v:Value} (B:Base w hb) (k:Sub hb s.heap) (nx:hb.get? x=none) (hx:s.heap.get? x=some (V4 a0 none)) (hdp:A.depth<recursionLimit)
  (hfile:(pG.main.file == ("/claim/cut.py":Str))=true) (htop:(pG.main.scope.names.lookup ("super":Str)).isSome=false)
  (h:∀ h' tk a1 dd hsh t1,h'.get? x=some (V4 a1 (some dd))→h'.get? dd=some ⟨.type "dict",none,.dict #[⟨hsh,.str "what" t1,v⟩] 1,#[]⟩→dd≠x→s.heap.get? dd=none →
   (∀ b o,b≠x→s.heap.get? b=some o→h'.get? b=some o)→R (.ok (.ret .none)) { s with heap:=h',toks:=tk }) :
  codeAny (model pG w) A (.call (.ref 37) ⟨[.ref x,v],[]⟩) R s:=by
 have X:=B.X.keeps k
 refine k8 B.T fun pp loose mg mb T0=>?_
 have T:=T0.keeps k
 refine ks_codeAny_call_defAt (a:=37) hdp (X 37 _ rfl) rfl T.nolimit ⟨36,_,_,_,rfl,X 36 _ rfl,rfl,rfl⟩ rfl (BindsTo.of_eq (binds:=[("self",.ref x),("what",v)]) rfl) (by decide) (locs rfl) fun h1 hns k1=>?_
 have n1:s.heap.objs.size≠x:=kj2 (Qi hx)
 have ks1:Sub hb h1:=k.trans k1
 have hx1:=k1 _ _ hx
 refine ks_wpAt_execs_cons (ks_wpAt_Expr_any (ks_wpAt_MethodCall ?_))
 refine bk5 (s:=⟨h1,s.gens,s.drawn,_,s.os⟩) B ks1 hx1 hns rfl hfile htop rfl rfl rfl rfl rfl rfl rfl rfl rfl rfl rfl rfl fun h2 hso k2=>?_
 have X2:=B.X.keeps (ks1.trans k2)
 have hx2:=k2 _ _ hx1
 refine N1 hso (looks_opaque X2 rfl) (l₀:=_) (looks_clsIn (M:=model pG w) X2 (C:=100) rfl |>.andThen .now) rfl X2 rfl ?_ hx2 rfl ?_ ?_
 ·rintro rfl
  exact a7 (B.X 100 _ rfl) nx
 ·exact looks_mroIn X2 rfl
 have hmw:(h2.push { cls:=.type "method-wrapper",data:=.fields #[.builtin "Exception.__init__",.ref x] }).get? h2.objs.size=some { cls:=.type "method-wrapper",data:=.fields #[.builtin "Exception.__init__",.ref x] }:=Heap.get?_push_at rfl rfl
 have k3:Sub h2 (h2.push { cls:=.type "method-wrapper",data:=.fields #[.builtin "Exception.__init__",.ref x] }):=t7 _ _
 generalize (h2.push { cls:=.type "method-wrapper",data:=.fields #[.builtin "Exception.__init__",.ref x] })=h3 at hmw k3 ⊢
 have hns3:h3.Ns s.heap.objs.size _:=(hns.keeps k2).keeps k3
 have hx3:=k3 _ _ hx2
 have ks3:=(ks1.trans k2).trans k3
 refine callWith_of (P:=fun h=>h.get? h2.objs.size=some { cls:=.type "method-wrapper",data:=.fields #[.builtin "Exception.__init__",.ref x] }) rfl (fun h e=>⟨.machine,.inr (.inl rfl),fun A Q E s k q=>?_⟩) (o5 rfl (lq1 (lx3 (kj9 rfl rfl hns3 rfl (lq3 ⟨hmw,?_⟩))) rfl))
 ·dsimp only [keeperOf]
  exact jk9 (lx1 (k _ _ e) (jv5 q))
 refine cw6 (B.X.keeps ks3 100 _ rfl) hmw hx3 ?_
 have hxt:=Qb (h:=h3) { cls:=.type "tuple",data:=.seq #[v] } hx3
 have hx4:=Qj (Qn (·.setIfInBounds 0 (.ref h3.objs.size))) hxt rfl
 have k4:∀ b o,b≠x→h3.get? b=some o→((h3.push { cls:=.type "tuple",data:=.seq #[v] }).update x (Qn (·.setIfInBounds 0 (.ref h3.objs.size)))).get? b=some o:=fun b o n e =>
  (Qk _ _ (Ne.symm n)).trans (Qb _ e)
 generalize ((h3.push { cls:=.type "tuple",data:=.seq #[v] }).update x (Qn (·.setIfInBounds 0 (.ref h3.objs.size))))=h4 at hx4 k4 ⊢
 have hx4:h4.get? x=some (V4 h3.objs.size none):=hx4
 have hns4:=gz0 hns3 n1 k4
 have ks4:=dw3 ks3 nx k4
 refine (?_:_root_.PySem.wpAt _ _ _ (execs _ _) _ _ _)
 refine ks_wpAt_execs_cons (ks_wpAt_Assign_Attr ?_)
 refine wpAt_of_wpAny (lx3 (kj9 rfl rfl hns4 rfl (lx3 (kj9 rfl rfl hns4 rfl ?_))))
 refine gv2 (K:=KK w) (B.X.keeps ks4) hx4 rfl rfl rfl rfl rfl fun h5 tk hsh t1 hx5 hd5 k5=>?_
 refine wpAt_of_wpAny (lj6 ?_)
 have n4:s.heap.get? h4.objs.size=none:=by
  cases z:s.heap.get? h4.objs.size with
  | none=>rfl
  | some o =>
   by_cases e:h4.objs.size=x
   ·exact absurd (Qi hx4) (by refine a5 e ?_;exact lk6 _)
   ·exact absurd (Qi (k4 _ _ e (k3 _ _ (k2 _ _ (k1 _ _ z))))) (lk6 _)
 exact h h5 _ _ _ _ _ hx5 hd5 (kj2 (Qi hx4)) n4 fun b o n e=>k5 b o n (k4 b o n (k3 _ _ (k2 _ _ (k1 _ _ e))))
theorem jz8 {x a0:Addr} {v v1:Value} (B:Base w hb) (k:Sub hb s.heap) (nx:hb.get? x=none) (hx:s.heap.get? x=some (V4 a0 none)) (hdp:A.depth+5<recursionLimit)
  (hfile:(pG.main.file == ("/claim/cut.py":Str))=true) (htop:(pG.main.scope.names.lookup ("super":Str)).isSome=false)
  (h:∀ h' tk a1 dd,h'.get? x=some (V4 a1 (some dd)) →
   (∀ b o,b≠x→s.heap.get? b=some o→h'.get? b=some o)→R (.ok (.ret .none)) { s with heap:=h',toks:=tk }) :
  codeAny (model pG w) A (.call (.ref 66) ⟨[.ref x,v,v1],[]⟩) R s:=by
 have X:=B.X.keeps k
 refine k8 B.T fun pp loose mg mb T0=>?_
 have T:=T0.keeps k
 refine ks_codeAny_call_defAt (a:=66) (by exact d6 [_] 1 (.add (.add zA (.num 5)) nA) (.num 1000) (.add zA nA) (.num 1000) tT hdp) (X 66 _ rfl) rfl T.nolimit ⟨65,_,_,_,rfl,X 65 _ rfl,rfl,rfl⟩ rfl (BindsTo.of_eq (binds:=[("self",.ref x),("what",v),("spot",v1)]) rfl) (by decide) (locs rfl) fun h1 hns k1=>?_
 have n1:s.heap.objs.size≠x:=kj2 (Qi hx)
 have ks1:Sub hb h1:=k.trans k1
 have hx1:=k1 _ _ hx
 refine ks_wpAt_execs_cons (ks_wpAt_Expr_any (ks_wpAt_MethodCall ?_))
 refine bk5 (s:=⟨h1,s.gens,s.drawn,_,s.os⟩) B ks1 hx1 hns rfl hfile htop rfl rfl rfl rfl rfl rfl rfl rfl rfl rfl rfl rfl fun h2 hso k2=>?_
 have X2:=B.X.keeps (ks1.trans k2)
 have hx2:=k2 _ _ hx1
 refine ks_wpAny_getMethod_super hso (looks_opaque X2 rfl) (l₀:=_) (looks_clsIn (M:=model pG w) X2 (C:=100) rfl |>.andThen .now) rfl X2 (f:=37) rfl (X2 37 _ rfl) rfl ?_ rfl ?_
 ·rintro rfl
  exact a7 (B.X 100 _ rfl) nx
 have hmw:(h2.push { cls:=.type "method",data:=.fields #[.ref 37,.ref x] }).get? h2.objs.size=some { cls:=.type "method",data:=.fields #[.ref 37,.ref x] }:=Heap.get?_push_at rfl rfl
 have k3:Sub h2 (h2.push { cls:=.type "method",data:=.fields #[.ref 37,.ref x] }):=t7 _ _
 generalize (h2.push { cls:=.type "method",data:=.fields #[.ref 37,.ref x] })=h3 at hmw k3 ⊢
 have hns3:h3.Ns s.heap.objs.size _:=(hns.keeps k2).keeps k3
 have hx3:=k3 _ _ hx2
 have ks3:=(ks1.trans k2).trans k3
 refine callWith_of (P:=fun h=>h.get? h2.objs.size=some { cls:=.type "method",data:=.fields #[.ref 37,.ref x] }∧(KK w).In h) rfl (fun h e=>⟨.boundFrame,.inr (.inr rfl),fun A Q E s k q=>?_⟩) (o5 rfl (lq1 (lx3 (kj9 rfl rfl hns3 rfl (lq3 ⟨⟨hmw,B.X.keeps ks3⟩,?_⟩))) rfl))
 ·dsimp only [keeperOf]
  refine jk9 (lx1 (k _ _ e.1) ?_)
  refine jk9 (lx1 (k _ _ (e.2 37 _ rfl)) ?_)
  exact jv5 q
 refine lx2 (kk0 ?_)
 refine (?_:wpAny _ _ (callAny (.ref h2.objs.size) _) _ _ _)
 dsimp only [callAny]
 refine jk9 (lx1 hmw ?_)
 refine (?_:wpAny _ _ (again (.call (.ref 37) ⟨[.ref x,v],[]⟩)) _ _ _)
 refine jv5 ⟨rfl,jz9 B ks3 nx hx3 ?_ hfile htop fun h4 tk a1 dd hsh t1 hx4 hdd4 hne n4 k4=>?_⟩
 ·refine (?_:A.depth+1+0<_)
  exact d6 [_] 1 (.add (.add zA (.num 5)) nA) (.num 1000) (.add (.add (.add zA nA) (.num 0)) nA) (.num 1000) tT hdp
 have hns4:=gz0 hns3 n1 k4
 have ks4:=dw3 ks3 nx k4
 refine (?_:_root_.PySem.wpAt _ _ _ (execs _ _) _ _ _)
 refine ks_wpAt_execs_cons (ks_wpAt_Assign_Attr ?_)
 refine wpAt_of_wpAny (lx3 (kj9 rfl rfl hns4 rfl (lx3 (kj9 rfl rfl hns4 rfl ?_))))
 refine gv1 (K:=KK w) (B.X.keeps ks4) hx4 hdd4 (by decide) (Ne.symm hne) rfl rfl rfl rfl rfl fun h5 tk hx5 k5=>?_
 refine wpAt_of_wpAny (lj6 ?_)
 refine h h5 _ _ _ hx5 fun b o n e=>?_
 have e4:=k4 b o n (k3 _ _ (k2 _ _ (k1 _ _ e)))
 have e3:h3.get? b=some o:=k3 _ _ (k2 _ _ (k1 _ _ e))
 refine k5 b o (fun q=>?_) e4
 (replace q:=q.symm;subst q)
 exact a7 e3 n4
end
section
variable {M:Model} {A:Around} {E:Value→Shared→Prop} {env:Env}
variable {nm q:Str} {C N:Addr} {bs bm:List Value} {hdct:Bool} {sn:List Str} {sub:List Value} {ab:Bool} {col:Option Bool} {dd:Option Addr} {k0 k1 k2 k3 k5:Option Value} {B newId initId:String}
theorem fx2 {s:Shared} {x:Sem Value} {Q:Flow→Shared→Prop} (hbase:bm.contains (.type "BaseException")=true) (hh:A.handled=none)
  (h:wpAny M A x (fun v s₁=>∃ e t dx,v=.ref e∧s₁.heap.get? C=some (excClassObj nm q C N bs bm hdct sn sub ab col dd k0 k1 k2 k3 k5 newId) ∧
   s₁.heap.get? e=some { cls:=.ref C,dict:=dx,data:=.fields #[.ref t,.none,.none,.none,.bool false,.none] }∧E (.ref e) s₁) E s) :
  wpAny M A (raiseStmt env (some x) none) Q E s:=by
 have hcB:(Value.ref C::bm).contains (.type "BaseException")=true:=by exact a5 (List.contains_cons ..) (a5 (hbase ..) (a5 (Bool.or_true ..) rfl))
 unfold raiseStmt
 refine jk9 (kx7 h (fun v s₁ h₁=>?_) fun u_ u_ x=>x)
 (refine oE h₁ ?_;clear h₁;intro e y;refine oE y ?_;clear y;intro t y;refine o4 y ?_;clear y;rintro dx rfl hC he hE)
 obtain ⟨hp,g,d,tk,os⟩:=s₁
 repeat (first | with_reducible refine kj6 he ?_ | with_reducible refine kj6 hC ?_ | (with_reducible refine lx7 hC ?_;refine a5 hcB ?_) | wp_step)
 exact wpAny_raiseNew_none hh hE
end
section
variable {pG:Program} {w:World} {hb:Heap} {sc:Scope} {n:Nat} {X:Xs} {ρ:c8} {H:HL}
theorem iw1 {l:List Value} (h:l.length=2):∃ a b,l=[a,b]:=by
 induction l using Qh with
 | nil=>exact absurd h.symm (kw7 1)
 | cons a t =>
  induction t using Qh with
  | nil=>exact absurd (Nat.succ.inj h).symm (kw7 0)
  | cons b u =>
   induction u using Qh with
   | nil=>exact ⟨a,b,rfl⟩
   | cons=>exact absurd (Nat.succ.inj (Nat.succ.inj h)) (kw7 _)
theorem fj8 {np cpos pos:Pos} {args:List Expr} {Q:Flw→c8→HL→Prop} (hX:X.ex) (hfile:(pG.main.file == ("/claim/cut.py":Str))=true) (htop:(pG.main.scope.names.lookup ("super":Str)).isSome=false)
  (hk:sc.names.lookup ("ScopeFault":Str)=some .globalImplicit)
  (h:TEs pG w hb sc n X ρ cpos args H fun ds H1=>ds.length=2) (hp:∀ env,(backTo cpos (starEach args env)).any (·.1)=false:=by intro _;rfl) :
  TX pG w hb sc n X ρ (.Raise (some (.Call (.Name "ScopeFault" np) args [] cpos)) none pos) H Q:=by
 refine .intro fun env A Z s R E p ex k=>?_
 refine a5 (arm_exec_Raise ..) ?_
 refine jk9 (kv7 ?_)
 refine (?_:wpAny _ _ (raiseStmt env (some (do let v ← eval _ env;standAt pos;pure v)) none) _ _ _)
 obtain ⟨nm,q,N,bs,hdct,sn,sub,ab,col,dd0,k0,k1,k2',k3,k5,hC⟩:∃ nm q N bs hdct sn sub ab col dd k0 k1 k2 k3 k5,(KK w).lookup 100=some (excClassObj nm q 100 N bs [.ref 76,.ref 47,.type "Exception",.type "BaseException",.type "object"] hdct sn sub ab col dd k0 k1 k2 k3 k5 "Exception.__new__"):=⟨_,_,_,_,_,_,_,_,_,_,_,_,_,_,_,rfl⟩
 refine fx2 (C:=100) (nm:=nm) (q:=q) (N:=N) (bs:=bs) (bm:=[.ref 76,.ref 47,.type "Exception",.type "BaseException",.type "object"]) (hdct:=hdct) (sn:=sn) (sub:=sub) (ab:=ab) (col:=col) (dd:=dd0) (k0:=k0) (k1:=k1) (k2:=k2') (k3:=k3) (k5:=k5) (newId:="Exception.__new__") (by rfl) p.room.handled (jk9 ?_)
 refine wpAny_Call_ofName ?_
 have tg:TE pG w hb sc n X ρ (.Name "ScopeFault" np) H fun d H'=>d=.con (.ref 100)∧H'=H:=bj1 hk (fun u_=>rfl) (fun u_=>.con) ⟨rfl,rfl⟩
 refine tg.run p ex fun {f s1 Z1 d1 ρ1 H1} st1 p1 ex1 u1 r1 q1=>?_
 (refine J7 q1 ?_;clear q1;rintro rfl rfl rfl)
 (replace r1:=r1.inv;subst r1)
 refine callWith_of (P:=fun h=>(KK w).In h) (by refine a5 (hp ..) ?_;rfl) (G6 (w:=w) (f:=.ref 100) rfl) (o5 (hp _) ?_)
 refine Tri.run (t:=fun env=>spliced (backTo cpos (starEach args env))) h p1 ex1 fun {vs s2 Z2 ds ρ2 H2} st2 p2 ex2 u2 r2 q2=>?_
 (refine oA q2 ?_;clear q2;rintro rfl q2)
 have XK:=p2.sat.toSat.K
 refine ⟨XK,?_⟩
 have hlen:vs.length=2:=(RepL.length r2).trans q2
 (refine oEE (iw1 hlen) ?_;rintro a b rfl)
 have bb:Sub hb s2.heap:=p2.sat.base.trans (g6 _ _)
 obtain ⟨hh,g,d,t,os⟩:=s2
 refine gv3 F.excBase_Exception XK (fI:=66) (by rfl) (by rfl) (by rfl) (XK 100 _ hC) rfl rfl (lx2 ?_) (I3 (by refine (?_:2≤_);exact jv2 tT))
 have k2:Sub hh ((hh.push { cls:=.type "tuple",data:=.seq [a,b].toArray }).push { cls:=.ref 100,data:=.fields #[.ref hh.objs.size,.none,.none,.none,.bool false,.none] }):=fun u_ u_ e=>Qb _ (Qb _ e)
 have n1:hh.get? (hh.objs.size+1)=none:=Qf (lz6 _)
 have hx:((hh.push { cls:=.type "tuple",data:=.seq [a,b].toArray }).push { cls:=.ref 100,data:=.fields #[.ref hh.objs.size,.none,.none,.none,.bool false,.none] }).get? (hh.objs.size+1)=some (V4 hh.objs.size none):=by
  have:=Qc (h:=hh.push { cls:=.type "tuple",data:=.seq [a,b].toArray }) (o:={ cls:=.ref 100,data:=.fields #[.ref hh.objs.size,.none,.none,.none,.bool false,.none] }) rfl
  rwa [Heap.size_push] at this
 have nb:hb.get? (hh.objs.size+1)=none:=by
  cases z:hb.get? (hh.objs.size+1) with
  | none=>rfl
  | some o=>exact a7 (bb _ _ z) n1
 refine jz8 p2.sat.bs (bb.trans k2) nb hx ?_ hfile htop fun h' tk a1 dd hx' k'=>?_
 ·refine (?_:A.depth+Code.weight _+5<1000)
  refine a5 (W8 ..) ?_
  have:=p2.room.depth
  exact d6 [_,_] 1 (.add (.add zA (.mulL 10 zB)) (.num 20)) (.num 1000) (.add (.add (.add zA nA) (.num 5)) nA) (.num 1000) tT this
 refine ⟨rfl,?_⟩
 have kk:Sub hh h':=fun b o e=>k' b o (fun q=>by subst q;exact a7 e n1) (k2 b o e)
 refine jk9 (kv7 (jv5 ⟨hh.objs.size+1,a1,some dd,rfl,kk _ _ (XK 100 _ hC),hx',?_⟩))
 refine ex2 hX _ _ ⟨⟨fun b o e u_ u_ u_=>kk b o e,fun b o e u_ u_ u_=>⟨o.slots,kk b o e⟩,fun l hl=>?_,rfl,rfl⟩,fun o e=>a7 e n1,_,_,hx',rfl,rfl,.inl ⟨rfl,trivial⟩⟩
 refine c9 ((p2.fm (X.imp hX)).l) fun l' hl' fr=>?_
 rw [hl] at hl'
 (injection hl' with i;subst i)
 exact v8 (fun L u_ o e hn=>⟨o,kk _ _ e,hn⟩) fr
end
section
section
variable {pG:Program} {w:World} {hb:Heap} {sc:Scope} {env:Env} {A:Around} {n:Nat} {X:Xs} {Z Z':List Addr} {ρ ρ':c8} {H H':HL} {s s' s'':Shared}
theorem E0 {g:Heap} {l:List Value} {a:PyData} {ds:List V} (r:RepL pG w g l (.dat a::ds)):∃ v l',l=v::l'∧Rd g v a∧RepL pG w g l' ds:=a8 r.inv fun v us e q t=>⟨v,us,e,q.inv,t⟩
theorem av9 {g:Heap} {l:List Value} (r:RepL pG w g l []):l=[]:=r.inv
theorem fz9 {sl:Addr} {t u:Tok} {Q:Int × Int × Nat→Shared→Prop} {E:Value→Shared→Prop} (hs:s.heap.IsSliceOf sl (.int 1 t) (.int 5 u) .none) (h:Q (1,1,4) s) :
  wpAny (model pG w) A (Builtin.Slice.sliceApplied (.ref sl) (pure 5)) Q E s:=by
 refine o9 (id hs) fun os hos hcs hds=>?_
 refine jk9 (jk9 (kw1 hos hds (x:=.int 1 t) rfl (jk9 (kw1 hos hds (x:=.int 5 u) rfl (jk9 (kw1 hos hds (x:=.none) rfl (jv5 ?_)))))))
 refine jk9 (slicePart_none ?_)
 refine (?_:wpAny _ _ (if ((1:Int) == 0)=true then _ else _) _ _ s)
 refine a5 (if_neg (by exact Bool.noConfusion)) ?_
 refine jk9 (slicePart_int (jk9 (slicePart_int (jk9 (jv5 ?_)))))
 exact jv5 h
theorem jz4 {t sl:Addr} {a b c d e:Value} {t1 u:Tok} {Q:Value→Shared→Prop} {E:Value→Shared→Prop} (ht:IsTup s.heap t #[a,b,c,d,e]) (hs:s.heap.IsSliceOf sl (.int 1 t1) (.int 5 u) .none)
  (h:Q (.ref s.heap.objs.size) { s with heap:=s.heap.push { cls:=.type "tuple",data:=.seq #[b,c,d,e] } }):wpAny (model pG w) A (getItem (.ref t) (.ref sl)) Q E s:=by
 have hdrop:sizeOk (.seq #[b,c,d,e]):=by
  refine (?_:4≤sizeLine)
  exact jv2 tT
 refine o9 (id hs) fun os hos hcs hds=>?_
 have hTs:s.TypeIs (.ref sl) "slice":=⟨os,hos,hcs⟩
 dsimp only [getItem]
 try with_reducible refine kx6 ?_
 first | refine jk9 (jv5 ?_) | skip
 refine jk9 (wpAny_sequenceKey ht.typeIs (by rfl) ?_)
 refine jk9 (lv8 (name:=Str.ofString "__getitem__") ht.typeIs slot_tuple_getitem
  (kv6 slot_tuple_getitem ht.typeIs entry_tuple_getitem ?_ (args_tuple_getitem _ _)))
 refine (?_:wpAny _ _ (Builtin.Tuple.tupleItemsOf (.ref t) >>= _) _ _ s)
 refine jk9 (tupleItemsOf_ ht ?_)
 refine jk9 (lz3 hTs ?_)
 refine a5 (if_pos (by rfl)) ?_
 refine jk9 (fz9 hs ?_)
 refine (?_:wpAny _ _ (if ((1:Int) == 0&&(1:Int) == 1&&(4:Nat) == 5)=true then _ else _) _ _ s)
 refine a5 (if_neg (by exact Bool.noConfusion)) ?_
 have e1:(((Qg 4).filterMap fun (k:Nat)=>#[a,b,c,d,e][((1:Int)+(k:Int) * 1).toNat]?).toArray)=#[b,c,d,e]:=rfl
 first
  | exact jk9 (m:=Builtin.Tuple.tupleExact _) (kj5 (jv5 ⟨_,rfl,jv5 h⟩) hdrop)
  | exact jk9 (m:=Builtin.Tuple.tupleExact _) (kj5 (jk9 (jv5 (jv5 ⟨_,rfl,jv5 h⟩))) hdrop)
  | exact jk9 (jk9 (m:=Builtin.Tuple.tupleExact _) (kj5 (jv5 (jv5 ⟨_,rfl,jv5 h⟩)) hdrop))
  | exact jk9 (jk9 (m:=Builtin.Tuple.tupleExact _) (kj5 (jv5 ⟨_,rfl,jv5 h⟩) hdrop))
set_option tactic.hygienic true in
theorem dx2 {v:Expr} {lo hi:Expr} {p' pos:Pos} {Q:VP}
  (h:TE pG w hb sc n X ρ v H fun dd H1=>∃ a b c d e,dd=.dat (.tuple [a,b,c,d,e])∧bz0 pG w hb sc n X ρ (some lo) H1 (some 1)∧bz0 pG w hb sc n X ρ (some hi) H1 (some 5)∧Q (.dat (.tuple [b,c,d,e])) H1)
  (hs:∀ a b,∃ ops,subscripted (.Slice (some lo) (some hi) none p') false (.ref a) (.ref b)=operate ops (getItem (.ref a) (.ref b)):=by intro _ _;exact ⟨_,rfl⟩) :
  TE pG w hb sc n X ρ (.Subscript v (.Slice (some lo) (some hi) none p') pos) H Q:=by
 refine .intro fun env A Z s R E p ex kk=>Subscript_ ?_
 refine h.run p ex fun {ov s1 Z1 d ρ1 H1} s1' p1 ex1 u1 r1 q1=>?_
 (refine oA q1 ?_;clear q1;rintro rfl y;refine oE y ?_;clear y;intro a y;refine oE y ?_;clear y;intro b y;refine oE y ?_;clear y;intro c y;refine oE y ?_;clear y;intro d y;refine o4 y ?_;clear y;rintro e rfl h1 h2 q)
 refine wpAny_Slice (O0 h1 p1 ex1 fun {vl s2 Z2} s2' p2 ex2 u2 i1=>?_)
 refine O0 h2 p2 ex2 fun {vu s3 Z3} s3' p3 ex3 u3 i2=>?_
 refine jv5 ?_
 have r4:=r1.mono (u2.trans u3)
 cases i1;cases i2
 rename_i t1 t2
 (refine a8 (s6 r4 rfl) ?_;rintro a' vs rfl hT rs)
 refine oE (hs a' s3.heap.objs.size) fun ops hs=>?_
 obtain ⟨va,vb,vc,vd,ve,rfl,ra,rb,rc,rd,re⟩:∃ va vb vc vd ve,vs=#[va,vb,vc,vd,ve]∧Rd (f7 s3 Z3) va a∧Rd (f7 s3 Z3) vb b∧Rd (f7 s3 Z3) vc c∧Rd (f7 s3 Z3) vd d∧Rd (f7 s3 Z3) ve e:=by
  obtain ⟨l⟩:=vs
  (refine a8 (E0 rs) ?_;rintro v1 l rfl r1 rs)
  (refine a8 (E0 rs) ?_;rintro v2 l rfl r2 rs)
  (refine a8 (E0 rs) ?_;rintro v3 l rfl r3 rs)
  (refine a8 (E0 rs) ?_;rintro v4 l rfl r4 rs)
  (refine a8 (E0 rs) ?_;rintro v5 l rfl r5 rs)
  refine a5 (av9 rs) ?_
  exact ⟨v1,v2,v3,v4,v5,rfl,r1,r2,r3,r4,r5⟩
 have hT:s3.heap.IsTuple a' #[va,vb,vc,vd,ve]:=j2 (g6 _ _) hT
 have hT':IsTup (s3.heap.push { cls:=.type "slice",data:=.fields #[.int 1 t1,.int 5 t2,.none] }) a' #[va,vb,vc,vd,ve]:=j2 (t7 _ _) hT
 refine tail_any hT'.typeIs slot_tuple_getitem.lookup (jz4 hT' (Heap.IsSliceOf.new ..) ?_) hs
 have ks:Sub s3.heap (s3.heap.push { cls:=.type "slice",data:=.fields #[.int 1 t1,.int 5 t2,.none] }):=t7 _ _
 have st3:=p.tr p2 (p.tr p1 s1' s2') s3'
 have p4:=p3.grow (t:=s3.toks) (t0 ks { cls:=.type "tuple",data:=.seq #[vb,vc,vd,ve] })
 exact kk (p.tr p3 st3 (.grow (t0 ks _))) p4 (F4 (s:=s3) (h:=s3.heap.push { cls:=.type "slice",data:=.fields #[.int 1 t1,.int 5 t2,.none] }) (t:=s3.toks) p3.sat.toSat ks (.cons rb (.cons rc (.cons rd (.cons re .nil))))) ⟨rfl,q⟩
end
end
section
noncomputable abbrev gn (x:Str) (v:Value):Str × Value:=(x,v)
noncomputable def gk2:List (Str × Value):=[gn "_law_draw" (.ref 587),gn "set_of" (.ref 131),gn "union" (.ref 138),gn "minus" (.ref 143),gn "is_within" (.ref 150),gn "product" (.ref 155),gn "Universe" (.ref 207),gn "Bounds" (.ref 284),
 gn "USUAL" (.int 3 547),gn "MOST_ATOMS" (.int 500 549),gn "MOST_TUPLES" (.int 100000 551),gn "NOWHERE" (.int (-1) 554),gn "Numbers" (.ref 331),gn "Uppers" (.ref 371),gn "Scopes" (.ref 402),gn "ORDERING" (.str "util/ordering" 738),gn "Signatures" (.ref 571),
 gn "_law_tape" (.ref 580),gn "_law_sigs" (.ref 592),gn "_law_names" (.ref 597),gn "_law_top" (.ref 604),gn "_law_scope" (.ref 611),gn "_law_is_refused" (.ref 616),gn "_law_lot" (.ref 621),gn "_law_greatest" (.ref 628),gn "_law_heard" (.ref 635),
 gn "_law_bounds_right" (.ref 640),gn "_law_product_right" (.ref 645),gn "ScopeFault" (.ref 100)]
noncomputable def bltT:List (Str × Value):=[gn "len" (.builtin "len"),gn "range" (.type "range"),gn "tuple" (.type "tuple"),gn "list" (.type "list"),gn "dict" (.type "dict"),gn "sorted" (.builtin "sorted"),gn "set" (.type "set"),gn "str" (.type "str"),
 gn "abs" (.builtin "abs"),gn "min" (.builtin "min"),gn "isinstance" (.builtin "isinstance"),gn "int" (.type "int"),gn "bool" (.type "bool")]
noncomputable def jj1 (P:Params):Bool:=gk2.all fun p=>decide (nsIn (Kf P) mainGlobals p.1=some (some p.2))
noncomputable def bltOk (P:Params):Bool:=bltT.all fun p=>decide (nsIn (Kf P) mainGlobals p.1=some none)&&(decide (bootBuiltins p.1=some p.2)&&!(p.1 == ("__name__":Str)))
theorem fq8 (P:Params):jj1 P=true:=by kernel_rfl
theorem hx0 (P:Params):bltOk P=true:=by kernel_rfl
theorem ak1 (P:Params) {x:Str} {v:Value} (h:gk2.lookup x=some v):nsIn (Kf P) mainGlobals x=some (some v) :=
 of_decide_eq_true (kq3.mp (fq8 P) _ (Qe h))
theorem dv0 (P:Params) {x:Str} {v:Value} (h:bltT.lookup x=some v):nsIn (Kf P) mainGlobals x=some none∧bootBuiltins x=some v∧x≠"__name__":=by
 refine oA (jw6.mp (kq3.mp (hx0 P) _ (Qe h))) fun h1 h2=>?_
 refine oA (jw6.mp h2) fun h2 h3=>?_
 exact ⟨of_decide_eq_true h1,of_decide_eq_true h2,fun e=>by rw [e] at h3;exact nb h3⟩
noncomputable def ik8:Value→V
 | .int i _=>.dat (.int i)
 | .str s _=>.dat (.str s)
 | v=>.con v
theorem fq7 {pG:Program} {w:World} (v:Value) (h:Heap):RepV pG w h v (ik8 v):=by
 induction v using PySem.Value.casesOn with
 | int i t=>exact .dat ⟨_,.int _ _⟩
 | str s t=>exact .dat ⟨_,.str _ _⟩
 | _=>exact .con
end
section
section
variable (pG:Program) (w:World) (hb:Heap)
noncomputable def dj3:NameKind→Bool
 | .local=>true
 | .cell=>true
 | .free=>true
 | _=>false
noncomputable def jz7:NameKind→Bool
 | .globalImplicit=>true
 | _=>false
noncomputable def Y8:V→Option PyData
 | .dat d=>some d
 | _=>none
theorem Q5 {a:V} {d:PyData} (h:Y8 a=some d):a=.dat d:=by cases a <;> cases h;rfl
noncomputable def dInt:PyData→Option Int
 | .int i=>some i
 | _=>none
theorem ix7 {a:PyData} {i:Int} (h:dInt a=some i):a=.int i:=by cases a <;> cases h;rfl
noncomputable def dStr:PyData→Option Str
 | .str i=>some i
 | _=>none
theorem ix5 {a:PyData} {i:Str} (h:dStr a=some i):a=.str i:=by cases a <;> cases h;rfl
noncomputable def iv1:PyData→Option Bool
 | .bool i=>some i
 | _=>none
theorem gv7 {a:PyData} {i:Bool} (h:iv1 a=some i):a=.bool i:=by cases a <;> cases h;rfl
noncomputable def dTup:PyData→Option (List PyData)
 | .tuple i=>some i
 | _=>none
theorem ix4 {a:PyData} {i:List PyData} (h:dTup a=some i):a=.tuple i:=by cases a <;> cases h;rfl
noncomputable def dLst:PyData→Option (List PyData)
 | .list i=>some i
 | _=>none
theorem ix6 {a:PyData} {i:List PyData} (h:dLst a=some i):a=.list i:=by cases a <;> cases h;rfl
noncomputable def bv9 (a:V):Option Int:=match Y8 a with
 | some d=>dInt d
 | none=>none
theorem K6 {a:V} {i:Int} (h:bv9 a=some i):a=.dat (.int i):=by
 dsimp only [bv9] at h
 generalize e:Y8 a=y_;induction y_ using Qd with
 | none=>rw [e] at h;exact nn h
 | some d=>rw [e] at h;exact a5 (Q5 e) (a5 (ix7 h) rfl)
noncomputable def bv7 (a:V):Option Str:=match Y8 a with
 | some d=>dStr d
 | none=>none
theorem K5 {a:V} {i:Str} (h:bv7 a=some i):a=.dat (.str i):=by
 dsimp only [bv7] at h
 generalize e:Y8 a=y_;induction y_ using Qd with
 | none=>rw [e] at h;exact nn h
 | some d=>rw [e] at h;exact a5 (Q5 e) (a5 (ix5 h) rfl)
noncomputable def cz6 (a:V):Option Bool:=match Y8 a with
 | some d=>iv1 d
 | none=>none
theorem ak6 {a:V} {i:Bool} (h:cz6 a=some i):a=.dat (.bool i):=by
 dsimp only [cz6] at h
 generalize e:Y8 a=y_;induction y_ using Qd with
 | none=>rw [e] at h;exact nn h
 | some d=>rw [e] at h;exact a5 (Q5 e) (a5 (gv7 h) rfl)
noncomputable def fj5 (a:V):Option (List PyData):=match Y8 a with
 | some d=>dTup d
 | none=>none
theorem bv6 {a:V} {i:List PyData} (h:fj5 a=some i):a=.dat (.tuple i):=by
 dsimp only [fj5] at h
 generalize e:Y8 a=y_;induction y_ using Qd with
 | none=>rw [e] at h;exact nn h
 | some d=>rw [e] at h;exact a5 (Q5 e) (a5 (ix4 h) rfl)
noncomputable def fj6 (a:V):Option (List PyData):=match Y8 a with
 | some d=>dLst d
 | none=>none
theorem bv8 {a:V} {i:List PyData} (h:fj6 a=some i):a=.dat (.list i):=by
 dsimp only [fj6] at h
 generalize e:Y8 a=y_;induction y_ using Qd with
 | none=>rw [e] at h;exact nn h
 | some d=>rw [e] at h;exact a5 (Q5 e) (a5 (ix6 h) rfl)
noncomputable def vCon:V→Option Value
 | .con v=>some v
 | _=>none
theorem hz8 {a:V} {v:Value} (h:vCon a=some v):a=.con v:=by cases a <;> cases h;rfl
noncomputable def oP {α:Type} (o:Option α) (K:α→Prop) (N:Prop):Prop:=match o with
 | some a=>K a
 | none=>N
theorem m9 {α:Type} {o:Option α} {K:α→Prop} {N:Prop} (h:oP o K N):(∃ a,o=some a∧K a)∨(o=none∧N):=by
 induction o using Qd with
 | none=>exact .inr ⟨rfl,h⟩
 | some a=>exact .inl ⟨a,rfl,h⟩
theorem f8 {α:Type} {o:Option α} {K:α→Prop} {N g:Prop} (h:oP o K N) (f:∀ a,o=some a→K a→g) (e:o=none→N→g):g:=by
 induction o using Qd with
 | none=>exact e rfl h
 | some a=>exact f a rfl h
noncomputable def bP (b:Bool) (K:Prop):Prop:=match b with
 | true=>K
 | false=>False
theorem j3 {b:Bool} {K:Prop} (h:bP b K):b=true∧K:=by
 induction b using Ql with
 | true=>exact ⟨rfl,h⟩
 | false=>exact h.elim
noncomputable def ej2 (Q:Bool→HL→Prop) (c:V) (H:HL):Prop:=oP (cz6 c) (fun t=>Q t H) False
theorem bx6 {Q:Bool→HL→Prop} {c:V} {H:HL} (h:ej2 Q c H):∃ t,c=.dat (.bool t)∧Q t H:=by
 (refine Qa (m9 h) ?_ ?_;(intro yz;refine c9 yz fun t e q=>?_);rotate_left;rintro ⟨_,q⟩;rotate_left)
 ·exact ⟨t,ak6 e,q⟩
 ·exact q.elim
noncomputable def aw9 (sc:Scope) (ρ:c8) (x:Str) (Q:V→Prop):Prop:=oP (sc.names.lookup x) (fun k=>match dj3 k with
 | true=>oP (ρ.lookup x) Q False
 | false=>bP (jz7 k) (oP (gk2.lookup x) (fun v=>Q (ik8 v)) (oP (bltT.lookup x) (fun v=>Q (.con v)) False))) False
noncomputable def binI:Operator→Int→Int→(Int→Prop)→Prop
 | .Add,i,j,K=>K (i+j)
 | .Sub,i,j,K=>K (i - j)
 | .Mult,i,j,K=>IntMulOk i j∧K (i * j)
 | .Mod,i,j,K=>j≠0∧K (i.fmod j)
 | _,_,_,_=>False
noncomputable def ex7:Operator→Bool
 | .Add=>true
 | _=>false
theorem bq4 {o:Operator} (h:ex7 o=true):o=.Add:=by cases o <;> first | rfl | exact nb h
noncomputable def binP (n:Nat) (X:Xs) (op:Operator) (a b:V) (H:HL) (Q:VP):Prop :=
 oP (bv9 a) (fun i=>oP (bv9 b) (fun j=>binI op i j fun r=>Q (.dat (.int r)) H) False)
 (oP (bv7 a) (fun i=>oP (bv7 b) (fun j=>bP (ex7 op) (i.length+j.length≤1000000∧Q (.dat (.str (i++j))) H)) False)
 (oP (fj5 a) (fun i=>oP (fj5 b) (fun j=>bP (ex7 op) (i.length+j.length≤1000000∧Q (.dat (.tuple (i++j))) H)) False)
 (oP (fj6 a) (fun i=>oP (fj6 b) (fun j=>bP (ex7 op) (i.length+j.length≤1000000∧Q (.dat (.list (i++j))) H)) False)
 (Op pG w hb n X (RepV pG w) (G0 (binaryOp op)) [a,b] H Q))))
noncomputable def cmpO (op:CmpOp) (i j:Int):Option Bool:=match op with
 | .Lt=>some (decide (i<j))
 | .LtE=>some (decide (i≤j))
 | .Gt=>some (decide (i > j))
 | .GtE=>some (decide (i ≥ j))
 | .Eq=>some (i == j)
 | .NotEq=>some (i != j)
 | _=>none
noncomputable def eqO:CmpOp→Option Bool
 | .Eq=>some true
 | .NotEq=>some false
 | _=>none
theorem jj6 {o:CmpOp} {b:Bool} (h:eqO o=some b):o=bif b then .Eq else .NotEq:=by cases o <;> cases h <;> rfl
noncomputable def isO:CmpOp→Option Bool
 | .Is=>some true
 | .IsNot=>some false
 | _=>none
theorem jz6 {o:CmpOp} {b:Bool} (h:isO o=some b):o=bif b then .Is else .IsNot:=by cases o <;> cases h <;> rfl
noncomputable def fx8 (n:Nat) (X:Xs) (op:CmpOp) (a b:V) (H:HL) (Q:VP):Prop :=
 oP (isO op) (fun y=>bP (match Y8 b with | some .none=>true | _=>false) (oP (isN a) (fun t=>Q (.dat (.bool (bif y then t else !t))) H) False))
 (oP (bv9 a) (fun i=>oP (bv9 b) (fun j=>oP (cmpO op i j) (fun t=>Q (.dat (.bool t)) H) False) False)
 (oP (bv7 a) (fun i=>oP (eqO op) (fun y=>oP (bv7 b) (fun j=>Q (.dat (.bool (bif y then i == j else !(i == j)))) H) (Op pG w hb n X (RepV pG w) (G0 (compareOp op)) [a,b] H Q)) (Op pG w hb n X (RepV pG w) (G0 (compareOp op)) [a,b] H Q))
 (Op pG w hb n X (RepV pG w) (G0 (compareOp op)) [a,b] H Q)))
noncomputable def negP (a:V) (Q:V→Prop):Prop:=oP (bv9 a) (fun i=>Q (.dat (.int (-i)))) False
noncomputable def fk2 (a:V) (Q:Bool→Prop):Prop:=oP (cz6 a) Q False
noncomputable abbrev fl (C:Addr) (xs:List Str):Addr × List Str:=(C,xs)
noncomputable abbrev st (x:Str):Str:=x
noncomputable def fldT:List (Addr × List Str):=[fl 571 [st "entries",st "stands",st "opened",st "ordered",st "own_fields"],fl 331 [st "signatures",st "default",st "told",st "ordered"],fl 371 [st "signatures",st "kinds",st "lots"],fl 402 [st "signatures",st "kinds"],
 fl 284 [st "universe",st "bounds",st "numbers"],fl 207 [st "names",st "numbers"]]
noncomputable def gv0 (K:Frag) (C:Addr) (x:Str):Bool:=plainGet K C x&&hasDictIn K C&&(match findIn K (.ref C) x with | some a=>noGet K a | none=>false)&&(match findIn K (.ref C) "__setattr__" with | some (some (.builtin s))=>s == "object.__setattr__" | _=>false)&&plainOver K C&&(match takerIn K C x with | some none=>true | _=>false)
noncomputable def fldOk (P:Params):Bool:=fldT.all fun p=>p.2.all fun x=>gv0 (Kf P) p.1 x
theorem gk9 (P:Params):fldOk P=true:=by kernel_rfl
noncomputable def Y2 (C:Addr) (x:Str):Bool:=match fldT.lookup C with
 | some xs=>xs.contains x
 | none=>false
structure FldAt (K:Frag) (C:Addr) (x:Str):Prop where
 g:plainGet K C x=true
 d:hasDictIn K C=true
 f:∃ a,findIn K (.ref C) x=some a∧noGet K a=true
 s:findIn K (.ref C) "__setattr__"=some (some (.builtin "object.__setattr__"))
 p:plainOver K C=true
 t:takerIn K C x=some none
set_option tactic.hygienic true in
theorem l6 {α β:Type} [BEq α] [LawfulBEq α]:∀ {l:List (α × β)} {a:α} {b:β},l.lookup a=some b→(a,b)∈l
 | (x,y)::l,a,b,h=>by
  rw [kq2] at h
  split at h
  ·rename_i e;(injection h with i;subst i);refine a5 (eq_of_beq e) ?_;exact jv0 ..
  ·exact jv3 _ (l6 h)
set_option tactic.hygienic true in
theorem gk8 {C:Addr} {x:Str} (h:Y2 C x=true):FldAt (KK w) C x:=by
 dsimp only [Y2] at h
 split at h
 ·rename_i xs e
  have h1:=kq3.mp (kq3.mp (gk9 w.params) _ (l6 e)) x (by simpa using h)
  unfold gv0 at h1
  simp only [kz7] at h1
  (refine oA h1 ?_;clear h1;rintro ⟨⟨⟨⟨a,b⟩,c⟩,d⟩,e⟩ f)
  refine ⟨a,b,?_,?_,e,?_⟩
  ·split at c
   ·exact ⟨_,by assumption,c⟩
   ·exact nb c
  ·split at d
   ·rename_i s q;exact a5 q (a5 (eq_of_beq d) rfl)
   ·exact nb d
  ·split at f
   ·assumption
   ·exact nb f
 ·exact nb h
noncomputable abbrev mt (C:Addr) (xs:List (Str × Addr)):Addr × List (Str × Addr):=(C,xs)
noncomputable abbrev sa (x:Str) (a:Addr):Str × Addr:=(x,a)
noncomputable def metT:List (Addr × List (Str × Addr)):=[mt 571 [sa "take_sig" 427,sa "look_above" 434,sa "direct" 441,sa "parents_first" 446,sa "all_fields" 453,sa "look_fields" 460,sa "take_order" 465,sa "names" 472,sa "spot" 486,sa "parent" 493,sa "supers" 500,sa "is_subset" 507,sa "children" 512,sa "above" 519,sa "top" 526,sa "is_abstract" 540,sa "mult" 547,sa "fields" 554,sa "orders" 568],
 mt 331 [sa "take" 309,sa "usual_for" 314,sa "lot_of" 321,sa "formula_of" 328],mt 371 [sa "of_sig" 356,sa "of_column" 361,sa "of_field" 368],mt 402 [sa "atoms_of" 394,sa "bounds_of" 399],mt 284 [sa "add" 232,sa "want_set" 239,sa "exactly" 246,sa "bound" 253,sa "size" 260,sa "upper" 274],mt 207 [sa "size" 176,sa "name" 183]]
noncomputable def gz4 (K:Frag) (C:Addr) (x:Str) (f:Addr):Bool:=plainGet K C x&&(match findIn K (.ref C) x with | some (some (.ref a))=>a == f | _=>false)&&isFn K (.ref f)&&keepIn K (.ref f)
noncomputable def metOk (P:Params):Bool:=metT.all fun p=>p.2.all fun x=>gz4 (Kf P) p.1 x.1 x.2
theorem gz3 (P:Params):metOk P=true:=by kernel_rfl
noncomputable def az7 (C:Addr) (x:Str):Option Addr:=match metT.lookup C with
 | some xs=>xs.lookup x
 | none=>none
structure MetAt (K:Frag) (C:Addr) (x:Str) (f:Addr):Prop where
 g:plainGet K C x=true
 at_:findIn K (.ref C) x=some (some (.ref f))
 i:isFn K (.ref f)=true
 k:keepIn K (.ref f)=true
set_option tactic.hygienic true in
theorem jx6 {C:Addr} {x:Str} {f:Addr} (h:az7 C x=some f):MetAt (KK w) C x f:=by
 dsimp only [az7] at h
 split at h
 ·rename_i xs e
  have h1:=kq3.mp (kq3.mp (gz3 w.params) _ (l6 e)) _ (l6 h)
  unfold gz4 at h1
  simp only [kz7] at h1
  (refine oA h1 ?_;clear h1;rintro ⟨⟨a,b⟩,c⟩ d)
  refine ⟨a,?_,c,d⟩
  split at b
  ·rename_i q;exact a5 q (a5 (eq_of_beq b) rfl)
  ·exact nb b
 ·exact nn h
@[irreducible] noncomputable def bx8 (n:Nat) (X:Xs) (d:V) (x:Str) (H:HL) (Q:VP):Prop :=
 Op pG w hb n X (RepV pG w) (op1 fun o=>getAttr o x true) [d] H Q
@[irreducible] noncomputable def w8 (d:V) (x:Str) (H:HL) (K:Value→Prop):Prop :=
 ∃ f,fj0 pG w hb d H x f∧bz4 w f=true∧K f
noncomputable def natO:Int→Option Nat
 | .ofNat k=>some k
 | .negSucc _=>none
theorem iq1 {i:Int} {k:Nat} (h:natO i=some k):i=(k:Int):=by cases i <;> cases h;rfl
@[irreducible] noncomputable def Y0 (d:V) (j:Int) (H:HL) (Q:VP):Prop:=∃ ds x,Z9 pG w hb H d ds∧((0≤j∧j<2 ^ 62∧ds[j.toNat]?=some x)∨(j=-1∧ds.length<2 ^ 62∧ds.getLast?=some x))∧Q x H
@[irreducible] noncomputable def gj0 (d:V) (k:Str) (H:HL) (Q:VP):Prop:=∃ kvs x,DctV pG w hb H d kvs∧kvs.lookup k=some x∧Q (.dat x) H
noncomputable def natL (lit:Bool) (j:Int):Option Nat:=match lit with
 | true=>natO j
 | false=>none
theorem iq2 {lit:Bool} {i:Int} {k:Nat} (h:natL lit i=some k):i=(k:Int):=by
 induction lit using Ql with
 | false=>exact nn h
 | true=>exact iq1 h
noncomputable def subP (lit:Bool) (d i:V) (H:HL) (Q:VP):Prop :=
 oP (bv9 i) (fun j=>oP d.items (fun ds=>oP (natL lit j) (fun k=>bP (Nat.ble k 1000000) (oP ds[k]? (fun x=>Q x H) (Y0 pG w hb d j H Q))) (Y0 pG w hb d j H Q)) (Y0 pG w hb d j H Q))
 (oP (bv7 i) (fun k=>gj0 pG w hb d k H Q) False)
noncomputable def bk7:List V→Option (List PyData)
 | []=>some []
 | a::r=>match Y8 a,bk7 r with
  | some x,some xs=>some (x::xs)
  | _,_=>none
theorem bx1:∀ {ds:List V} {xs:List PyData},bk7 ds=some xs→Dats ds xs
 | [],_,h=>by (injection h with i;subst i);exact .nil
 | a::r,_,h=>by
  dsimp only [bk7] at h
  generalize e1:Y8 a=y_;induction y_ using Qd with
  | none=>rw [e1] at h;exact nn h
  | some x =>
   generalize e2:bk7 r=y_;induction y_ using Qd with
   | none=>rw [e1,e2] at h;exact nn h
   | some xs=>rw [e1,e2] at h;(injection h with i;subst i);refine a5 (Q5 e1) ?_;exact .cons (bx1 e2)
noncomputable def tupP (ds:List V) (H:HL) (Q:VP):Prop:=bP (Nat.ble ds.length 1000000) (oP (bk7 ds) (fun xs=>Q (.dat (.tuple xs)) H) (Q (.tup ds) H))
noncomputable def ownP:List Nat:=[340016,279023,224062,212029,384012,425011,418011,402019,450012,461040,461052,461056,493067]
noncomputable def lstP (o:Bool) (ds:List V) (H:HL) (Q:VP):Prop:=bP (Nat.ble ds.length 1000000) (oP (bk7 ds) (fun xs=>o.rec (Q (.dat (.list xs)) H∨∀ a,Q (.ref a) ((a,.lst xs)::H)) (∀ a,Q (.ref a) ((a,.lst xs)::H))) False)
noncomputable def hq8:Const→Option Int
 | .int i=>some i
 | _=>none
theorem ej0 {c:Const} {i:Int} (h:hq8 c=some i):c=.int i:=by cases c <;> cases h;rfl
noncomputable def ew9:Expr→Option Int
 | .Constant c _ _=>hq8 c
 | .UnaryOp .USub (.Constant c _ _) _=>match hq8 c with
  | some i=>some (-i)
  | none=>none
 | _=>none
noncomputable def cq4:Option Expr→Option (Option Int)
 | none=>some none
 | some e=>match ew9 e with
  | some i=>some (some i)
  | none=>none
@[irreducible] noncomputable def bw3 (d:V) (l u k:Option Int) (H:HL) (Q:VP):Prop:=∃ xs,ListV pG w hb H d (xs.map .dat)∧xs.length≤1000000∧Q (.dat (.list (F3 xs l u k))) H
noncomputable def iv2 (xs:List PyData):Option (List PyData):=match xs with
 | [_,b,c,d,e]=>some [b,c,d,e]
 | _=>none
noncomputable def is15 (l u k:Option Int):Bool:=l == some 1&&u == some 5&&k == none
noncomputable def slcP (d:V) (l u k:Option Int) (H:HL) (Q:VP):Prop:=match is15 l u k with
 | true=>oP (fj5 d) (fun xs=>oP (iv2 xs) (fun ys=>Q (.dat (.tuple ys)) H) False) False
 | false=>oP (fj6 d) (fun xs=>xs.length≤1000000∧Q (.dat (.list (F3 xs l u k))) H) (bw3 pG w hb d l u k H Q)
end
end
section
section
variable (pG:Program) (w:World) (hb:Heap)
noncomputable abbrev WV:=HL→(VP)→Prop
noncomputable def ej6 (f:Expr→HL→(VP)→Prop) (es:List Expr):HL→(List V→HL→Prop)→Prop :=
 List.rec (motive:=fun u_=>HL→(List V→HL→Prop)→Prop) (fun H Q=>Q [] H) (fun e u_ ih H Q=>f e H fun a H1=>ih H1 fun ds H2=>Q (a::ds) H2) es
noncomputable def wpJ (f:Expr→HL→(VP)→Prop) (es:List Expr):Str→HL→(VP)→Prop :=
 List.rec (motive:=fun u_=>Str→HL→(VP)→Prop) (fun out H Q=>out.length≤1000000∧Q (.dat (.str out)) H) (fun e u_ ih out H Q=>f e H fun a H1=>oP (bv7 a) (fun y=>(out++y).length≤1000000∧ih (out++y) H1 Q) False) es
noncomputable def ij7 (g:Expr→HL→(Bool→HL→Prop)→Prop) (es:List Expr):HL→(Bool→HL→Prop)→Prop :=
 List.rec (motive:=fun u_=>HL→(Bool→HL→Prop)→Prop) (fun H Q=>Q true H) (fun e u_ ih H Q=>g e H fun c H1=>(c=true→ih H1 Q)∧(c=false→Q false H1)) es
noncomputable def wpOr (g:Expr→HL→(Bool→HL→Prop)→Prop) (es:List Expr):HL→(Bool→HL→Prop)→Prop :=
 List.rec (motive:=fun u_=>HL→(Bool→HL→Prop)→Prop) (fun H Q=>Q false H) (fun e u_ ih H Q=>g e H fun c H1=>(c=false→ih H1 Q)∧(c=true→Q true H1)) es
noncomputable def jz5:Expr→Bool
 | .Starred _ _=>true
 | _=>false
noncomputable def noStar (es:List Expr):Bool:=es.all fun e=>!jz5 e
noncomputable def cz1:Expr→Bool
 | .Name _ _=>true
 | .Attribute _ _ _=>true
 | .Subscript _ _ _=>true
 | .Call _ args _ _=>!args.isEmpty
 | _=>false
noncomputable def cmp1 (ops:List CmpOp) (rs:List Expr):Option (CmpOp × Expr):=match ops with
 | [op]=>match rs with
  | [r]=>some (op,r)
  | _=>none
 | _=>none
theorem ez5 {ops:List CmpOp} {rs:List Expr} {p:CmpOp × Expr} (h:cmp1 ops rs=some p):ops=[p.1]∧rs=[p.2]:=by
 rcases ops with _ | ⟨op,_ | ⟨_,_⟩⟩
 ·exact nn h
 ·rcases rs with _ | ⟨r,_ | ⟨_,_⟩⟩
  ·exact nn h
  ·(injection h with i;subst i);exact ⟨rfl,rfl⟩
  ·exact nn h
 ·exact nn h
noncomputable def cmp2 (ops:List CmpOp) (rs:List Expr):Option (CmpOp × Expr × CmpOp × Expr):=match ops with
 | [o1,o2]=>match rs with
  | [r1,r2]=>some (o1,r1,o2,r2)
  | _=>none
 | _=>none
theorem ix9 {ops:List CmpOp} {rs:List Expr} {p:CmpOp × Expr × CmpOp × Expr} (h:cmp2 ops rs=some p):ops=[p.1,p.2.2.1]∧rs=[p.2.1,p.2.2.2]:=by
 rcases ops with _ | ⟨op,_ | ⟨_,_ | ⟨_,_⟩⟩⟩
 ·exact nn h
 ·exact nn h
 ·rcases rs with _ | ⟨r,_ | ⟨_,_ | ⟨_,_⟩⟩⟩
  ·exact nn h
  ·exact nn h
  ·(injection h with i;subst i);exact ⟨rfl,rfl⟩
  ·exact nn h
 ·exact nn h
noncomputable def gen1 (gs:List Comprehension):Option (Expr × Expr × List Expr):=match gs with
 | [g]=>bif g.is_async == 0 then some (g.target,g.iter,g.ifs) else none
 | _=>none
theorem ez1 {gs:List Comprehension} {p:Expr × Expr × List Expr} (h:gen1 gs=some p):gs=[⟨p.1,p.2.1,p.2.2,0⟩]:=by
 rcases gs with _ | ⟨⟨t,i,fs,a⟩,_ | ⟨_,_⟩⟩
 ·exact nn h
 ·unfold gen1 at h
  cases e:(a == (0:Int)) with
  | false=>simp only [e,cond_false] at h;exact nn h
  | true=>simp only [e,cond_true] at h;(injection h with i;subst i);exact a5 (eq_of_beq e) rfl
 ·exact nn h
noncomputable def gen2 (gs:List Comprehension):Option (Comprehension × Comprehension):=match gs with
 | g::r=>match r with
  | [g2]=>bif g.is_async == 0&&g2.is_async == 0 then some (g,g2) else none
  | _=>none
 | _=>none
theorem ez0 {gs:List Comprehension} {p:Comprehension × Comprehension} (h:gen2 gs=some p):gs=[⟨p.1.target,p.1.iter,p.1.ifs,0⟩,⟨p.2.target,p.2.iter,p.2.ifs,0⟩]:=by
 rcases gs with _ | ⟨⟨t,i,fs,a⟩,_ | ⟨⟨t2,i2,fs2,a2⟩,_ | ⟨_,_⟩⟩⟩
 ·exact nn h
 ·exact nn h
 ·unfold gen2 at h
  cases e:(a == (0:Int))&&(a2 == (0:Int)) with
  | false=>simp only [e,cond_false] at h;exact nn h
  | true =>
   simp only [e,cond_true] at h
   (injection h with i;subst i)
   refine oA (jw6.mp e) fun h1 h2=>?_
   exact a5 (eq_of_beq h1) (a5 (eq_of_beq h2) rfl)
 ·exact nn h
noncomputable def cDat:Const→Option PyData
 | .int i=>some (.int i)
 | .str s=>some (.str s)
 | .bool b=>some (.bool b)
 | .none=>some .none
 | _=>none
noncomputable def dx9:Expr→Option (Option Expr × Option Expr × Option Expr)
 | .Slice a b c _=>some (a,b,c)
 | _=>none
noncomputable def Y1 {α:Type}:List α→Bool
 | []=>true
 | _=>false
theorem E4 {α:Type} {l:List α} (h:Y1 l=true):l=[]:=by induction l using Qh with
 | nil=>rfl
 | cons _ _=>exact nb h
noncomputable def eq5 {α:Type}:Option α→Bool
 | none=>true
 | _=>false
theorem aw7 {α:Type} {l:Option α} (h:eq5 l=true):l=none:=by induction l using Qd with
 | none=>rfl
 | some _=>exact nb h
noncomputable def gj6:ScopeKind→Bool
 | .function=>true
 | _=>false
theorem cv2 {k:ScopeKind} (h:gj6 k=true):k=.function:=by cases k <;> first | rfl | exact nb h
noncomputable def dv1 (scope:Scope):Bool:=gj6 scope.kind&&(scope.names.all fun y=>y.2 != .cell)&&decide (scope.names.map (·.1)).Nodup&&(scope.names.lookup ("signatures":Str)).isNone
theorem Q8 {scope:Scope} (h:dv1 scope=true):BlockOk scope:=by
 unfold dv1 at h
 simp only [kz7] at h
 exact .of (cv2 h.1.1.1) h.1.1.2 h.1.2 h.2
noncomputable def gw3 (sc:Scope) (n:Nat) (X:Xs) (ρ:c8) (elt t:Expr) (ifs:List Expr) (scope:Scope) (x:V) (H1:HL) (QL:List PyData→Prop):Prop :=
 ∃ Hk ds,Bk H1 Hk∧R4 pG w hb n x H1 Hk ds∧ds.length≤1000000∧hz5 pG w hb (z7 scope sc) n t ifs elt (V6 ρ scope.names) ds [] Hk fun ys Hk'=>Hk'=Hk∧QL ys
noncomputable def dk5 (sc:Scope) (n:Nat) (X:Xs) (ρ:c8) (elt t t2 iter2:Expr) (ifs ifs2:List Expr) (scope:Scope) (x:V) (H1:HL) (QL:List PyData→Prop):Prop :=
 ∃ Hk ds,Bk H1 Hk∧R4 pG w hb n x H1 Hk ds∧ds.length≤1000∧C9 pG w hb (z7 scope sc) n (em2 pG w hb (z7 scope sc) n elt t2 iter2 ifs2) t ifs (V6 ρ scope.names) ds [] Hk fun ys Hk'=>Hk'=Hk∧QL ys
noncomputable def ax1:Expr→Bool
 | .Set _ _ _=>false
 | _=>true
theorem B0 {e:Expr} (h:ax1 e=true):∀ env x,foldedSetIterable e env x=pure x:=by
 intro env x
 cases e <;> first | rfl | exact nb h
noncomputable def ax7 (sc scope:Scope) (iter:Expr):Bool:=ax1 iter&&(dv1 scope&&aj0 sc scope)
noncomputable def iv8 (sc:Scope) (n:Nat) (X:Xs) (ρ:c8) (f:Expr→HL→(VP)→Prop) (func:Expr) (args:List Expr) (p:Pos) (H:HL) (Q:VP):Prop:=match func with
 | .Attribute o x ap=>bP (cz1 o&&noStar args&&(ap.endLine == p.line)&&Nat.blt args.length 30)
   (f o H fun a H1=>w8 pG w hb a x H1 fun g=>ej6 f args H1 fun ds H2=>Op pG w hb n X (RepV pG w) (fun vs=>call g vs) (a::ds) H2 Q)
 | .Name x _=>bP (noStar args) (aw9 sc ρ x fun a=>oP (vCon a) (fun v=>bP (ik7 v) (ej6 f args H fun ds H2=>Op pG w hb n X (RepV pG w) (fun vs=>call v vs) ds H2 Q)) False)
 | _=>False
noncomputable def wpUn (op:UnaryOp) (a:V) (Q:V→Prop):Prop:=match op with
 | .USub=>negP a Q
 | _=>False
noncomputable def isOr:BoolOp→Bool
 | .Or=>true
 | .And=>false
noncomputable def two (es:List Expr):Option (Expr × Expr):=match es with
 | [a,b]=>some (a,b)
 | _=>none
theorem iw2 {es:List Expr} {p:Expr × Expr} (h:two es=some p):es=[p.1,p.2]:=by
 rcases es with _ | ⟨a,_ | ⟨b,_ | ⟨_,_⟩⟩⟩
 ·exact nn h
 ·exact nn h
 ·(injection h with i;subst i);rfl
 ·exact nn h
noncomputable def E9 (es:List Expr):Bool:=match es with
 | _::_::_=>true
 | _=>false
noncomputable def fmtP (a:V) (Q:V→Prop):Prop:=oP (bv7 a) (fun y=>y.length≤1000000∧Q (.dat (.str y))) (oP (bv9 a) (fun i=>i.natAbs≤1000000000∧Q (.dat (.str (toString i:String)))) False)
noncomputable abbrev WE:=Expr→HL→(VP)→Prop
noncomputable abbrev WB:=Expr→HL→(Bool→HL→Prop)→Prop
noncomputable def wpEF (sc:Scope) (n:Nat) (X:Xs) (ρ:c8) (E:WE) (B:WB) (e:Expr) (H:HL) (Q:VP):Prop:=match e with
  | .Name x _=>aw9 sc ρ x fun d=>Q d H
  | .Constant c _ _=>oP (cDat c) (fun d=>Q (.dat d) H) False
  | .BinOp l op r _=>E l H fun a H1=>E r H1 fun b H2=>binP pG w hb n X op a b H2 Q
  | .Compare l ops rs _=>oP (cmp1 ops rs) (fun p=>bP (!behindInMarks p.1 p.2) (E l H fun a H1=>E p.2 H1 fun b H2=>fx8 pG w hb n X p.1 a b H2 Q)) False
  | .UnaryOp op x _=>E x H fun a H1=>wpUn op a fun d=>Q d H1
  | .IfExp t a b _=>B t H fun c H1=>(c=true→E a H1 Q)∧(c=false→E b H1 Q)
  | .BoolOp op es _=>bP (isOr op) (oP (two es) (fun p=>E p.1 H fun d H1=>oP (cz6 d) (fun c=>(c=true→Q (.dat (.bool true)) H1)∧(c=false→E p.2 H1 Q)) False) False)
  | .Attribute o x _=>bP (cz1 o) (E o H fun a H1=>bx8 pG w hb n X a x H1 Q)
  | .Subscript o i _=>oP (dx9 i) (fun s=>oP (cq4 s.1) (fun l=>oP (cq4 s.2.1) (fun u=>oP (cq4 s.2.2) (fun t=>E o H fun a H1=>t≠some 0∧slcP pG w hb a l u t H1 Q) False) False) False)
    (E o H fun a H1=>E i H1 fun b H2=>subP pG w hb (ew9 i).isSome a b H2 Q)
  | .Tuple es _ _=>bP (noStar es) (ej6 E es H fun ds H1=>tupP ds H1 Q)
  | .List es p=>bP (noStar es) (ej6 E es H fun ds H1=>lstP (ownP.elem (p.line * 1000+p.col)) ds H1 Q)
  | .Dict ks vs _=>bP (Y1 ks&&Y1 vs) (∀ a,Q (.ref a) ((a,.dct [])::H))
  | .ListComp elt gs scope _=>oP (gen1 gs) (fun p=>bP (ax7 sc scope p.2.1) (E p.2.1 H fun x H1=>gw3 pG w hb sc n X ρ elt p.1 p.2.2 scope x H1 fun ys=>Q (.dat (.list ys)) H1∨∀ D,Q (.ref D) ((D,.lst ys)::H1)))
   (oP (gen2 gs) (fun p=>bP (ax7 sc scope p.1.iter&&ax1 p.2.iter) (E p.1.iter H fun x H1=>dk5 pG w hb sc n X ρ elt p.1.target p.2.target p.2.iter p.1.ifs p.2.ifs scope x H1 fun ys=>Q (.dat (.list ys)) H1∨∀ D,Q (.ref D) ((D,.lst ys)::H1))) False)
  | .JoinedStr es _=>bP (E9 es) (wpJ E es Str.empty H Q)
  | .FormattedValue x c s _=>bP (c == -1&&eq5 s) (E x H fun a H1=>fmtP a fun d=>Q d H1)
  | .Call func args kws p=>bP (Y1 kws) (iv8 pG w hb sc n X ρ E func args p H Q)
  | _=>False
noncomputable def wpBF (sc:Scope) (n:Nat) (X:Xs) (ρ:c8) (E:WE) (B:WB) (e:Expr) (H:HL) (Q:Bool→HL→Prop):Prop:=match e with
  | .UnaryOp op x _=>match op with
   | .Not=>B x H fun c H1=>Q (!c) H1
   | _=>False
  | .BoolOp op es _=>match op with
   | .And=>ij7 B es H Q
   | .Or=>wpOr B es H Q
  | .Compare l ops rs _=>oP (cmp1 ops rs) (fun p=>bP (!behindInMarks p.1 p.2) (E l H fun a H1=>E p.2 H1 fun b H2=>fx8 pG w hb n X p.1 a b H2 (ej2 Q)))
   (oP (cmp2 ops rs) (fun p=>bP (!lastMarks [p.1,p.2.2.1] [p.2.1,p.2.2.2]) (E l H fun a H1=>E p.2.1 H1 fun b H2=>fx8 pG w hb n X p.1 a b H2 (ej2 fun t H3=>(t=false→Q false H3)∧(t=true→E p.2.2.2 H3 fun d H4=>fx8 pG w hb n X p.2.2.1 b d H4 (ej2 Q))))) False)
  | .IfExp _ _ _ _=>False
  | e=>E e H fun a H1=>fk2 a fun b=>Q b H1
noncomputable def wpK0:WE × WB:=(fun u_ u_ u_=>False,fun u_ u_ u_=>False)
noncomputable def wpKS (sc:Scope) (n:Nat) (X:Xs) (ρ:c8) (_:Nat) (p:WE × WB):WE × WB:=(wpEF pG w hb sc n X ρ p.1 p.2,wpBF pG w hb sc n X ρ p.1 p.2)
noncomputable def wpE (sc:Scope) (n:Nat) (X:Xs) (ρ:c8) (k:Nat) (e:Expr) (H:HL) (Q:VP):Prop:=(Nat.rec (motive:=fun u_=>WE × WB) wpK0 (wpKS pG w hb sc n X ρ) k).1 e H Q
noncomputable def wpB (sc:Scope) (n:Nat) (X:Xs) (ρ:c8) (k:Nat) (e:Expr) (H:HL) (Q:Bool→HL→Prop):Prop:=(Nat.rec (motive:=fun u_=>WE × WB) wpK0 (wpKS pG w hb sc n X ρ) k).2 e H Q
noncomputable def isLoc:NameKind→Bool
 | .local=>true
 | .cell=>true
 | _=>false
noncomputable def wpA (sc:Scope) (n:Nat) (X:Xs) (ρ:c8) (t:Expr) (d:V) (H:HL) (Q:c8→HL→Prop):Prop:=match t with
 | .Name x _=>oP (sc.names.lookup x) (fun k=>bP (isLoc k) (Q ((x,d)::ρ) H)) False
 | .Attribute o x _=>wpE pG w hb sc n X ρ 60 o H fun a H1=>Op pG w hb n X (fun _ (_:Unit) (_:Unit)=>True) (G0 fun o v=>setAttr o x v) [a,d] H1 fun u_ H2=>Q ρ H2
 | .Subscript o i _=>wpE pG w hb sc n X ρ 60 o H fun a H1=>wpE pG w hb sc n X ρ 60 i H1 fun b H2=>Op pG w hb n X (fun _ (_:Unit) (_:Unit)=>True) (op3 fun o k v=>setItem o k v) [a,b,d] H2 fun u_ H3=>Q ρ H3
 | _=>False
noncomputable def wpAs (sc:Scope) (n:Nat) (X:Xs) (ts:List Expr):List V→c8→HL→(c8→HL→Prop)→Prop :=
 List.rec (motive:=fun u_=>List V→c8→HL→(c8→HL→Prop)→Prop) (fun ds ρ H Q=>bP (Y1 ds) (Q ρ H)) (fun t u_ ih ds ρ H Q=>match ds with
  | []=>False
  | d::ds=>wpA pG w hb sc n X ρ t d H fun ρ1 H1=>ih ds ρ1 H1 Q) ts
noncomputable def cj0:Expr→Option (List Expr)
 | .Tuple ts _ _=>some ts
 | _=>none
noncomputable def wpT (sc:Scope) (n:Nat) (X:Xs) (ρ:c8) (t:Expr) (d:V) (H:HL) (Q:c8→HL→Prop):Prop :=
 oP (cj0 t) (fun ts=>bP (noStar ts) (oP d.items (fun ds=>bP (Nat.beq ts.length ds.length) (wpAs pG w hb sc n X ts ds ρ H Q)) False)) (wpA pG w hb sc n X ρ t d H Q)
set_option backward.match.sparseCases true in
noncomputable def fv7 (kd:Str→Option NameKind) (nf:Bool) (ts vs:List Expr):Option (Option (List Str)) :=
 if !(ts.length == 2||ts.length == 3)||vs.length != ts.length||nf then some none else
 if vs.any fun | .Starred ..=>true | _=>false then some none else
 let line:=(ts.head?.map (·.pos.line)).getD 0
 let names:=ts.filterMap fun
  | .Name id pos=>if kd id == some .local&&pos.line == line then some id else none
  | _=>none
 if names.length != ts.length||names.eraseDups.length != names.length then some none else
 if vs.all (foldedForSure 8) then some none else
 if vs.all (constantsAlone 8) then none else some (some names)
noncomputable def ik1 (sc:Scope) (ts vs:List Expr):Option (Option (List Str)):=fv7 (fun x=>sc.names.lookup x) false ts vs
noncomputable def hz1 (sc:Scope) (x:Str) (px:Pos) (line:Nat) (scope:Scope):Bool:=sc.names.lookup x == some .local&&px.line == line&&!(scope.names.any fun (n,k)=>n == x&&(k == .local||k == .cell))
noncomputable def gw4:Expr→Option (Expr × List Comprehension × Scope × Pos)
 | .ListComp e g s p=>some (e,g,s,p)
 | _=>none
noncomputable def namE:Expr→Option (Str × Pos)
 | .Name x p=>some (x,p)
 | _=>none
noncomputable def okT:Expr→Bool
 | .Name _ _=>true
 | .Attribute _ _ _=>true
 | .Subscript _ _ _=>true
 | .Tuple _ _ _=>true
 | _=>false
noncomputable def aPl (sc:Scope) (n:Nat) (X:Xs) (ρ:c8) (t e:Expr) (H:HL) (Q:c8→HL→Prop):Prop:=wpE pG w hb sc n X ρ 60 e H fun d H1=>wpA pG w hb sc n X ρ t d H1 Q
noncomputable def aTp (sc:Scope) (n:Nat) (X:Xs) (ρ:c8) (t e:Expr) (H:HL) (Q:c8→HL→Prop):Prop:=wpE pG w hb sc n X ρ 60 e H fun d H1=>wpT pG w hb sc n X ρ t d H1 Q
noncomputable def aSw (sc:Scope) (n:Nat) (X:Xs) (ρ:c8) (e:Expr) (H:HL) (Q:c8→HL→Prop) (names:List Str):Prop:=bP (names.all fun x=>sc.names.lookup x == some .local) (wpE pG w hb sc n X ρ 60 e H fun d H1=>oP d.items (fun ds=>ds.length=names.length∧Q (bv5 names.reverse ds.reverse ρ) H1) False)
noncomputable def aC1 (sc:Scope) (n:Nat) (X:Xs) (ρ:c8) (t:Expr) (H:HL) (Q:c8→HL→Prop) (c:Expr × List Comprehension × Scope × Pos) (p:Expr × Expr × List Expr):Prop:=bP (ax7 sc c.2.2.1 p.2.1) (wpE pG w hb sc n X ρ 60 p.2.1 H fun z H1=>gw3 pG w hb sc n X ρ c.1 p.1 p.2.2 c.2.2.1 z H1 fun ys=>wpA pG w hb sc n X ρ t (.dat (.list ys)) H1 Q)
noncomputable def aC2 (sc:Scope) (n:Nat) (X:Xs) (ρ:c8) (t:Expr) (H:HL) (Q:c8→HL→Prop) (c:Expr × List Comprehension × Scope × Pos) (p:Comprehension × Comprehension):Prop:=bP (ax7 sc c.2.2.1 p.1.iter&&ax1 p.2.iter) (wpE pG w hb sc n X ρ 60 p.1.iter H fun z H1=>dk5 pG w hb sc n X ρ c.1 p.1.target p.2.target p.2.iter p.1.ifs p.2.ifs c.2.2.1 z H1 fun ys=>wpA pG w hb sc n X ρ t (.dat (.list ys)) H1 Q)
noncomputable def aCo (sc:Scope) (n:Nat) (X:Xs) (ρ:c8) (t:Expr) (H:HL) (Q:c8→HL→Prop) (c:Expr × List Comprehension × Scope × Pos) (x:Str × Pos):Prop:=bP (hz1 sc x.1 x.2 c.2.2.2.line c.2.2.1) (oP (gen1 c.2.1) (aC1 pG w hb sc n X ρ t H Q c) (oP (gen2 c.2.1) (aC2 pG w hb sc n X ρ t H Q c) False))
noncomputable def aTs (sc:Scope) (n:Nat) (X:Xs) (ρ:c8) (t e:Expr) (H:HL) (Q:c8→HL→Prop) (ts:List Expr):Prop:=oP (cj0 e) (fun vs=>oP (ik1 sc ts vs) (fun o=>oP o (aSw pG w hb sc n X ρ e H Q) (aTp pG w hb sc n X ρ t e H Q)) False) (bP (eq5 (gw4 e)) (aTp pG w hb sc n X ρ t e H Q))
noncomputable def ij6 (sc:Scope) (n:Nat) (X:Xs) (ρ:c8) (t e:Expr) (H:HL) (Q:c8→HL→Prop):Prop:=bP (okT t) (
 oP (cj0 t) (aTs pG w hb sc n X ρ t e H Q)
 (oP (gw4 e) (fun c=>oP (namE t) (aCo pG w hb sc n X ρ t H Q c) (aPl pG w hb sc n X ρ t e H Q)) (aPl pG w hb sc n X ρ t e H Q)))
noncomputable def one {α:Type} (l:List α):Option α:=match l with
 | [a]=>some a
 | _=>none
theorem jx3 {α:Type} {l:List α} {a:α} (h:one l=some a):l=[a]:=by
 rcases l with _ | ⟨b,_ | ⟨_,_⟩⟩
 ·exact nn h
 ·(injection h with i;subst i);rfl
 ·exact nn h
noncomputable def gw5:Expr→Option (Expr × List Expr × List Keyword)
 | .Call f a k _=>some (f,a,k)
 | _=>none
noncomputable def gj2 (N:c8→HL→Prop) (Q:Flw→c8→HL→Prop) (fl:Flw) (ρ:c8) (H:HL):Prop:=match fl with
 | .next=>N ρ H
 | .brk=>Q .brk ρ H
 | .cont=>Q .cont ρ H
 | .ret v=>Q (.ret v) ρ H
noncomputable abbrev WS:=c8→List Stmt→HL→(Flw→c8→HL→Prop)→Prop
noncomputable def wpSF (sc:Scope) (n:Nat) (X:Xs) (_:Nat) (S:WS) (ρ:c8) (ss:List Stmt) (H:HL) (Q:Flw→c8→HL→Prop):Prop:=match ss with
  | []=>Q .next ρ H
  | s::r=>match s with
   | .Break _=>Q .brk ρ H
   | .Return e _=>oP e (fun e=>wpE pG w hb sc n X ρ 60 e H fun d H1=>Q (.ret d) ρ H1) False
   | .Expr e _=>bP (gw5 e).isSome (wpE pG w hb sc n X ρ 60 e H fun u_ H1=>S ρ r H1 Q)
   | .Assign ts e _=>oP (one ts) (fun t=>ij6 pG w hb sc n X ρ t e H fun ρ1 H1=>S ρ1 r H1 Q) False
   | .If t a b _=>wpB pG w hb sc n X ρ 60 t H fun c H1=>(c=true→S ρ a H1 (gj2 (fun ρ1 H2=>S ρ1 r H2 Q) Q))∧(c=false→S ρ b H1 (gj2 (fun ρ1 H2=>S ρ1 r H2 Q) Q))
   | .For t e body els _=>bP (Y1 els&&ax1 e) (wpE pG w hb sc n X ρ 60 e H fun x H1=>∃ ds,R4 pG w hb n x H1 H1 ds∧TFor pG w hb sc n X t body ds ρ H1 (U5 pG w hb sc n X r Q))
   | .While t body els _=>bP (Y1 els) (∃ m,O7 pG w hb sc n X t body m ρ H (U5 pG w hb sc n X r Q))
   | .Raise e c _=>bP (eq5 c) (oP e (fun e=>oP (gw5 e) (fun f=>bP (Y1 f.2.2&&noStar f.2.1) (oP (namE f.1) (fun x=>X.ex∧x.1="ScopeFault"∧sc.names.lookup ("ScopeFault":Str)=some .globalImplicit∧ej6 (wpE pG w hb sc n X ρ 60) f.2.1 H fun ds u_=>ds.length=2) False)) False) False)
   | _=>False
noncomputable def wpS0:WS:=fun u_ u_ u_ u_=>False
noncomputable def wpS (sc:Scope) (n:Nat) (X:Xs) (k:Nat) (ρ:c8) (ss:List Stmt) (H:HL) (Q:Flw→c8→HL→Prop):Prop:=Nat.rec (motive:=fun u_=>WS) wpS0 (wpSF pG w hb sc n X) k ρ ss H Q
end
end
section
section
variable {pG:Program} {w:World} {hb:Heap} {sc:Scope} {env:Env} {A:Around} {n:Nat} {X:Xs} {ρ:c8} {H:HL}
noncomputable def i9 (sc:Scope):Bool:=sc.names.all fun p=>!(p.1 == ("__debug__":Str))&&!(p.1 == ("__classdict__":Str))
theorem fq6 (g:i9 sc=true) {x:Str} {k:NameKind} (h:sc.names.lookup x=some k):(x == ("__debug__":Str))=false∧(x == ("__classdict__":Str))=false:=by
 have:=kq3.mp g _ (Qe h)
 simpa [kz7] using this
theorem ck9 (g:i9 sc=true) {x:Str} {pos:Pos} {Q:VP} (h:aw9 sc ρ x fun d=>Q d H):TE pG w hb sc n X ρ (.Name x pos) H Q:=by
 unfold aw9 at h
 (refine Qa (m9 h) ?_ ?_;(intro yz;refine c9 yz fun k e h=>?_);rotate_left;rintro ⟨_,h⟩;rotate_left)
 ·refine oA (fq6 g e) fun h1 h2=>?_
  generalize hk:dj3 k=y_;induction y_ using Ql with
  | true =>
   rw [hk] at h
   (refine Qa (m9 h) ?_ ?_;(intro yz;refine c9 yz fun d e2 h=>?_);rotate_left;rintro ⟨_,h⟩;rotate_left)
   ·exact iw4 (by refine a5 e ?_;cases k <;> first | rfl | exact nb hk) e2 h h1 h2
   ·exact h.elim
  | false =>
   rw [hk] at h
   refine oA (j3 h) fun hg h=>?_
   have ek:k=.globalImplicit:=by cases k <;> first | rfl | exact nb hg
   rw [ek] at e
   rcases m9 h with ⟨v,e2,h⟩ | ⟨_,h⟩
   ·exact bj1 e (fun P=>ak1 P e2) (fq7 v) h h1
   ·rcases m9 h with ⟨v,e2,h⟩ | ⟨_,h⟩
    ·exact dx5 e (fun P=>(dv0 P e2).1) (dv0 w.params e2).2.1 h (dv0 w.params e2).2.2 h1
    ·exact h.elim
 ·exact h.elim
theorem aj9 {α:Type} {o:Option α} {K K':α→Prop} {N N':Prop} (hk:∀ a,K a→K' a) (hn:N→N') (h:oP o K N):oP o K' N':=by
 induction o using Qd with
 | none=>exact hn h
 | some a=>exact hk a h
theorem dj1 {x:Str} {Q Q':V→Prop} (hq:∀ a,Q a→Q' a) (h:aw9 sc ρ x Q):aw9 sc ρ x Q':=by
 unfold aw9 at h ⊢
 refine aj9 (fun k h=>?_) id h
 generalize hk:dj3 k=y_;induction y_ using Ql with
 | true=>rw [hk] at h;exact aj9 hq id h
 | false =>
  rw [hk] at h
  refine oA (j3 h) fun hg h=>?_
  simp only [bP,hg]
  exact aj9 (fun v=>hq _) (aj9 (fun v=>hq _) id) h
theorem ij1 {op:Operator} {a b:V} {Q:VP} (h:binP pG w hb n X op a b H Q):Op pG w hb n X (RepV pG w) (G0 (binaryOp op)) [a,b] H Q:=by
 unfold binP at h
 (refine Qa (m9 h) ?_ ?_;(intro yz;refine c9 yz fun i e h=>?_);rotate_left;rintro ⟨_,h⟩;rotate_left)
 ·(refine Qa (m9 h) ?_ ?_;(intro yz;refine c9 yz fun j e' h=>?_);rotate_left;rintro ⟨_,h⟩;rotate_left)
  ·refine a5 (K6 e) (a5 (K6 e') ?_)
   induction op using PySem.Operator.casesOn with
   | Add=>exact hw9 h
   | Sub=>exact hv9 h
   | Mult=>exact hw0 h.1 h.2
   | Mod=>exact hw1 h.1 h.2
   | _=>exact h.elim
  ·exact h.elim
 (refine Qa (m9 h) ?_ ?_;(intro yz;refine c9 yz fun i e h=>?_);rotate_left;rintro ⟨_,h⟩;rotate_left)
 ·(refine Qa (m9 h) ?_ ?_;(intro yz;refine c9 yz fun j e' h=>?_);rotate_left;rintro ⟨_,h⟩;rotate_left)
  ·refine oA (j3 h) fun o h=>?_
   refine a5 (K5 e) (a5 (K5 e') (a5 (bq4 o) ?_))
   exact hw7 h.1 h.2
  ·exact h.elim
 (refine Qa (m9 h) ?_ ?_;(intro yz;refine c9 yz fun i e h=>?_);rotate_left;rintro ⟨_,h⟩;rotate_left)
 ·(refine Qa (m9 h) ?_ ?_;(intro yz;refine c9 yz fun j e' h=>?_);rotate_left;rintro ⟨_,h⟩;rotate_left)
  ·refine oA (j3 h) fun o h=>?_
   refine a5 (bv6 e) (a5 (bv6 e') (a5 (bq4 o) ?_))
   exact hw6 h.1 h.2
  ·exact h.elim
 (refine Qa (m9 h) ?_ ?_;(intro yz;refine c9 yz fun i e h=>?_);rotate_left;rintro ⟨_,h⟩;rotate_left)
 ·(refine Qa (m9 h) ?_ ?_;(intro yz;refine c9 yz fun j e' h=>?_);rotate_left;rintro ⟨_,h⟩;rotate_left)
  ·refine oA (j3 h) fun o h=>?_
   refine a5 (bv8 e) (a5 (bv8 e') (a5 (bq4 o) ?_))
   exact hw8 l8 l8 h.1 h.2
  ·exact h.elim
 exact h
theorem jx1 {a b:Str} {Q:VP} (q:Q (.dat (.bool (a == b))) H):Op pG w hb n X (RepV pG w) (G0 (compareOp .Eq)) [.dat (.str a),.dat (.str b)] H Q:=by
 refine .grow fun A Z s vs R E rm y rl k=>?_
 (refine a8 rl.inv2 ?_;rintro v u rfl r1 r2)
 (refine oE r1.str ?_;rintro t rfl)
 (refine oE r2.str ?_;rintro t' rfl)
 exact PyProof.Rows.eq_str (k (h':=s.heap) (t:=s.toks) (Sub.refl _) (m7 _) q)
theorem jq5 {a b:Str} {Q:VP} (q:Q (.dat (.bool (!(a == b)))) H):Op pG w hb n X (RepV pG w) (G0 (compareOp .NotEq)) [.dat (.str a),.dat (.str b)] H Q:=by
 refine .grow fun A Z s vs R E rm y rl k=>?_
 (refine a8 rl.inv2 ?_;rintro v u rfl r1 r2)
 (refine oE r1.str ?_;rintro t rfl)
 (refine oE r2.str ?_;rintro t' rfl)
 exact PyProof.Rows.ne_str (k (h':=s.heap) (t:=s.toks) (Sub.refl _) (m7 _) q)
theorem ix8 {op:CmpOp} {i j:Int} {t:Bool} (h:cmpO op i j=some t):gj7 op=true∧cmpI op i j=t:=by
 cases op <;> first | ((injection h with i;subst i);exact ⟨rfl,rfl⟩) | exact nn h
theorem ak4 {op:CmpOp} {a b:V} {Q:VP} (h:fx8 pG w hb n X op a b H Q):Op pG w hb n X (RepV pG w) (G0 (compareOp op)) [a,b] H Q:=by
 unfold fx8 at h
 rcases m9 h with ⟨y,e,h⟩ | ⟨_,h⟩
 ·refine oA (j3 h) fun hb h=>?_
  have eb:b=.dat .none:=by
   induction b using Mine.V.casesOn with
   | dat d=>cases d <;> first | rfl | exact nb hb
   | _=>exact nb hb
  (refine Qa (m9 h) ?_ ?_;(intro yz;refine c9 yz fun t e2 h=>?_);rotate_left;rintro ⟨_,h⟩;rotate_left)
  ·refine a5 (jz6 e) (a5 eb ?_)
   induction y using Ql with
   | true=>exact ew3 e2 h
   | false=>exact cq1 e2 h
  ·exact h.elim
 (refine Qa (m9 h) ?_ ?_;(intro yz;refine c9 yz fun i e h=>?_);rotate_left;rintro ⟨_,h⟩;rotate_left)
 ·(refine Qa (m9 h) ?_ ?_;(intro yz;refine c9 yz fun j e' h=>?_);rotate_left;rintro ⟨_,h⟩;rotate_left)
  ·(refine Qa (m9 h) ?_ ?_;(intro yz;refine c9 yz fun t e2 h=>?_);rotate_left;rintro ⟨_,h⟩;rotate_left)
   ·refine oA (ix8 e2) fun h1 h2=>?_
    refine a5 (K6 e) (a5 (K6 e') ?_)
    exact hw4 h1 (by refine a5 h2 ?_;exact h)
   ·exact h.elim
  ·exact h.elim
 (refine Qa (m9 h) ?_ ?_;(intro yz;refine c9 yz fun i e h=>?_);rotate_left;rintro ⟨_,h⟩;rotate_left)
 ·rcases m9 h with ⟨y,e2,h⟩ | ⟨_,h⟩
  ·(refine Qa (m9 h) ?_ ?_;(intro yz;refine c9 yz fun j e' h=>?_);rotate_left;rintro ⟨_,h⟩;rotate_left)
   ·refine a5 (K5 e) (a5 (K5 e') (a5 (jj6 e2) ?_))
    induction y using Ql with
    | true=>exact jx1 h
    | false=>exact jq5 h
   ·exact h
  ·exact h
 exact h
theorem hx9 {d:V} {x:Str} {Q:VP} (h:bx8 pG w hb n X d x H Q):Op pG w hb n X (RepV pG w) (op1 fun o=>getAttr o x true) [d] H Q:=by unfold bx8 at h;exact h
theorem cv0 {d:V} {x:Str} {K:Value→Prop} (h:w8 pG w hb d x H K):∃ f,fj0 pG w hb d H x f∧bz4 w f=true∧K f:=by unfold w8 at h;exact h
theorem ij2 {d v:V} {C:Addr} {fs:List (Str × V)} {x:Str} {Q:VP} (I:InstV pG w hb H d C fs) (hx:fs.lookup x=some v) (hf:Y2 C x=true) (hc:L0 v=true) (q:Q v H):bx8 pG w hb n X d x H Q:=by
 have F:=gk8 w hf
 refine c9 F.f fun a f1 f2=>?_
 unfold bx8
 exact hw5 I hx F.g F.d f1 f2 hc q
theorem iq3 {d:V} {C f:Addr} {fs:List (Str × V)} {x:Str} {K:Value→Prop} (I:InstV pG w hb H d C fs) (hf:az7 C x=some f) (hx:fs.lookup x=none) (k:K (.ref f)):w8 pG w hb d x H K:=by
 have F:=jx6 w hf
 unfold w8
 exact ⟨_,ew6 I hx F.g F.at_ F.i,F.k,k⟩
theorem ak0 {d:V} {f:Value} {x:Str} {K:Value→Prop} (m:fj0 pG w hb d H x f) (hk:bz4 w f=true) (k:K f):w8 pG w hb d x H K:=by unfold w8;exact ⟨f,m,hk,k⟩
theorem hv1 {v i:Expr} (hp:aq0 i) (hs:∀ l k u,subscripted i false (.ref l) (.str k u)=operate [.ref l,.str k u] (getItem (.ref l) (.str k u))) {lit:Bool} {a b:V} {Q:VP} (h:subP pG w hb lit a b H Q):Op pG w hb n X (RepV pG w) (G0 (subscriptTail v i)) [a,b] H Q:=by
 have it:∀ j,Y0 pG w hb a j H Q→Op pG w hb n X (RepV pG w) (G0 (subscriptTail v i)) [a,.dat (.int j)] H Q:=fun j h=>by
  unfold Y0 at h
  (refine a8 h ?_;clear h;intro ds x S h1 q)
  rcases h1 with ⟨h1,h2,h3⟩ | ⟨rfl,h2,h3⟩
  ·exact eq1 S h1 h2 h3 q hp
  ·exact hw3 S h2 h3 q hp
 unfold subP at h
 (refine Qa (m9 h) ?_ ?_;(intro yz;refine c9 yz fun j e h=>?_);rotate_left;rintro ⟨_,h⟩;rotate_left)
 ·refine a5 (K6 e) ?_
  (refine Qa (m9 h) ?_ ?_;(intro yz;refine c9 yz fun ds e2 h=>?_);rotate_left;rintro ⟨_,h⟩;rotate_left)
  ·(refine Qa (m9 h) ?_ ?_;(intro yz;refine c9 yz fun k e3 h=>?_);rotate_left;rintro ⟨_,h⟩;rotate_left)
   ·refine oA (j3 h) fun h1 h=>?_
    (refine Qa (m9 h) ?_ ?_;(intro yz;refine c9 yz fun x e4 h=>?_);rotate_left;rintro ⟨_,h⟩;rotate_left)
    ·have:=jv2 h1
     refine a5 (iq2 e3) ?_
     exact eq1 (j5 e2) (kx2 k) (by lia) e4 h hp
    ·exact it j h
   ·exact it j h
  ·exact it j h
 (refine Qa (m9 h) ?_ ?_;(intro yz;refine c9 yz fun k e h=>?_);rotate_left;rintro ⟨_,h⟩;rotate_left)
 ·refine a5 (K5 e) ?_
  unfold gj0 at h
  (refine a8 h ?_;clear h;intro kvs x D h1 q)
  exact jx0 D h1 q hs
 ·exact h.elim
theorem g9 {d:V} {kvs:List (Str × PyData)} {k:Str} {x:PyData} {Q:VP} (D:DctV pG w hb H d kvs) (hx:kvs.lookup k=some x) (q:Q (.dat x) H):gj0 pG w hb d k H Q:=by
 unfold gj0;exact ⟨kvs,x,D,hx,q⟩
theorem o8 {d x:V} {ds:List V} {j:Int} {k:Nat} {Q:VP} (S:Z9 pG w hb H d ds) (e:j=(k:Int)) (hk:k≤1000000) (hx:ds[k]?=some x) (q:Q x H):Y0 pG w hb d j H Q:=by
 unfold Y0
 subst e
 exact ⟨ds,x,S,.inl ⟨kx2 k,by lia,hx⟩,q⟩
theorem fv8 {d x:V} {ds:List V} {Q:VP} (S:Z9 pG w hb H d ds) (hk:ds.length≤1000000) (hx:ds.getLast?=some x) (q:Q x H):Y0 pG w hb d (-1) H Q:=by
 unfold Y0
 exact ⟨ds,x,S,.inr ⟨rfl,by exact d6 [_] 1 zA (.num 1000000) (.add zA nA) (.num 4611686018427387904) tT hk,hx⟩,q⟩
theorem slice_at {d:V} {xs:List PyData} {l u k:Option Int} {Q:VP} (S:ListV pG w hb H d (xs.map .dat)) (hl:xs.length≤1000000) (q:Q (.dat (.list (F3 xs l u k))) H):bw3 pG w hb d l u k H Q:=by
 unfold bw3
 exact ⟨xs,S,hl,q⟩
theorem hj0 {ds:List V} {Q:VP} (h:tupP ds H Q):Op pG w hb n X (RepV pG w) newTuple ds H Q:=by
 refine oA (j3 h) fun e1 h=>?_
 have hn:=jv2 e1
 (refine Qa (m9 h) ?_ ?_;(intro yz;refine c9 yz fun xs e2 h=>?_);rotate_left;rintro ⟨_,h⟩;rotate_left)
 ·have hl:=bx1 e2
  rw [hl.length] at hn
  exact ck3 hl hn h
 ·exact ew2 hn h
theorem iq5 {o:Bool} {ds:List V} {Q:VP} (h:lstP o ds H Q):Op pG w hb n X (RepV pG w) newList ds H Q:=by
 refine oA (j3 h) fun e1 h=>?_
 have hn:=jv2 e1
 (refine Qa (m9 h) ?_ ?_;(intro yz;refine c9 yz fun xs e2 h=>?_);rotate_left;rintro ⟨_,h⟩;rotate_left)
 ·have hl:=bx1 e2
  rw [hl.length] at hn
  cases o
  ·exact Qa h (dz8 hl hn) (az5 hl hn)
  ·exact az5 hl hn h
 ·exact h.elim
theorem I0 {e:Option Expr} {v:Option Int} (h:cq4 e=some v):bz0 pG w hb sc n X ρ e H v:=by
 induction e using Qd with
 | none=>(injection h with i;subst i);trivial
 | some e =>
  have h:(match ew9 e with | some i=>some (some i) | none=>none)=some v:=h
  generalize q:ew9 e=y_;induction y_ using Qd with
  | none=>rw [q] at h;exact nn h
  | some i =>
   rw [q] at h
   (injection h with i;subst i)
   induction e using PySem.Expr.casesOn with
   | Constant c _ _=>refine a5 (ej0 q) ?_;exact dx3 ⟨rfl,rfl⟩
   | UnaryOp op x _ =>
    induction op using PySem.UnaryOp.casesOn with
    | USub =>
     induction x using PySem.Expr.casesOn with
     | Constant c _ _ =>
      have q:(match hq8 c with | some i=>some (-i) | none=>none)=some i:=q
      generalize q2:hq8 c=y_;induction y_ using Qd with
      | none=>rw [q2] at q;exact nn q
      | some j=>rw [q2] at q;(injection q with i;subst i);refine a5 (ej0 q2) ?_;exact av0 (dx3 (gx1 ⟨rfl,rfl⟩))
     | _=>exact nn q
    | _=>exact nn q
   | _=>exact nn q
theorem I8 {e:Expr} {es:List Expr} (h:noStar (e::es)=true) (env:Env):starEach (e::es) env=(false,eval e env)::starEach es env:=by
 cases e <;> first | rfl | exact nb h
theorem H9 {e:Expr} {es:List Expr} (h:noStar (e::es)=true):noStar es=true:=(jw6.mp h).2
theorem M0:∀ {es:List Expr} (h:noStar es=true) (env:Env) (pos:Pos),(backTo pos (starEach es env)).any (·.1)=false
 | [],_,_,_=>rfl
 | e::es,h,env,pos=>by
  rw [I8 h]
  refine (?_:(_||(backTo pos (starEach es env)).any (·.1))=false)
  rw [M0 (H9 h)]
  rfl
theorem aw8:∀ {es:List Expr} (h:noStar es=true) (env:Env) (pos:Pos),(backTo pos (starEach es env)).all (!·.1)=true
 | [],_,_,_=>rfl
 | e::es,h,env,pos=>by
  rw [I8 h]
  refine (?_:(_&&(backTo pos (starEach es env)).all (!·.1))=true)
  rw [aw8 (H9 h)]
  rfl
theorem O8 {f:Expr→HL→(VP)→Prop} {pos:Pos} (hf:∀ e H Q,f e H Q→TE pG w hb sc n X ρ e H Q):∀ {es:List Expr} {H:HL} {Q:List V→HL→Prop},noStar es=true→ej6 f es H Q→TEs pG w hb sc n X ρ pos es H Q
 | [],H,Q,_,h=>hj6 h
 | e::es,H,Q,hs,h=>fk7 (Tri.mono (hf e H _ h) fun a ρ' H1 q=>⟨q.1,O8 hf (H9 hs) q.2⟩) (I8 hs)
theorem fj3 {f:Expr→HL→(VP)→Prop} (hf:∀ e H Q,f e H Q→TE pG w hb sc n X ρ e H Q):∀ {es:List Expr} {out:Str} {H:HL} {Q:VP},wpJ f es out H Q→TJ pG w hb sc n X ρ out es H Q
 | [],out,H,Q,h=>iw3 h.1 h.2
 | e::es,out,H,Q,h=>hj5 (Tri.mono (hf e H _ h) fun a ρ' H1 q=>⟨q.1,by
   rcases m9 q.2 with ⟨y,e,q⟩ | ⟨_,q⟩
   ·exact ⟨_,K5 e,q.1,fj3 hf q.2⟩
   ·exact q.elim⟩)
theorem cz5 {g:Expr→HL→(Bool→HL→Prop)→Prop} (hg:∀ e H Q,g e H Q→TB pG w hb sc n X ρ e H Q):∀ {es:List Expr} {H:HL} {Q:Bool→HL→Prop},ij7 g es H Q →
  Tri pG w hb sc n X (fun _ (a b:Bool)=>a=b) (allTrue .And es) ρ H (fun d ρ' H'=>ρ'=ρ∧Q d H')
 | [],H,Q,h=>dx7 h
 | e::es,H,Q,h=>jq0 (Tri.mono (hg e H _ h) fun c ρ' H1 q=>⟨q.1,fun hc=>cz5 hg (q.2.1 hc),q.2.2⟩)
theorem dv8 {g:Expr→HL→(Bool→HL→Prop)→Prop} (hg:∀ e H Q,g e H Q→TB pG w hb sc n X ρ e H Q):∀ {es:List Expr} {H:HL} {Q:Bool→HL→Prop},wpOr g es H Q →
  Tri pG w hb sc n X (fun _ (a b:Bool)=>a=b) (allTrue .Or es) ρ H (fun d ρ' H'=>ρ'=ρ∧Q d H')
 | [],H,Q,h=>ek3 h
 | e::es,H,Q,h=>ta_or (Tri.mono (hg e H _ h) fun c ρ' H1 q=>⟨q.1,fun hc=>dv8 hg (q.2.1 hc),q.2.2⟩)
theorem TE.imp {e:Expr} {Q Q':VP} (x:TE pG w hb sc n X ρ e H Q) (h:∀ d H',Q d H'→Q' d H'):TE pG w hb sc n X ρ e H Q':=Tri.mono x fun d ρ' H' q=>⟨q.1,h d H' q.2⟩
theorem TB.imp {e:Expr} {Q Q':Bool→HL→Prop} (x:TB pG w hb sc n X ρ e H Q) (h:∀ d H',Q d H'→Q' d H'):TB pG w hb sc n X ρ e H Q':=Tri.mono x fun d ρ' H' q=>⟨q.1,h d H' q.2⟩
theorem frz {Q:VP} (ys:List PyData) (H1:HL) (D:Addr) (q:Q (.dat (.list ys)) H1∨∀ D,Q (.ref D) ((D,.lst ys)::H1)):∃ Hs H0 d',((D,O.lst ys)::H1)=Hs++H0∧Fz Hs (.ref D) d'∧Q d' H0:=by
 refine Qa q (fun q=>?_) fun q=>?_
 ·exact ⟨[(D,.lst ys)],H1,.dat (.list ys),rfl,.lst (by exact kz6 _),q⟩
 ·exact ⟨[],_,.ref D,rfl,.same,q D⟩
theorem gw2 {elt t iter:Expr} {ifs:List Expr} {scope:Scope} {pos:Pos} {Q:VP}
  (h:TE pG w hb sc n X ρ iter H fun x H1=>gw3 pG w hb sc n X ρ elt t ifs scope x H1 fun ys=>Q (.dat (.list ys)) H1∨∀ D,Q (.ref D) ((D,.lst ys)::H1)) (hb':ax7 sc scope iter=true):TE pG w hb sc n X ρ (.ListComp elt [⟨t,iter,ifs,0⟩] scope pos) H Q:=by
 refine oA (jw6.mp hb') fun h0 h1=>?_
 refine oA (jw6.mp h1) fun h1 h2=>?_
 refine bj2 (az1 ez7 (fun ys H1=>Q (.dat (.list ys)) H1∨∀ D,Q (.ref D) ((D,.lst ys)::H1)) frz (Q8 h1) h2 (h.imp fun x H1 q=>?_) (B0 h0))
 (refine oE q ?_;clear q;intro Hk y;refine o4 y ?_;clear y;intro ds b i l tc)
 exact ⟨Hk,ds,b,i,by refine a5 (Nat.mul_one ..) ?_;exact l,tc⟩
theorem fx7 {elt t iter t2 iter2:Expr} {ifs ifs2:List Expr} {scope:Scope} {pos:Pos} {Q:VP}
  (h:TE pG w hb sc n X ρ iter H fun x H1=>dk5 pG w hb sc n X ρ elt t t2 iter2 ifs ifs2 scope x H1 fun ys=>Q (.dat (.list ys)) H1∨∀ D,Q (.ref D) ((D,.lst ys)::H1)) (hb':(ax7 sc scope iter&&ax1 iter2)=true):TE pG w hb sc n X ρ (J2 elt t iter ifs t2 iter2 ifs2 scope pos) H Q:=by
 refine oA (jw6.mp hb') fun hb' hn=>?_
 refine oA (jw6.mp hb') fun h0 h1=>?_
 refine oA (jw6.mp h1) fun h1 h2=>?_
 refine bj2 (az1 (ez6 (B0 hn)) (fun ys H1=>Q (.dat (.list ys)) H1∨∀ D,Q (.ref D) ((D,.lst ys)::H1)) frz (Q8 h1) h2 (h.imp fun x H1 q=>?_) (B0 h0))
 (refine oE q ?_;clear q;intro Hk y;refine o4 y ?_;clear y;intro ds b i l tc)
 exact ⟨Hk,ds,b,i,mv3 1000 l,tc⟩
end
end
end Mine
section
set_option backward.match.sparseCases true
namespace Mine
section
section
variable {pG:Program} {w:World} {hb:Heap} {sc:Scope} {env:Env} {A:Around} {n:Nat} {X:Xs} {ρ:c8} {H:HL}
theorem ej3 {o:Expr} (h:cz1 o=true) (name:Str) (env:Env) (x:Sem Value):attributeBase o name env x=x:=by
 induction o using PySem.Expr.casesOn with
 | Call f args kws p =>
  induction args using Qh with
  | nil=>exact nb h
  | cons a as=>cases f <;> rfl
 | Name _ _=>rfl
 | Attribute _ _ _=>rfl
 | Subscript _ _ _=>rfl
 | _=>exact nb h
theorem iz0 {o:Expr} {name:Str} {apos pos:Pos} {args:List Expr} (h1:cz1 o=true) (h2:noStar args=true) (h3:(apos.endLine == pos.line)=true) (h4:Nat.blt args.length 30=true) (env:Env) :
  ∃ pl,eval (.Call (.Attribute o name apos) args [] pos) env=(do
   let ov ← eval o env
   standAt apos.atName
   let (f,first) ← holding [ov] (getMethod ov name pl)
   callWith pos f first (backTo pos (starEach args env)) (backToKw pos (keywordEach [] env))):=by
 refine ⟨do return (← importBound o env).getD true,?_⟩
 have hf:methodCallForm (args.length+([]:List Keyword).length) (backTo pos (starEach args env)) (backToKw pos (keywordEach [] env))=true:=by
  dsimp only [methodCallForm]
  rw [aw8 h2]
  have:args.length<30:=by have:=jv2 h4;lia
  refine (?_:(true&&true&&decide (args.length+0+0<30))=true)
  exact decide_eq_true this
 refine (?_:(do let ov ← attributeBase o name env (eval o env);standAt apos.atName;methodCall o name apos pos env ov (args.length+([]:List Keyword).length) (backTo pos (starEach args env)) (backToKw pos (keywordEach [] env)))=_)
 rw [ej3 h1]
 dsimp only [methodCall]
 refine a5 hf ?_
 have hp:methodCallPos true o env apos pos=pure pos:=by
  dsimp only [methodCallPos]
  refine a5 h3 ?_
  rfl
 refine a5 hp ?_
 rfl
theorem jj8 {e:Expr} {c:Const} {kk:Nat} {p:Pos} {d:PyData} {Q:VP} (h:cDat c=some d) (q:Q (.dat d) H):TE pG w hb sc n X ρ (.Constant c kk p) H Q:=by
 induction c using PySem.Const.casesOn with
 | int i=>(injection h with i;subst i);exact dx3 q
 | str i=>(injection h with i;subst i);exact iw6 q
 | bool i=>(injection h with i;subst i);exact hk4 q
 | none=>(injection h with i;subst i);exact hj7 q
 | _=>exact nn h
theorem jj4 {e:Expr} {p:Pos} {Q:VP} (h:TE pG w hb sc n X ρ e H fun a H1=>fmtP a fun d=>Q d H1):TE pG w hb sc n X ρ (.FormattedValue e (-1) none p) H Q:=by
 refine .intro fun env A Z s R E pt ex k=>FormattedValue_plain (h.run pt ex fun {v s1 Z1 a ρ1 H1} s1' p1 ex1 u1 r1 q1=>?_)
 (refine oA q1 ?_;clear q1;rintro rfl q)
 rcases m9 q with ⟨y,e1,hl,q⟩ | ⟨_,q⟩
 ·rw [K5 e1] at r1
  (refine oE r1.str ?_;rintro t rfl)
  have:sizeLine=16777216:=by rfl
  exact formatField_str (fun t' tk=>k (pt.tr p1 s1' (.tok _ _ _ _ tk)) (p1.tok tk) (N5 _ _) ⟨rfl,q⟩) (by exact ul hl tT)
 ·rcases m9 q with ⟨i,e1,hl,q⟩ | ⟨_,q⟩
  ·rw [K6 e1] at r1
   (refine oE r1.int ?_;rintro t rfl)
   exact formatField_int_small (bq1 hl) (k (pt.tr p1 s1' (.tok _ _ _ _ _)) (p1.tok _) (N5 _ _) ⟨rfl,q⟩)
  ·exact q.elim
theorem bk1 {a:Option Expr} {i:Int} (h:cq4 a=some (some i)):∃ e,a=some e:=by
 induction a using Qd with
 | none=>cases h
 | some e=>exact ⟨e,rfl⟩
theorem ew8 {a:Option Expr} (h:cq4 a=some none):a=none:=by
 induction a using Qd with
 | none=>rfl
 | some e =>
  have h:(match ew9 e with | some i=>some (some i) | none=>none)=some none:=h
  generalize q:ew9 e=y_;induction y_ using Qd with
  | none=>rw [q] at h;exact nn h
  | some i=>rw [q] at h;cases h
theorem gv8 {xs ys:List PyData} (h:iv2 xs=some ys):∃ a b c d e,xs=[a,b,c,d,e]∧ys=[b,c,d,e]:=by
 rcases xs with _ | ⟨a,_ | ⟨b,_ | ⟨c,_ | ⟨d,_ | ⟨e,_ | ⟨_,_⟩⟩⟩⟩⟩⟩ <;> first | cases h;exact ⟨_,_,_,_,_,rfl,rfl⟩ | exact nn h
theorem fv9 {o:Expr} {a b c:Option Expr} {p p':Pos} {l u t:Option Int} {Q:VP} (ha:cq4 a=some l) (hb':cq4 b=some u) (hc:cq4 c=some t)
  (h:TE pG w hb sc n X ρ o H fun d H1=>t≠some 0∧slcP pG w hb d l u t H1 Q):TE pG w hb sc n X ρ (.Subscript o (.Slice a b c p) p') H Q:=by
 generalize e:is15 l u t=y_;induction y_ using Ql with
 | false =>
  refine ek0 (l:=l) (u:=u) (k:=t) (h.imp fun d H1 q=>?_) (fun u_ u_=>by cases c <;> exact ⟨_,rfl⟩)
  have q2:=q.2
  dsimp only [slcP] at q2
  rw [e] at q2
  (refine Qa (m9 q2) ?_ ?_;(intro yz;refine o9 yz fun xs e h1 h2=>?_);rotate_left;rintro ⟨_,h⟩;rotate_left)
  ·refine a5 (bv8 e) ?_
   exact ⟨xs,l8,h1,I0 ha,I0 hb',I0 hc,q.1,h2⟩
  ·unfold bw3 at h
   (refine o9 h ?_;clear h;intro xs h0 h1 h2)
   exact ⟨xs,h0,h1,I0 ha,I0 hb',I0 hc,q.1,h2⟩
 | true =>
  simp only [is15,kz7,beq_iff_eq] at e
  (refine oA e ?_;clear e;rintro ⟨rfl,rfl⟩ rfl)
  (refine oE (bk1 ha) ?_;rintro a rfl)
  (refine oE (bk1 hb') ?_;rintro b rfl)
  cases ew8 hc
  refine dx2 (h.imp fun d H1 q=>?_) (fun u_ u_=>⟨_,rfl⟩)
  refine f8 q.2 (fun xs e h1=>?_) fun u_ q=>q.elim
  ·refine f8 h1 (fun ys e2 h2=>?_) fun u_ q=>q.elim
   ·(refine oE (gv8 e2) ?_;intro a' y;refine oE y ?_;clear y;intro b' y;refine w5 y ?_;clear y;rintro c' d' e' rfl rfl)
    exact ⟨a',b',c',d',e',bv6 e,I0 ha,I0 hb',h2⟩
theorem ek5 {i:Expr} {s:Option Expr × Option Expr × Option Expr} (h:dx9 i=some s):∃ p,i=.Slice s.1 s.2.1 s.2.2 p:=by
 cases i with
 | Slice a b c p=>(injection h with i;subst i);exact ⟨p,rfl⟩
 | _=>exact nn h
theorem ev3 {i:Expr} (h:dx9 i=none):aq0 i∧∀ l k u,subscripted i false (.ref l) (.str k u)=operate [.ref l,.str k u] (getItem (.ref l) (.str k u)):=by
 cases i with
 | Slice a b c p=>exact ns h
 | _=>exact ⟨fun u_ u_ u_=>by with_unfolding_all rfl,fun u_ u_ u_=>by with_unfolding_all rfl⟩
theorem fj2 (g:i9 sc=true):∀ k:Nat,(∀ e H Q,wpE pG w hb sc n X ρ k e H Q→TE pG w hb sc n X ρ e H Q)∧∀ e H Q,wpB pG w hb sc n X ρ k e H Q→TB pG w hb sc n X ρ e H Q
 | 0=>⟨fun u_ u_ u_ h=>h.elim,fun u_ u_ u_ h=>h.elim⟩
 | k+1=>by
  refine oA (fj2 g k) fun hE hB=>?_
  have val:∀ e H Q,(wpE pG w hb sc n X ρ k e H fun a H1=>fk2 a fun b=>Q b H1)→(∀ env whole,isTrue e env whole=(do let v ← whole;standAt e.pos;holding [v] (truthy v)))→TB pG w hb sc n X ρ e H Q:=fun e H Q h he =>
   iw7 ((hE e H _ h).imp fun a H1 q=>by
    refine f8 q (fun b e1 q=>?_) (fun u_ q=>?_)
    ·rw [ak6 e1];exact ev9 q
    ·exact q.elim) he
  refine ⟨fun e H Q h=>?_,fun e H Q h=>?_⟩
  ·induction e using PySem.Expr.casesOn with
   | Name x p=>exact ck9 g h
   | Constant c kk p =>
    refine f8 h (fun d e1 q=>?_) fun u_ q=>q.elim
    ·exact jj8 (e:=.Constant c kk p) e1 q
   | BinOp l op r p=>exact fv3 ((hE _ _ _ h).imp fun a H1 q=>(hE _ _ _ q).imp fun b H2 q=>ij1 q)
   | Compare l ops rs p =>
    refine f8 h (fun d e1 q=>?_) fun u_ q=>q.elim
    ·(refine oA (ez5 e1) ?_;rintro rfl rfl)
     refine oA (j3 q) fun hm q=>?_
     exact dx4 ((hE _ _ _ q).imp fun a H1 q=>(hE _ _ _ q).imp fun b H2 q=>ak4 q) (by simpa using hm)
   | UnaryOp op x p =>
    cases op with
    | USub=>exact av0 ((hE _ _ _ h).imp fun a H1 q=>by
      refine f8 q (fun i e1 q=>?_) (fun u_ q=>?_)
      ·rw [K6 e1];exact gx1 q
      ·exact q.elim)
    | _=>exact av0 ((hE _ _ _ h).imp fun a H1 q=>(show False from q).elim)
   | IfExp t a b p=>exact fk9 ((hB _ _ _ h).imp fun c H1 q=>⟨fun hc=>hE _ _ _ (q.1 hc),fun hc=>hE _ _ _ (q.2 hc)⟩)
   | BoolOp op es p =>
    refine oA (j3 h) fun ho h=>?_
    have eo:op=.Or:=by cases op <;> first | rfl | exact nb ho
    refine f8 h (fun d e1 q=>?_) fun u_ q=>q.elim
    ·rw [iw2 e1,eo]
     exact te_or ((hE _ _ _ q).imp fun a H1 q=>by
      refine f8 q (fun c e2 q=>?_) (fun u_ q=>?_)
      ·exact ⟨c,ak6 e2,q.1,fun hc=>hE _ _ _ (q.2 hc)⟩
      ·exact q.elim)
   | Attribute o x p =>
    refine oA (j3 h) fun hb' h=>?_
    exact hk6 ((hE _ _ _ h).imp fun a H1 q=>hx9 q) fun env=>by
     show (do let o' ← attributeBase o x env (eval o env);standAt p.atName;let r ← holding [o'] (getAttr o' x true);letTemporaryGo o o' r;pure r)=_
     rw [ej3 hb']
   | Subscript o i p =>
    refine f8 h (fun s e1 q=>?_) (fun e1 q=>?_)
    ·(refine oE (ek5 e1) ?_;rintro p' rfl)
     refine f8 q (fun l ha q=>?_) fun u_ q=>q.elim
     ·refine f8 q (fun u hb' q=>?_) fun u_ q=>q.elim
      ·refine f8 q (fun t hc q=>?_) fun u_ q=>q.elim
       ·exact fv9 ha hb' hc (hE _ _ _ q)
    ·refine oA (ev3 e1) fun h1 h2=>?_
     exact iw5 ((hE _ _ _ q).imp fun a H1 q=>(hE _ _ _ q).imp fun b H2 q=>hv1 h1 h2 q)
   | Tuple es kk p =>
    refine oA (j3 h) fun hs h=>?_
    exact fk8 (Tri.mono (O8 hE hs h) fun ds ρ' H1 q=>⟨q.1,hj0 q.2⟩)
   | List es p =>
    refine oA (j3 h) fun hs h=>?_
    exact hj8 (Tri.mono (O8 hE hs h) fun ds ρ' H1 q=>⟨q.1,iq5 q.2⟩)
   | Dict ks vs p =>
    refine oA (j3 h) fun hs h=>?_
    refine oA (jw6.mp hs) fun h1 h2=>?_
    rw [E4 h1,E4 h2]
    exact fv2 h
   | ListComp elt gs scope p =>
    refine f8 h (fun d e1 q=>?_) (fun u_ q=>?_)
    ·rw [ez1 e1]
     refine oA (j3 q) fun hc q=>?_
     exact gw2 (hE _ _ _ q) hc
    ·refine f8 q (fun d e1 q=>?_) fun u_ q=>q.elim
     ·rw [ez0 e1]
      refine oA (j3 q) fun hc q=>?_
      exact fx7 (hE _ _ _ q) hc
   | JoinedStr es p =>
    refine oA (j3 h) fun hs h=>?_
    match es,hs,h with
    | a::b::es,_,h=>exact hj9 (fj3 hE h)
   | FormattedValue x c s p =>
    refine oA (j3 h) fun hs h=>?_
    refine oA (jw6.mp hs) fun h1 h2=>?_
    rw [eq_of_beq h1,aw7 h2]
    exact jj4 (hE _ _ _ h)
   | Call func args kws p =>
    refine oA (j3 h) fun hs h=>?_
    rw [E4 hs]
    cases func with
    | Attribute o x ap =>
     refine oA (j3 h) fun hs h=>?_
     simp only [kz7] at hs
     (refine oA hs ?_;clear hs;rintro ⟨⟨h1,h2⟩,h3⟩ h4)
     exact ek1 ((hE _ _ _ h).imp fun a H1 q=>by
      refine o9 (cv0 q) fun f m1 m2 m3=>?_
      exact ⟨f,m1,m2,O8 hE h2 m3⟩) (fun env=>M0 h2 env p) fun env=>iz0 h1 h2 h3 h4 env
    | Name x xp =>
     refine oA (j3 h) fun h2 h=>?_
     exact hk3 (ck9 (Q:=fun f H1=>∃ v,f=.con v∧bz4 w v=true∧TEs pG w hb sc n X ρ p args H1 fun ds H2=>Op pG w hb n X (RepV pG w) (fun vs=>call v vs) ds H2 Q) g (by
      refine dj1 (fun a q=>?_) h
      refine f8 q (fun v e2 qq=>?_) (fun u_ q=>?_)
      ·refine oA (j3 qq) fun q1 q2=>?_
       exact ⟨v,hz8 e2,gj1 q1,O8 hE h2 q2⟩
      ·exact q.elim)) (fun env=>M0 h2 env p)
    | _=>exact (show False from h).elim
   | _=>exact (show False from h).elim
  ·induction e using PySem.Expr.casesOn with
   | UnaryOp op x p =>
    cases op with
    | Not=>exact iw8 (hB _ _ _ h)
    | _=>exact (show False from h).elim
   | BoolOp op es p =>
    cases op with
    | And=>exact dw1 (cz5 hB h)
    | Or=>exact dw1 (dv8 hB h)
   | Compare l ops rs p =>
    refine f8 h (fun d e1 q=>?_) (fun u_ q=>?_)
    ·(refine oA (ez5 e1) ?_;rintro rfl rfl)
     refine oA (j3 q) fun hm q=>?_
     exact dx6 ((hE _ _ _ q).imp fun a H1 q=>(hE _ _ _ q).imp fun b H2 q=>(ak4 q).mono fun c H3 q=>bx6 q) (by simpa using hm)
    ·refine f8 q (fun d e1 q=>?_) fun u_ q=>q.elim
     ·(refine oA (ix9 e1) ?_;rintro rfl rfl)
      refine oA (j3 q) fun hm q=>?_
      exact ek2 ((hE _ _ _ q).imp fun a H1 q=>(hE _ _ _ q).imp fun b H2 q=>(ak4 q).mono fun c H3 q=>by
       refine c9 (bx6 q) fun t e q=>?_
       exact ⟨t,e,q.1,fun ht=>(hE _ _ _ (q.2 ht)).imp fun d H4 q=>(ak4 q).mono fun c H5 q=>bx6 q⟩) (by simpa using hm)
   | IfExp _ _ _ _=>exact (show False from h).elim
   | _=>exact val _ H Q h fun u_ u_=>rfl
theorem F1 (g:i9 sc=true) {k:Nat} {e:Expr} {Q:VP} (h:wpE pG w hb sc n X ρ k e H Q):TE pG w hb sc n X ρ e H Q:=(fj2 g k).1 e H Q h
theorem cj4 (g:i9 sc=true) {k:Nat} {e:Expr} {Q:Bool→HL→Prop} (h:wpB pG w hb sc n X ρ k e H Q):TB pG w hb sc n X ρ e H Q:=(fj2 g k).2 e H Q h
theorem aq2 (g:i9 sc=true) {t:Expr} {d:V} {Q:c8→HL→Prop} (h:wpA pG w hb sc n X ρ t d H Q):TA pG w hb sc n X ρ t d H Q:=by
 cases t with
 | Name x p =>
  refine f8 h (fun k e1 q=>?_) fun u_ q=>q.elim
  ·refine oA (j3 q) fun hk q=>?_
   cases k with
   | «local»=>exact fv5 e1 q
   | cell=>exact hk9 e1 q
   | _=>exact nb hk
 | Attribute o x p =>
  have h:wpE pG w hb sc n X ρ 60 o H _:=h
  exact hv0 ((F1 g h).imp fun a H1 q=>q)
 | Subscript o i p =>
  have h:wpE pG w hb sc n X ρ 60 o H _:=h
  exact iw9 ((F1 g h).imp fun a H1 q=>(F1 g q).imp fun b H2 q=>q)
 | _=>exact (show False from h).elim
theorem dv9 (g:i9 sc=true):∀ {ts:List Expr} {ds:List V} {ρ:c8} {H:HL} {Q:c8→HL→Prop},wpAs pG w hb sc n X ts ds ρ H Q→TAs pG w hb sc n X ts ds ρ H Q
 | [],ds,ρ,H,Q,h=>by
  refine oA (j3 h) fun e h=>?_
  rw [E4 e]
  exact h
 | t::ts,ds,ρ,H,Q,h=>by
  cases ds with
  | nil=>exact (show False from h).elim
  | cons d ds =>
   have h:wpA pG w hb sc n X ρ t d H fun ρ1 H1=>wpAs pG w hb sc n X ts ds ρ1 H1 Q:=h
   exact TA.mono (aq2 g h) fun ρ1 H1 q=>dv9 g q
theorem R8:∀ {ts:List Expr} (h:noStar ts=true) (env:Env),assignEach ts env=ts.map fun t=>(false,assign t env)
 | [],_,_=>rfl
 | t::ts,h,env=>by
  have ih:=R8 (H9 h) env
  rw [kx1,← ih]
  cases t <;> first | rfl | exact nb h
theorem aj6 {t:Expr} {ts:List Expr} (h:cj0 t=some ts):∃ k p,t=.Tuple ts k p:=by
 cases t with
 | Tuple a k p=>(injection h with i;subst i);exact ⟨k,p,rfl⟩
 | _=>exact nn h
theorem aq1 (g:i9 sc=true) {t:Expr} {d:V} {Q:c8→HL→Prop} (h:wpT pG w hb sc n X ρ t d H Q):TA pG w hb sc n X ρ t d H Q:=by
 refine f8 h (fun ts e h=>?_) (fun u_ h=>?_)
 ·(refine oEE (aj6 e) ?_;rintro k p rfl)
  refine oA (j3 h) fun h1 h=>?_
  refine f8 h (fun ds e2 h=>?_) fun u_ q=>q.elim
  ·refine oA (j3 h) fun h2 h=>?_
   exact fv4 e2 (Nat.eq_of_beq_eq_true h2) (dv9 g h) (R8 h1)
 ·exact aq2 g h
theorem fv6 {ts vs:List Expr} {tk vk:Nat} {tp vp:Pos} {o:Option (List Str)} (env:Env) (h:fv7 env.kindOf (env.blockKind != .function) ts vs=some o):swappedStores [.Tuple ts tk tp] (.Tuple vs vk vp) env=pure o:=by
 delta fv7 at h
 have st:∀ {c:Bool} {x:Option (Option (List Str))} {y:Sem (Option (List Str))},(x=some o→y=pure o)→(if c=true then some none else x)=some o→(if c=true then pure none else y)=pure o:=fun {c x y} k e=>by
  cases c with
  | true=>exact congrArg pure (Qm e)
  | false=>exact k e
 refine st (st ?_) h
 refine st (st fun e=>?_)
 generalize vs.all (constantsAlone 8)=c at e ⊢
 cases c with
 | true=>exact nn e
 | false=>exact congrArg pure (Qm e)
theorem dw2 {ts vs:List Expr} {tk vk:Nat} {tp vp:Pos} {o:Option (List Str)} (h:ik1 sc ts vs=some o) (env:Env) (ok:EnvOk sc env):swappedStores [.Tuple ts tk tp] (.Tuple vs vk vp) env=pure o:=by
 have hb:(env.blockKind != .function)=false:=by dsimp only [Env.blockKind];rw [ok.fn];rfl
 have hk:env.kindOf=fun x=>sc.names.lookup x:=funext ok.kindOf
 exact fv6 env (a5 hk (a5 hb h))
theorem ez4 {e:Expr} {c:Expr × List Comprehension × Scope × Pos} (h:gw4 e=some c):e=.ListComp c.1 c.2.1 c.2.2.1 c.2.2.2:=by
 induction e using PySem.Expr.casesOn with
 | ListComp a b c d=>(injection h with i;subst i);rfl
 | _=>exact nn h
theorem eq6 {e:Expr} {x:Str × Pos} (h:namE e=some x):e=.Name x.1 x.2:=by
 induction e using PySem.Expr.casesOn with
 | Name a b=>(injection h with i;subst i);rfl
 | _=>exact nn h
theorem bj8 {e:Expr} (h:gw4 e=none) {k:Nat} {Q:VP} (hw:wpE pG w hb sc n X ρ k e H Q) (t:Option Expr) (l:Nat) (env:Env):swapsWith e t l env=pure false:=by
 induction e using PySem.Expr.casesOn with
 | ListComp a b c d=>exact ns h
 | SetComp a b c d=>cases k <;> exact (show False from hw).elim
 | DictComp a b c d p=>cases k <;> exact (show False from hw).elim
 | _=>rfl
theorem dw5 {k:Nat} {r:List Stmt} {Q:Flw→c8→HL→Prop} (ih:∀ ρ H,wpS pG w hb sc n X k ρ r H Q→TS pG w hb sc n X ρ r H Q):∀ fl ρ H,gj2 (fun ρ1 H2=>wpS pG w hb sc n X k ρ1 r H2 Q) Q fl ρ H→U5 pG w hb sc n X r Q fl ρ H
 | .next,_,_,h=>ih _ _ h
 | .brk,_,_,h=>h
 | .cont,_,_,h=>h
 | .ret _,_,_,h=>h
theorem iq0 {t:Expr} (h:okT t=true) (h':cj0 t=none) (e:Expr) (env:Env):swappedStores [t] e env=pure none:=by
 cases t with
 | Tuple a b c=>exact ns h'
 | Name a b=>rfl
 | Attribute a b c=>rfl
 | Subscript a b c=>rfl
 | _=>exact nb h
theorem gz1 {ts:List Expr} {k:Nat} {p:Pos} {e:Expr} (h:cj0 e=none) (env:Env):swappedStores [.Tuple ts k p] e env=pure none:=by
 induction e using PySem.Expr.casesOn with
 | Tuple a b c=>exact ns h
 | _=>rfl
theorem ij4 {x:Str} {px cp:Pos} {elt:Expr} {gs:List Comprehension} {scope:Scope} {l:Nat} (env:Env) (ok:EnvOk sc env) :
  swapsWith (.ListComp elt gs scope cp) (some (.Name x px)) l env=pure (hz1 sc x px cp.line scope):=by
 have hb:env.blockKind=.function:=by dsimp only [Env.blockKind];rw [ok.fn];rfl
 show (pure (env.blockKind == .function&&env.kindOf x == some .local&&px.line == cp.line&&!(scope.names.any fun (n,k)=>n == x&&(k == .local||k == .cell))):Sem Bool)=_
 rw [hb,ok.kindOf]
 rfl
theorem gx4 {t:Expr} (ht:okT t=true) (env:Env):(assignEach [t] env).map (·.2)=[assign t env]:=by cases t <;> first | rfl | exact nb ht
theorem no_sw {e:Expr} {c:Expr × List Comprehension × Scope × Pos} {t:Expr} {l:Nat} (ht:okT t=true) (e2:gw4 e=some c) (e1:cj0 t=none) (e3:namE t=none) (env:Env):swapsWith e (some t) l env=pure false:=by
 rw [ez4 e2]
 cases t with
 | Name a b=>exact ns e3
 | Tuple a b c=>exact ns e1
 | Attribute a b c=>rfl
 | Subscript a b c=>rfl
 | _=>exact nb ht
section
variable {t e:Expr} {pos:Pos} {Q:Flw→c8→HL→Prop} {Q1:c8→HL→Prop}
theorem ij9 (g:i9 sc=true) (hq:∀ ρ H,Q1 ρ H→Q .next ρ H) (ht:okT t=true) (e1:cj0 t=none) (hs:∀ env,swapsWithSole [t] e pos.line env=pure false) (h:aPl pG w hb sc n X ρ t e H Q1):TX pG w hb sc n X ρ (.Assign [t] e pos) H Q :=
 aq3 ((F1 g h).imp fun d H1 q=>(aq2 g q).mono hq) hs (fun env ok=>iq0 ht e1 _ env) (gx4 ht)
theorem ij8 (g:i9 sc=true) (hq:∀ ρ H,Q1 ρ H→Q .next ρ H) (ht:okT t=true) (hs:∀ env,swapsWithSole [t] e pos.line env=pure false) (hw:∀ env,EnvOk sc env→swappedStores [t] e env=pure none) (h:aTp pG w hb sc n X ρ t e H Q1):TX pG w hb sc n X ρ (.Assign [t] e pos) H Q :=
 aq3 ((F1 g h).imp fun d H1 q=>(aq1 g q).mono hq) hs hw (gx4 ht)
theorem tx_co (g:i9 sc=true) {c:Expr × List Comprehension × Scope × Pos} {x:Str × Pos} (hq:∀ ρ H,Q1 ρ H→Q .next ρ H) (h:aCo pG w hb sc n X ρ (.Name x.1 x.2) H Q1 c x):TX pG w hb sc n X ρ (.Assign [.Name x.1 x.2] (.ListComp c.1 c.2.1 c.2.2.1 c.2.2.2) pos) H Q:=by
 refine oA (j3 h) fun ha h=>?_
 have sw:∀ env,EnvOk sc env→swapsWith (.ListComp c.1 c.2.1 c.2.2.1 c.2.2.2) (some (.Name x.1 x.2)) c.2.2.2.line env=pure true:=fun env ok=>by rw [ij4 env ok,ha]
 have kq:∀ ys H1,wpA pG w hb sc n X ρ (.Name x.1 x.2) (.dat (.list ys)) H1 Q1→TA pG w hb sc n X ρ (.Name x.1 x.2) (.dat (.list ys)) H1 (Q .next):=fun ys H1 q=>(aq2 g q).mono hq
 obtain ⟨elt,gs,scope,cp⟩:=c
 refine f8 h (fun p e4 h=>?_) fun u_ h=>f8 h (fun p e4 h=>?_) fun u_ h=>h.elim
 ·refine oA (j3 h) fun hk h=>?_
  refine oA (jw6.mp hk) fun h0 h1=>?_
  refine oA (jw6.mp h1) fun h1 h2=>?_
  have e4:gs=_:=ez1 e4
  subst e4
  refine N0 ez7 (fun ys H1=>wpA pG w hb sc n X ρ (.Name x.1 x.2) (.dat (.list ys)) H1 Q1) kq (Q8 h1) h2 ((F1 g h).imp fun z H1 q=>?_) sw (B0 h0)
  (refine oE q ?_;clear q;intro Hk y;refine o4 y ?_;clear y;intro ds b i l tc)
  exact ⟨Hk,ds,b,i,by rw [Nat.mul_one];exact l,tc⟩
 ·refine oA (j3 h) fun hk h=>?_
  refine oA (jw6.mp hk) fun hk hn=>?_
  refine oA (jw6.mp hk) fun h0 h1=>?_
  refine oA (jw6.mp h1) fun h1 h2=>?_
  have e4:gs=_:=ez0 e4
  subst e4
  refine N0 (ez6 (B0 hn)) (fun ys H1=>wpA pG w hb sc n X ρ (.Name x.1 x.2) (.dat (.list ys)) H1 Q1) kq (Q8 h1) h2 ((F1 g h).imp fun z H1 q=>?_) sw (B0 h0)
  (refine oE q ?_;clear q;intro Hk y;refine o4 y ?_;clear y;intro ds b i l tc)
  exact ⟨Hk,ds,b,i,mv3 1000 l,tc⟩
theorem fk0 (g:i9 sc=true) (hq:∀ ρ H,Q1 ρ H→Q .next ρ H) (h:ij6 pG w hb sc n X ρ t e H Q1):TX pG w hb sc n X ρ (.Assign [t] e pos) H Q:=by
 refine oA (j3 h) fun ht h=>?_
 refine f8 h (fun ts e1 h=>?_) fun e1 h=>f8 h (fun c e2 h=>?_) fun e2 h=>ij9 g hq ht e1 (fun env=>bj8 e2 h (some t) pos.line env) h
 ·refine f8 h (fun vs e2 h=>?_) fun e2 h=>?_
  ·(refine oEE (aj6 e1) ?_;rintro tk tp rfl)
   (refine oEE (aj6 e2) ?_;rintro vk vp rfl)
   refine f8 h (fun o e3 h=>?_) fun u_ h=>h.elim
   have h:oP o (aSw pG w hb sc n X ρ (.Tuple vs vk vp) H Q1) (aTp pG w hb sc n X ρ (.Tuple ts tk tp) (.Tuple vs vk vp) H Q1):=h
   cases o with
   | some names=>exact bw0 (j3 h).1 ((F1 g (j3 h).2).imp fun d H1 q=>f8 q (fun ds e5 q=>⟨ds,e5,q.1,hq _ _ q.2⟩) fun u_ q=>q.elim) (fun u_=>rfl) fun env ok=>dw2 e3 env ok
   | none=>exact ij8 g hq ht (fun u_=>rfl) (fun env ok=>dw2 e3 env ok) h
  ·refine oA (j3 h) fun hc h=>?_
   (refine oEE (aj6 e1) ?_;rintro tk tp rfl)
   exact ij8 g hq ht (fun env=>bj8 (aw7 hc) h (some (.Tuple ts tk tp)) pos.line env) (fun env ok=>gz1 e2 env) h
 ·refine f8 h (fun x e3 h=>?_) fun e3 h=>ij9 g hq ht e1 (fun env=>no_sw ht e2 e1 e3 env) h
  rw [eq6 e3] at h ⊢
  rw [ez4 e2]
  exact tx_co g hq h
end
theorem cw7 {e:Expr} {f:Expr × List Expr × List Keyword} (h:gw5 e=some f):∃ p,e=.Call f.1 f.2.1 f.2.2 p:=by
 induction e using PySem.Expr.casesOn with
 | Call a b c p=>(injection h with i;subst i);exact ⟨p,rfl⟩
 | _=>exact nn h
theorem dw0 (hfile:(pG.main.file == ("/claim/cut.py":Str))=true) (htop:(pG.main.scope.names.lookup ("super":Str)).isSome=false) (g:i9 sc=true):∀ k ρ ss H (Q:Flw→c8→HL→Prop),wpS pG w hb sc n X k ρ ss H Q→TS pG w hb sc n X ρ ss H Q
 | 0,_,_,_,_,h=>h.elim
 | k+1,ρ,[],H,Q,h=>fk1 h
 | k+1,ρ,s::r,H,Q,h=>by
  have ih:=fun ρ H=>dw0 hfile htop g k ρ r H Q
  refine V9 ?_
  cases s with
  | Break p=>exact fj9 h
  | Return e p =>
   refine f8 h (fun e' he h=>?_) fun u_ q=>q.elim
   ·rw [he]
    exact bz7 ((F1 g h).imp fun d H1 q=>q)
  | Expr e p =>
   refine oA (j3 h) fun hc h=>?_
   refine oE (kk5.mp hc) fun f e1=>?_
   (refine oE (cw7 e1) ?_;rintro p' rfl)
   exact hz9 ((F1 g h).imp fun d H1 q=>ih _ _ q) fun u_=>rfl
  | Assign ts e p =>
   refine f8 h (fun t e1 h=>?_) fun u_ q=>q.elim
   ·rw [jx3 e1]
    exact fk0 g (fun ρ1 H1 q=>ih _ _ q) h
  | If t a b p =>
   have h:wpB pG w hb sc n X ρ 60 t H _:=h
   exact ik0 ((cj4 g h).imp fun c H1 q=>⟨fun hc=>(dw0 hfile htop g k ρ a H1 _ (q.1 hc)).mono (dw5 ih),fun hc=>(dw0 hfile htop g k ρ b H1 _ (q.2 hc)).mono (dw5 ih)⟩)
  | For t e body els p =>
   refine oA (j3 h) fun hc h=>?_
   refine oA (jw6.mp hc) fun h1 h2=>?_
   rw [E4 h1]
   exact iw0 ((F1 g h).imp fun x H1 q=>q) (B0 h2)
  | While t body els p =>
   refine V7 (j3 h) fun hc m h=>?_
   rw [E4 hc]
   exact fj7 m h
  | Raise e c p =>
   refine oA (j3 h) fun hc h=>?_
   rw [aw7 hc]
   refine f8 h (fun e' he h=>?_) fun u_ q=>q.elim
   ·rw [he]
    refine f8 h (fun f e1 h=>?_) fun u_ q=>q.elim
    ·(refine oE (cw7 e1) ?_;rintro p' rfl)
     refine oA (j3 h) fun hk h=>?_
     refine oA (jw6.mp hk) fun h1 h2=>?_
     rw [E4 h1]
     refine f8 h (fun x e2 h=>?_) fun u_ q=>q.elim
     ·rw [eq6 e2,h.2.1]
      exact fj8 h.1 hfile htop h.2.2.1 (O8 (fun e H Q h=>F1 g h) h2 h.2.2.2) fun env=>M0 h2 env _
  | _=>exact (show False from h).elim
end
end
end Mine
end
namespace Mine
section
theorem cv6 {α β:Type} {f g:α→Option β} {l:List α} (h:∀ x∈l,f x=g x):l.filterMap f=l.filterMap g:=by
 induction l with
 | nil=>rfl
 | cons a l ih=>exact a5 kq5 (a5 kq5 (a5 (h a jv0) (a5 (ih fun x hx=>h x (jv3 _ hx)) rfl)))
noncomputable def bindO (o:Obj) (vals:List Value):Sem (List (Str × Value)):=match o.data with
 | .func fd=>bindArgs fd ⟨vals,[]⟩
 | _=>pure []
noncomputable def dv2 (o:Obj) (names:List Str):Prop:=∀ vals:List Value,vals.length=names.length→bindO o vals=pure (names.zip vals)
section
variable {P:List Value→Prop}
theorem ar0 (h:P []) (v:List Value) (e:v.length=0):P v:=by
 induction v using Qh with
 | nil=>exact h
 | cons a v=>exact absurd e (kw7 _)
theorem arS {k:Nat} (h:∀ a (v:List Value),v.length=k→P (a::v)) (v:List Value) (e:v.length=k+1):P v:=by
 induction v using Qh with
 | nil=>exact absurd e.symm (kw7 _)
 | cons a v=>exact h a v (Nat.succ.inj e)
theorem ar1 (h:∀ a,P [a]):∀ v:List Value,v.length=1→P v:=arS fun a=>ar0 (h a)
theorem R3 (h:∀ a b,P [a,b]):∀ v:List Value,v.length=2→P v:=arS fun a=>ar1 (h a)
theorem ar3 (h:∀ a b c,P [a,b,c]):∀ v:List Value,v.length=3→P v:=arS fun a=>R3 (h a)
theorem ar4 (h:∀ a b c d,P [a,b,c,d]):∀ v:List Value,v.length=4→P v:=arS fun a=>ar3 (h a)
theorem ar5 (h:∀ a b c d e,P [a,b,c,d,e]):∀ v:List Value,v.length=5→P v:=arS fun a=>ar4 (h a)
end
noncomputable def U6 (st:Option Stmt):Scope:=match st with
 | some (.FunctionDef _ _ _ _ _ _ s _ _ _)=>s
 | _=>default
noncomputable def u7 (st:Option Stmt):List Stmt:=match st with
 | some (.FunctionDef _ _ b _ _ _ _ _ _ _)=>b
 | _=>[]
noncomputable def scB (sc:Scope) (names:List Str):Bool:=!sc.isCoroutine&&!sc.isGenerator&&gj6 sc.kind&&(names.all fun x=>sc.names.lookup x == some .local||sc.names.lookup x == some .cell)&&decide names.Nodup&&(sc.names.all fun y=>y.2 != .free)&&decide (sc.names.map (·.1)).Nodup&&i9 sc
noncomputable def fnB (code:Nat) (st:Option Stmt) (names:List Str):Bool:=match st with
 | some (.FunctionDef _ _ _ _ _ _ sc _ _ _)=>scB sc names&&(code == 649||sc.names.lookup ("signatures":Str) != some .cell)
 | _=>false
noncomputable def fnC (code:Nat) (st:Option Stmt) (names:List Str):Bool:=fnB code st names&&(U6 st).names.lookup ("signatures":Str) != some .cell
section
variable {w:World} {hb:Heap} {n:Nat} {X:Xs} {H:HL}
theorem jz2 {code:Nat} {sc:Scope} (h:(code == 649||sc.names.lookup ("signatures":Str) != some .cell)=true) (q:sc.names.lookup ("signatures":Str)=some .cell):Value.ref code=.ref 649:=by
 rw [q] at h
 have:code=649:=by simpa using h
 exact a5 this rfl
theorem gk7 {a code:Addr} {qual:Str} {m clt:Value} {st:Option Stmt} {names:List Str} {vs:List Value} {t:Tok} (h1:(KK w).lookup a=some (t4 st qual [] m code clt)) (h2:(KK w).lookup code=some (t9 vs)) (h3:vs[1]?=some (.str qual t))
  (h4:fnB code st names=true) (hbd:dv2 (t4 st qual [] m code clt) names):(∃ fd,FnAt w a fd (u7 st) names∧fd.scope=U6 st)∧i9 (U6 st)=true:=by
 induction st using Qd with
 | none=>exact nb h4
 | some s =>
  induction s using PySem.Stmt.casesOn with
  | FunctionDef nm p body dl r tp sc tsc bn pos =>
   refine oA (jw6.mp h4) fun h6 h7=>?_
   simp only [scB,kz7] at h6
   (refine oA h6 ?_;clear h6;rintro ⟨⟨⟨⟨⟨⟨b1,b2⟩,b3⟩,b4⟩,b5⟩,b6⟩,b7⟩ b8)
   refine ⟨⟨_,{ lk:=⟨_,_,_,h1⟩,code:=⟨code,_,_,_,_,t,rfl,h2,by simpa [t9] using h3⟩,body:=rfl,bind:=hbd,clo:=rfl,co:=by simpa using b1,gen:=by simpa using b2,kind:=cv2 b3,glob:=rfl,bi:=rfl,nms:=b4,nd:=b5,free:=b6,snd:=b7,lam:=fun q=>jz2 h7 q },rfl⟩,b8⟩
  | _=>exact nb h4
theorem hv6:(PW.main.file == ("/claim/cut.py":Str))=true:=by kernel_rfl
theorem gq5:(PW.main.scope.names.lookup ("super":Str)).isSome=false:=by kernel_rfl
theorem f9 {sc:Scope} {ρ:c8} {ss:List Stmt} {Q:Flw→c8→HL→Prop} (g:i9 sc=true) (h:wpS PW w hb sc n X 60 ρ ss H Q):TS PW w hb sc n X ρ ss H Q:=dw0 hv6 gq5 g 60 ρ ss H Q h
theorem H8 {a code:Addr} {qual:Str} {m clt:Value} {st:Option Stmt} {names:List Str} {vs:List Value} {t:Tok} {ds:List V} {Q:VP} (h1:(KK w).lookup a=some (t4 st qual [] m code clt)) (h2:(KK w).lookup code=some (t9 vs)) (h3:vs[1]?=some (.str qual t))
  (h4:fnC code st names=true) (hl:ds.length=names.length) (hbd:dv2 (t4 st qual [] m code clt) names) (h:i9 (U6 st)=true→TS PW w hb (U6 st) n X (names.zip ds) (u7 st) H (aj2 Q)):OpC PW w hb (n+1) X (.ref a) ds H Q:=by
 refine oA (jw6.mp h4) fun h5 h6=>?_
 (refine oA (gk7 h1 h2 h3 h5 hbd) ?_;(intro yz;refine c9 yz fun fd F e=>?_;clear yz;rintro g))
 exact gx0 F (by refine a5 e ?_;exact bne_iff_ne.mp h6) hl (by refine a5 e ?_;exact h g)
theorem g8 {a code:Addr} {qual:Str} {m clt:Value} {st:Option Stmt} {names:List Str} {vs:List Value} {t:Tok} {ds:List V} {Q:VP} (h1:(KK w).lookup a=some (t4 st qual [] m code clt)) (h2:(KK w).lookup code=some (t9 vs)) (h3:vs[1]?=some (.str qual t))
  (h4:fnC code st names=true) (hl:ds.length=names.length) (hbd:dv2 (t4 st qual [] m code clt) names) (h:i9 (U6 st)=true→wpS PW w hb (U6 st) n X 60 (names.zip ds) (u7 st) H (aj2 Q)):Op PW w hb (n+1) X (RepV PW w) (fun vs=>call (.ref a) vs) ds H Q:=(H8 h1 h2 h3 h4 hl hbd fun g=>f9 g (h g)).op
end
end
section
section
variable {pG:Program} {w:World} {hb:Heap} {sc:Scope} {n:Nat} {X:Xs} {ρ ρ':c8} {H H':HL}
theorem Keeps'.refl {ρ:c8}:Keeps' ρ ρ:=fun u_ u_ h=>h
theorem Keeps'.tr {a b c:c8} (x:Keeps' a b) (y:Keeps' b c):Keeps' a c:=fun z e h=>y z e (x z e h)
set_option tactic.hygienic true in
theorem Keeps'.new {ρ:c8} {x:Str} {d:V} (h:ρ.lookup x=none):Keeps' ρ ((x,d)::ρ):=fun y e he=>by
 refine a5 kq2 ?_
 split
 ·rename_i q;rw [eq_of_beq q,h] at he;exact nn he
 ·exact he
noncomputable def G7 (ρ':c8):c8→Prop
 | []=>True
 | (x,d)::r=>ρ'.lookup x=some d∧G7 ρ' r
set_option tactic.hygienic true in
theorem Keeps'.all {ρ':c8}:∀ {ρ:c8},G7 ρ' ρ→Keeps' ρ ρ'
 | [],_,_,_,h=>by exact nn h
 | (x,d)::r,h,y,e,he=>by
  rw [kq2] at he
  split at he
  ·rename_i q;(injection he with i;subst i);refine a5 (eq_of_beq q) ?_;exact h.1
  ·exact Keeps'.all h.2 y e he
theorem Tri.fewer {α β:Type} {rel:Heap→α→β→Prop} {t:Env→Sem α} {Q:β→c8→HL→Prop} (x:Tri pG w hb sc n X rel t ρ H Q) (k:Keeps' ρ ρ'):Tri pG w hb sc n X rel t ρ' H Q:=by
 refine .intro fun env A Z s R E p ex c=>?_
 exact x.run (p.fewer k) ex fun st2 p2 ex2 u2 r2 q2=>c st2 p2 r2 q2
theorem TA.fewer {t:Expr} {d:V} {Q:c8→HL→Prop} (x:TA pG w hb sc n X ρ t d H Q) (k:Keeps' ρ ρ'):TA pG w hb sc n X ρ' t d H Q :=
 fun env A Z s v R E p r ex c=>x env A Z s v R E (p.fewer k) r ex c
inductive FzH (Hs:HL):HL→HL→Prop
 | refl {G:HL}:FzH Hs G G
 | same {p:Addr × O} {G G':HL}:FzH Hs G G'→FzH Hs (p::G) (p::G')
 | inst {a C dx:Addr} {fs fs':List (Str × V)} {G G':HL}:FzF Hs fs fs'→FzH Hs G G'→FzH Hs ((a,.inst C dx fs)::G) ((a,.inst C dx fs')::G')
theorem FzH.foot {Hs H0 H1:HL} (f:FzH Hs H0 H1):foots H1=foots H0:=by
 induction f with
 | refl=>rfl
 | same _ ih=>simp only [foots,ih]
 | inst _ _ ih=>simp only [foots,ih,O.foot]
theorem FzH.own {Hs H0 H1:HL} {g h:Heap} (ok:∀ p∈Hs,RepO pG w g g p.1 p.2) (f:FzH Hs H0 H1):(∀ p∈H0,RepO pG w g h p.1 p.2)→∀ p∈H1,RepO pG w g h p.1 p.2:=by
 induction f with
 | refl=>exact id
 | same _ ih =>
  intro h p hp
  rcases jv6.mp hp with rfl | hp
  ·exact h _ (jv0 ..)
  ·exact ih (fun q m=>h q (jv3 _ m)) p hp
 | inst f _ ih =>
  intro h p hp
  rcases jv6.mp hp with rfl | hp
  ·refine oA (h _ (jv0 ..)) fun e1 y=>y9 y fun es k e2 r=>?_
   exact ⟨e1,es,k,e2,FzF.rep ok r f⟩
  ·exact ih (fun q m=>h q (jv3 _ m)) p hp
theorem az0 {α β:Type} {rel:Heap→α→β→Prop} {t:Env→Sem α} {Q:β→c8→HL→Prop} {Hs H0 H1:HL} {ρ1:c8} (hF:FzH Hs H0 H1) (h:∀ y d',ρ1.lookup y=some d'→∃ d,ρ.lookup y=some d∧Fz Hs d d')
  (x:Tri pG w hb sc n X rel t ρ1 H1 Q):Tri pG w hb sc n X rel t ρ (Hs++H0) Q:=by
 refine .intro fun env A Z s R E p ex k=>?_
 have y:=p.sat.freeze h
 refine J7 p.sat.toSat.freeze fun u_ u_ ok=>?_
 have y1:SatE pG w hb env (I4 Z (foots Hs)) ρ1 H1 s:=y.reown ⟨y.bs,y.base,y.zlt,fun a m=>y.sub a (hF.foot▸m),hF.foot▸y.nd,hF.own ok y.own,y.gens⟩ fun a m=>hF.foot▸y.ownH a m
 have st0:Step (own env) Z (Hs++H0) s (I4 Z (foots Hs)) H0 s:=(Step.refl ..).freeze p.sat.zlt
 have st:Step (own env) Z (Hs++H0) s (I4 Z (foots Hs)) H1 s:=⟨st0.keep,st0.hidden,st0.unhid,fun a m=>st0.feet a (hF.foot▸m),st0.os⟩
 have p1:=p.step st y1
 exact x.run p1 (ex.step p.sat.toSat st y1.toSat) fun st2 p2 ex2 u2 r2 q2=>k (p.tr p1 st st2) p2 r2 q2
noncomputable def fzL (Hs:HL) (ρ:c8):c8→Prop
 | []=>True
 | (x,d')::r=>(∃ d,ρ.lookup x=some d∧Fz Hs d d')∧fzL Hs ρ r
set_option tactic.hygienic true in
theorem bq6 {Hs:HL}:∀ {ρ1:c8},fzL Hs ρ ρ1→∀ y d',ρ1.lookup y=some d'→∃ d,ρ.lookup y=some d∧Fz Hs d d'
 | [],_,_,_,h=>by exact nn h
 | (x,d)::r,h,y,e,he=>by
  rw [kq2] at he
  split at he
  ·rename_i q;(injection he with i;subst i);refine a5 (eq_of_beq q) ?_;exact h.1
  ·exact bq6 h.2 y e he
noncomputable def turnQ (N:c8→HL→Prop) (Q:Flw→c8→HL→Prop) (fl:Flw) (ρ:c8) (H:HL):Prop:=match fl with
 | .next=>N ρ H
 | .cont=>N ρ H
 | .brk=>Q .next ρ H
 | .ret v=>Q (.ret v) ρ H
theorem TFor.fewer {t:Expr} {body:List Stmt} {d:V} {ds:List V} {Q:Flw→c8→HL→Prop} (k:Keeps' ρ ρ') (h:TFor PW w hb sc n X t body (d::ds) ρ H Q):TFor PW w hb sc n X t body (d::ds) ρ' H Q:=TA.fewer (t:=t) (d:=d) h k
noncomputable def J1 (w:World) (hb:Heap) (sc:Scope) (n:Nat) (X:Xs) (rest:List Stmt) (Q:Flw→c8→HL→Prop) (N:c8→HL→Prop) (fl:Flw) (ρ:c8) (H:HL):Prop:=match fl with
 | .next=>N ρ H
 | .cont=>N ρ H
 | .brk=>wpS PW w hb sc n X 60 ρ rest H Q
 | .ret v=>Q (.ret v) ρ H
theorem Z8 (g:i9 sc=true) {rest:List Stmt} {Q:Flw→c8→HL→Prop} {N:c8→HL→Prop} {fl:Flw} (h:J1 w hb sc n X rest Q N fl ρ H):turnQ N (U5 PW w hb sc n X rest Q) fl ρ H:=by
 induction fl using Mine.Flw.casesOn with
 | next=>exact h
 | cont=>exact h
 | brk=>exact f9 g h
 | ret v=>exact h
theorem bx9 {rest:List Stmt} {Q:Flw→c8→HL→Prop} {N:c8→HL→Prop} {fl:Flw} (h:J1 w hb sc n X rest Q (fun u_ u_=>False) fl ρ H):J1 w hb sc n X rest Q N fl ρ H:=by
 induction fl using Mine.Flw.casesOn with
 | next=>exact h.elim
 | cont=>exact h.elim
 | brk=>exact h
 | ret v=>exact h
theorem j8 (g:i9 sc=true) {α:Type} {t:Expr} {body rest:List Stmt} {Q:Flw→c8→HL→Prop} (v:α→V) (l:List α) (I:List α→c8→HL→Prop) {ds:List V} (he:ds=l.map v) (i:I l ρ H)
  (hs:∀ N:List α→Flw→c8→HL→Prop,(∀ ds ρ2 H2,(∃ ρ',Keeps' ρ' ρ2∧I ds ρ' H2)→N ds .next ρ2 H2)→(∀ ds fl ρ2 H2,J1 w hb sc n X rest Q (fun u_ u_=>False) fl ρ2 H2→N ds fl ρ2 H2)→∀ d ds ρ H,I (d::ds) ρ H→wpT PW w hb sc n X ρ t (v d) H fun ρ1 H1=>wpS PW w hb sc n X 60 ρ1 body H1 (N ds))
  (hd:∀ ρ H,I [] ρ H→TS PW w hb sc n X ρ rest H Q):TFor PW w hb sc n X t body ds ρ H (U5 PW w hb sc n X rest Q):=by
 subst he
 induction l generalizing ρ H with
 | nil=>exact hd ρ H i
 | cons d ds ih =>
  refine TA.mono (aq1 g (hs (fun ds=>J1 w hb sc n X rest Q fun ρ2 H2=>∃ ρ',Keeps' ρ' ρ2∧I ds ρ' H2) (fun u_ u_ u_ h=>h) (fun u_ u_ u_ u_ h=>bx9 h) d ds ρ H i)) fun ρ1 H1 q=>Tri.mono (f9 g q) fun fl ρ2 H2 r=>?_
  have go:(∃ ρ',Keeps' ρ' ρ2∧I ds ρ' H2)→TFor PW w hb sc n X t body (ds.map v) ρ2 H2 (U5 PW w hb sc n X rest Q):=by
   (intro yz;refine c9 yz fun ρ' k i=>?_;clear yz)
   induction ds using Qh with
   | nil=>exact Tri.fewer (hd ρ' H2 i) k
   | cons d' ds=>exact TFor.fewer k (ih i)
  have r:=Z8 g r
  induction fl using Mine.Flw.casesOn with
  | next=>exact go r
  | cont=>exact go r
  | brk=>exact r
  | ret v=>exact r
theorem q9 (g:i9 sc=true) {α:Type} {t:Expr} {body rest:List Stmt} {Q:Flw→c8→HL→Prop} (v:α→V) (l:List α) {ds:List V} (he:ds=l.map v)
  (hs:∀ N:Flw→c8→HL→Prop,(∀ ρ2,Keeps' ρ ρ2→N .next ρ2 H)→(∀ fl ρ2 H2,J1 w hb sc n X rest Q (fun u_ u_=>False) fl ρ2 H2→N fl ρ2 H2)→∀ d∈l,wpT PW w hb sc n X ρ t (v d) H fun ρ1 H1=>wpS PW w hb sc n X 60 ρ1 body H1 N)
  (hd:TS PW w hb sc n X ρ rest H Q):TFor PW w hb sc n X t body ds ρ H (U5 PW w hb sc n X rest Q):=by
 replace hs:=hs (J1 w hb sc n X rest Q fun ρ2 H2=>Keeps' ρ ρ2∧H2=H) (fun u_ h=>⟨h,rfl⟩) fun u_ u_ u_ h=>bx9 h
 subst he
 induction l generalizing ρ with
 | nil=>exact hd
 | cons d ds ih =>
  refine TA.mono (aq1 g (hs d (jv0 ..))) fun ρ1 H1 q=>Tri.mono (f9 g q) fun fl ρ2 H2 r=>?_
  have go:Keeps' ρ ρ2∧H2=H→TFor PW w hb sc n X t body (ds.map v) ρ2 H2 (U5 PW w hb sc n X rest Q):=by
   (intro yz;refine oA yz ?_;clear yz;rintro k rfl)
   have:=ih hd fun d m=>hs d (jv3 _ m)
   induction ds using Qh with
   | nil=>exact Tri.fewer hd k
   | cons d' ds=>exact TFor.fewer k this
  have r:=Z8 g r
  induction fl using Mine.Flw.casesOn with
  | next=>exact go r
  | cont=>exact go r
  | brk=>exact r
  | ret v=>exact r
theorem O9 (g:i9 sc=true) {t:Expr} {body rest:List Stmt} {Q:Flw→c8→HL→Prop} (I:Nat→c8→HL→Prop) (m:Nat) (i:I m ρ H)
  (hs:∀ N:Nat→Flw→c8→HL→Prop,(∀ m ρ2 H2,(∃ ρ' m',m=m'+1∧Keeps' ρ' ρ2∧I m' ρ' H2)→N m .next ρ2 H2)→(∀ m fl ρ2 H2,J1 w hb sc n X rest Q (fun u_ u_=>False) fl ρ2 H2→N m fl ρ2 H2)→∀ m ρ H,I m ρ H→wpB PW w hb sc n X ρ 60 t H fun b H1=>(b=false→wpS PW w hb sc n X 60 ρ rest H1 Q)∧(b=true→wpS PW w hb sc n X 60 ρ body H1 (N m))) :
  ∃ k,O7 PW w hb sc n X t body k ρ H (U5 PW w hb sc n X rest Q):=by
 replace hs:=hs (fun m=>J1 w hb sc n X rest Q fun ρ2 H2=>∃ ρ' m',m=m'+1∧Keeps' ρ' ρ2∧I m' ρ' H2) (fun u_ u_ u_ h=>h) fun u_ u_ u_ u_ h=>bx9 h
 have main:∀ m ρ ρ' H,Keeps' ρ ρ'→I m ρ H→O7 PW w hb sc n X t body (m+1) ρ' H (U5 PW w hb sc n X rest Q):=by
  intro m
  induction m with
  | zero =>
   intro ρ ρ' H k h
   refine ⟨ρ,k,Tri.mono (cj4 g (hs 0 ρ H h)) fun b ρ1 H1 q=>⟨q.1,fun e=>f9 g (q.2.1 e),fun e=>Tri.mono (f9 g (q.2.2 e)) fun fl ρ2 H2 r=>?_⟩⟩
   have no:∀ {P:Prop},(∃ ρ' m',0=m'+1∧Keeps' ρ' ρ2∧I m' ρ' H2)→P:=fun ⟨_,_,e,_⟩=>by cases e
   have r:=Z8 g r
   induction fl using Mine.Flw.casesOn with
   | next=>exact no r
   | cont=>exact no r
   | brk=>exact r
   | ret v=>exact r
  | succ m ih =>
   intro ρ ρ' H k h
   refine ⟨ρ,k,Tri.mono (cj4 g (hs (m+1) ρ H h)) fun b ρ1 H1 q=>⟨q.1,fun e=>f9 g (q.2.1 e),fun e=>Tri.mono (f9 g (q.2.2 e)) fun fl ρ2 H2 r=>?_⟩⟩
   have go:(∃ ρ' m',m+1=m'+1∧Keeps' ρ' ρ2∧I m' ρ' H2)→O7 PW w hb sc n X t body (m+1) ρ2 H2 (U5 PW w hb sc n X rest Q):=fun ⟨ρ',m',e,k,i⟩=>by
    (injection e with i;subst i);exact ih ρ' ρ2 H2 k i
   have r:=Z8 g r
   induction fl using Mine.Flw.casesOn with
   | next=>exact go r
   | cont=>exact go r
   | brk=>exact r
   | ret v=>exact r
 exact ⟨m+1,main m ρ ρ H .refl i⟩
noncomputable def fj4 (w:World) (hb:Heap) (sc:Scope) (n:Nat) (ρ:c8) (ifs:List Expr) (H:HL) (Q:Bool→HL→Prop):Prop:=match ifs with
 | []=>Q true H
 | c::r=>bP (Y1 r) (wpB PW w hb sc n Xs.no ρ 60 c H Q)
theorem hz7 (g:i9 sc=true) {ifs:List Expr} {Q:Bool→HL→Prop} (h:fj4 w hb sc n ρ ifs H Q):TIf PW w hb sc n ρ ifs H Q:=by
 induction ifs using Qh with
 | nil=>exact h
 | cons c r =>
  refine oA (j3 h) fun e h=>?_
  refine a5 (E4 e) ?_
  exact cj4 g h
theorem bj3 {α:Type} (v:α→V) (f:α→Option PyData) {t:Expr} {ifs:List Expr} {elt:Expr} {Q:List PyData→HL→Prop} (g:i9 sc=true):∀ (l:List α) (acc:List PyData),
  (∀ d∈l,wpT PW w hb sc n Xs.no ρ t (v d) H fun ρ1 H1=>Keeps' ρ ρ1∧fj4 w hb sc n ρ1 ifs H1 fun b H2 =>
   (b=true→wpE PW w hb sc n Xs.no ρ1 60 elt H2 fun y H3=>H3=H∧∃ z,y=.dat z∧f d=some z)∧(b=false→H2=H∧f d=none)) →
  Q (acc++l.filterMap f) H→hz5 PW w hb sc n t ifs elt ρ (l.map v) acc H Q:=by
 intro l
 induction l with
 | nil=>intro acc h q;exact (show Q acc H by simpa using q)
 | cons d l ih =>
  intro acc h q
  refine TA.mono (aq1 g (h d (jv0 ..))) fun ρ1 H1 r=>⟨r.1,(hz7 g r.2).mono fun b H2 r=>⟨fun e=>Tri.mono (F1 g (r.1 e)) fun y ρ' H3 r=>⟨r.1,?_⟩,fun e=>?_⟩⟩
  ·(refine oA r ?_;clear r;intro _ y;refine oA y ?_;clear y;rintro rfl y;refine c9 y ?_;clear y;rintro z rfl e)
   refine ⟨z,rfl,ih _ (fun d' m=>h d' (jv3 _ m)) ?_⟩
   rw [kq5,e] at q
   simpa using q
  ·(refine oA (r.2 e) ?_;rintro rfl e)
   refine ih _ (fun d' m=>h d' (jv3 _ m)) ?_
   rw [kq5,e] at q
   exact q
theorem d4 {α:Type} (v:α→V) (l:List α) (f:α→Option PyData) {t:Expr} {ifs:List Expr} {elt:Expr} {ds:List V} {Q:List PyData→HL→Prop} (he:ds=l.map v) (g:i9 sc=true)
  (h:∀ d∈l,wpT PW w hb sc n Xs.no ρ t (v d) H fun ρ1 H1=>Keeps' ρ ρ1∧fj4 w hb sc n ρ1 ifs H1 fun b H2 =>
   (b=true→wpE PW w hb sc n Xs.no ρ1 60 elt H2 fun y H3=>H3=H∧∃ z,y=.dat z∧f d=some z)∧(b=false→H2=H∧f d=none))
  (q:Q (l.filterMap f) H):hz5 PW w hb sc n t ifs elt ρ ds [] H Q:=he▸bj3 v f g l [] h (by trivial)
theorem bj4 {α β:Type} (v:α→V) (l:List α) (u:α→β→V) (l2:α→List β) (f:α→β→PyData) {t t2 iter2 elt:Expr} {ds:List V} {Q:List PyData→HL→Prop} (he:ds=l.map v) (g:i9 sc=true)
  (h:∀ d∈l,wpT PW w hb sc n Xs.no ρ t (v d) H fun ρ1 H1=>Keeps' ρ ρ1∧wpE PW w hb sc n Xs.no ρ1 60 iter2 H1 fun x H2=>H2=H∧R4 PW w hb n x H H ((l2 d).map (u d))∧(l2 d).length≤1000 ∧
   ∀ b∈l2 d,wpT PW w hb sc n Xs.no ρ1 t2 (u d b) H fun ρ2 H3=>Keeps' ρ1 ρ2∧fj4 w hb sc n ρ2 [] H3 fun c H4=>(c=true→wpE PW w hb sc n Xs.no ρ2 60 elt H4 fun y H5=>H5=H∧∃ z,y=.dat z∧some (f d b)=some z)∧(c=false→H4=H∧some (f d b)=none))
  (q:Q (l.flatMap fun d=>(l2 d).map (f d)) H):C9 PW w hb sc n (em2 PW w hb sc n elt t2 iter2 []) t [] ρ ds [] H Q:=by
 subst he
 have main:∀ (l:List α) (acc:List PyData),(∀ d∈l,wpT PW w hb sc n Xs.no ρ t (v d) H fun ρ1 H1=>Keeps' ρ ρ1∧wpE PW w hb sc n Xs.no ρ1 60 iter2 H1 fun x H2=>H2=H∧R4 PW w hb n x H H ((l2 d).map (u d))∧(l2 d).length≤1000 ∧
   ∀ b∈l2 d,wpT PW w hb sc n Xs.no ρ1 t2 (u d b) H fun ρ2 H3=>Keeps' ρ1 ρ2∧fj4 w hb sc n ρ2 [] H3 fun c H4=>(c=true→wpE PW w hb sc n Xs.no ρ2 60 elt H4 fun y H5=>H5=H∧∃ z,y=.dat z∧some (f d b)=some z)∧(c=false→H4=H∧some (f d b)=none)) →
   Q (acc++l.flatMap fun d=>(l2 d).map (f d)) H→C9 PW w hb sc n (em2 PW w hb sc n elt t2 iter2 []) t [] ρ (l.map v) acc H Q:=by
  intro l
  induction l with
  | nil=>intro acc h q;exact (show Q acc H by simpa using q)
  | cons d l ih =>
   intro acc h q
   refine TA.mono (aq1 g (h d (jv0 ..))) fun ρ1 H1 r=>⟨r.1,fun u_=>Tri.mono (F1 g r.2) fun x ρ' H2 r=>⟨r.1,?_⟩,nofun⟩
   (refine w6 r ?_;clear r;rintro _ rfl i hl r)
   refine ⟨_,i,by refine a5 (jv1 ..) ?_;exact hl,bj3 (u d) (fun b=>some (f d b)) g (l2 d) acc r (ih _ (fun d' m=>h d' (jv3 _ m)) ?_)⟩
   ·rw [lk2,← kk4] at q
    refine a5 kx5 ?_
    exact q
 exact main l [] h (by trivial)
end
end
section
structure Sg where
 name:Str
 abs:Bool
 mult:Str
 parent:Str
 supers:List Str
noncomputable def a6 (l:List Str):List PyData:=l.map .str
noncomputable def Sg.item (g:Sg):PyData:=.tuple [.str "sig",.int 0,.tuple [.str g.name],.bool g.abs,.str g.mult,.str g.parent,.tuple (a6 g.supers),.tuple [],.tuple []]
noncomputable def s7 (T:List Sg):List (Str × PyData):=T.map fun g=>(g.name,g.item)
noncomputable def c0 (T:List Sg) (n:Str):Option Sg:=T.find? fun g=>n == g.name
set_option tactic.hygienic true in
theorem F7 {T:List Sg} {n:Str} {g:Sg} (h:c0 T n=some g):(s7 T).lookup n=some g.item:=by
 induction T with
 | nil=>exact nn h
 | cons a T ih =>
  unfold c0 at h ih
  rw [kw0] at h
  rw [s7,kx1,kq2]
  split at h
  ·rename_i e;(injection h with i;(replace i:=i.symm;subst i));rfl
  ·rename_i e;exact ih h
set_option tactic.hygienic true in
theorem Y6 {T:List Sg} {n:Str} (h:c0 T n=none):(s7 T).lookup n=none:=by
 induction T with
 | nil=>rfl
 | cons a T ih =>
  unfold c0 at h ih
  rw [kw0] at h
  rw [s7,kx1,kq2]
  split at h
  ·exact ns h
  ·rename_i e;exact ih h
theorem jx7:(metT.all fun p=>p.2.all fun q=>!Y2 p.1 q.1)=true:=by kernel_rfl
set_option tactic.hygienic true in
theorem iq4 {C f:Addr} {x:Str} (h:az7 C x=some f):Y2 C x=false:=by
 unfold az7 at h
 split at h
 ·rename_i xs e
  have h1:=kq3.mp (kq3.mp jx7 _ (l6 e)) _ (l6 h)
  simpa using h1
 ·exact nn h
theorem noMet {C f:Addr} {x:Str} {fs:List (Str × V)} (hf:(fs.all fun p=>Y2 C p.1)=true) (h:az7 C x=some f):fs.lookup x=none:=by
 generalize e:fs.lookup x=y_;induction y_ using Qd with
 | none=>rfl
 | some v =>
  have:=kq3.mp hf _ (l6 e)
  rw [iq4 h] at this
  exact nb this
theorem cq7 {l:List Str}:decide ((((a6 l).map V.dat).length:Int) > 0)=decide (l≠[]):=by
 cases l <;> simp [a6]
section
variable {w:World} {hb:Heap} {n:Nat} {X:Xs} {H:HL}
structure OfC (w:World) (hb:Heap) (H:HL) (d:V) (C:Addr) (fs:List (Str × V)):Prop where
 I:InstV PW w hb H d C fs
 f:(fs.all fun p=>Y2 C p.1)=true
theorem a9 {d v:V} {C:Addr} {fs:List (Str × V)} {x:Str} {Q:VP} (I:OfC w hb H d C fs) (hx:fs.lookup x=some v) (hc:L0 v=true) (q:Q v H):bx8 PW w hb n X d x H Q :=
 ij2 I.I hx (kq3.mp I.f _ (l6 hx)) hc q
theorem j0 {d:V} {C f:Addr} {fs:List (Str × V)} {x:Str} {K:Value→Prop} (I:OfC w hb H d C fs) (hf:az7 C x=some f) (k:K (.ref f)):w8 PW w hb d x H K :=
 iq3 I.I hf (noMet I.f hf) k
theorem i4 {a:Addr} {xs:List PyData} {K:Value→Prop} (i:Nat) (e:H[i]?=some (a,.lst xs)) (k:K (.builtin "list.append")):w8 PW w hb (.ref a) "append" H K:=ak0 (ax2 i e PySem.F.slot_list_append PySem.F.type_list_append) (by kernel_rfl) k
theorem ax5 {a:Addr} {xs:List PyData} {K:Value→Prop} (i:Nat) (e:H[i]?=some (a,.lst xs)) (k:K (.builtin "list.extend")):w8 PW w hb (.ref a) "extend" H K:=ak0 (ax2 i e PySem.F.slot_list_extend PySem.F.type_list_extend) (by kernel_rfl) k
theorem fx4 {a:Addr} {xs:List PyData} {K:Value→Prop} (i:Nat) (e:H[i]?=some (a,.lst xs)) (k:K (.builtin "list.remove")):w8 PW w hb (.ref a) "remove" H K:=ak0 (ax2 i e PySem.F.slot_list_remove PySem.F.type_list_remove) (by kernel_rfl) k
structure SigAt (w:World) (hb:Heap) (H:HL) (d:V) (T:List Sg):Prop where
 ex:∃ fs e st,OfC w hb H d 571 fs∧fs.lookup ("entries":Str)=some e∧L0 e=true∧DctV PW w hb H e (s7 T)∧fs.lookup ("stands":Str)=some st∧L0 st=true∧ListV PW w hb H st ((a6 (T.map Sg.name)).map .dat)
theorem SigAt.do {d:V} {T:List Sg} {x:Str} {f:Addr} {K:Value→Prop} (S:SigAt w hb H d T) (hf:az7 571 x=some f) (k:K (.ref f)):w8 PW w hb d x H K:=by
 refine w5 S.ex fun fs e sd I h=>?_
 exact j0 I hf k
theorem SigAt.ent {d:V} {T:List Sg} {name:Str} {g:Sg} {Q:VP} (S:SigAt w hb H d T) (hg:c0 T name=some g) (q:Q (.dat g.item) H):bx8 PW w hb n X d "entries" H fun a H1=>gj0 PW w hb a name H1 Q:=by
 refine oE S.ex fun fs y=>oE y fun e y=>oE y fun sd y=>oA y fun I y=>oA y fun h1 y=>w6 y fun h2 D h3 h4 L=>?_
 exact a9 I h1 h2 (g9 D (F7 hg) q)
theorem E5 {d:V} {T:List Sg} {name:Str} {g:Sg} {Q:VP} (S:SigAt w hb H d T) (hg:c0 T name=some g) (q:Q (.dat (.str g.parent)) H) :
  Op PW w hb (n+1) X (RepV PW w) (fun vs=>call (.ref 493) vs) [d,.dat (.str name)] H Q:=by
 refine g8 rfl rfl rfl (names:=[st "self",st "name"]) (by kernel_rfl) rfl (R3 fun u_ u_=>by kernel_rfl) fun g=>?_
 refine S.ent hg ?_
 exact q
theorem gw9 {d:V} {T:List Sg} {name:Str} {g:Sg} {Q:VP} (S:SigAt w hb H d T) (hg:c0 T name=some g) (q:Q (.dat (.str g.mult)) H) :
  Op PW w hb (n+1) X (RepV PW w) (fun vs=>call (.ref 547) vs) [d,.dat (.str name)] H Q:=by
 refine g8 rfl rfl rfl (names:=[st "self",st "name"]) (by kernel_rfl) rfl (R3 fun u_ u_=>by kernel_rfl) fun g=>?_
 refine S.ent hg ?_
 exact q
theorem c_abs {d:V} {T:List Sg} {name:Str} {g:Sg} {Q:VP} (S:SigAt w hb H d T) (hg:c0 T name=some g) (q:Q (.dat (.bool g.abs)) H) :
  Op PW w hb (n+1) X (RepV PW w) (fun vs=>call (.ref 540) vs) [d,.dat (.str name)] H Q:=by
 refine g8 rfl rfl rfl (names:=[st "self",st "name"]) (by kernel_rfl) rfl (R3 fun u_ u_=>by kernel_rfl) fun g=>?_
 refine S.ent hg ?_
 exact q
theorem Z6 {d:V} {T:List Sg} {name:Str} {g:Sg} {Q:VP} (S:SigAt w hb H d T) (hg:c0 T name=some g) (q:Q (.dat (.tuple (a6 g.supers))) H) :
  Op PW w hb (n+1) X (RepV PW w) (fun vs=>call (.ref 500) vs) [d,.dat (.str name)] H Q:=by
 refine g8 rfl rfl rfl (names:=[st "self",st "name"]) (by kernel_rfl) rfl (R3 fun u_ u_=>by kernel_rfl) fun g=>?_
 refine S.ent hg ?_
 refine ev8 ?_
 exact q
theorem ez9 {d:V} {T:List Sg} {name:Str} {g:Sg} {Q:VP} (S:SigAt w hb H d T) (hg:c0 T name=some g) (hl:g.supers.length≤1000) (q:Q (.dat (.bool (decide (g.supers≠[])))) H) :
  Op PW w hb (n+1) X (RepV PW w) (fun vs=>call (.ref 507) vs) [d,.dat (.str name)] H Q:=by
 refine g8 rfl rfl rfl (names:=[st "self",st "name"]) (by kernel_rfl) rfl (R3 fun u_ u_=>by kernel_rfl) fun g=>?_
 refine S.ent hg ?_
 refine j7 (j5 rfl) (by simp [a6];exact d6 [_] 1 zA (.num 1000) (.add zA nA) (.num 4611686018427387904) tT hl) ?_
 refine (?_:Q (.dat (.bool (decide ((((a6 _).map V.dat).length:Int) > 0)))) H)
 refine a5 cq7 ?_
 exact q
noncomputable def u8 (x:Str):V:=.dat (.str x)
theorem i6 {l:List Str}:(a6 l).map V.dat=l.map u8:=by exact jw5 ..
theorem Q4 {α β:Type} {p:α→Prop} [DecidablePred p] {f:α→β} {l:List α}:l.filterMap (fun x=>if p x then some (f x) else none)=(l.filter fun x=>decide (p x)).map f:=by
 induction l with
 | nil=>rfl
 | cons a l ih=>by_cases h:p a <;> simp [h,ih]
theorem fq0 (a:Str) (l:List Str):(([PyData.str a]++a6 l).map V.dat).getLast?=some (.dat (.str ((a::l).getLast (kj1 _ _)))):=by
 have e:([PyData.str a]++a6 l).map V.dat=(a::l).map u8:=by simp [a6,u8]
 refine a5 e (a5 (List.getLast?_map) (a5 (List.getLast?_eq_some_getLast (kj1 a l)) ?_));rfl
theorem eq8 {l:List Str}:ListV PW w hb H (.dat (.list (a6 l))) (l.map fun y=>.dat (.str y)):=by
 have:=l8 (pG:=PW) (w:=w) (hb:=hb) (H:=H) (xs:=a6 l)
 rwa [i6] at this
theorem as {Q:VP} {a b:V} (e:a=b) (q:Q b H):Q a H:=e▸q
theorem G3 {a b:Str} (e:(bif false then a == b else !(a == b))=true):a≠b:=fun h=>by subst h;simp at e
theorem I5 {a b:Str} (e:(bif false then a == b else !(a == b))=false):a=b:=by simpa using e
theorem p7 {a b:Str} (e:(bif true then a == b else !(a == b))=true):a=b:=by exact of_decide_eq_true e
theorem r8 {a b:Str} (e:(bif true then a == b else !(a == b))=false):a≠b:=fun h=>by subst h;simp at e
noncomputable def Sg.direct (g:Sg):List Str:=(if g.parent="" then [] else [g.parent])++g.supers
theorem dq1 {d:V} {T:List Sg} {name:Str} {g:Sg} {Q:VP} (S:SigAt w hb H d T) (hg:c0 T name=some g) (hl:g.supers.length≤1000) (q:Q (.dat (.tuple (a6 g.direct))) H) :
  Op PW w hb (n+2) X (RepV PW w) (fun vs=>call (.ref 441) vs) [d,.dat (.str name)] H Q:=by
 refine g8 rfl rfl rfl (names:=[st "self",st "name"]) (by kernel_rfl) rfl (R3 fun u_ u_=>by kernel_rfl) fun u_=>?_
 refine S.do rfl ?_
 refine E5 S hg ?_
 refine ⟨fun e=>?_,fun e=>?_⟩
 ·refine S.do rfl ?_
  refine E5 S hg ?_
  refine S.do rfl ?_
  refine Z6 S hg ?_
  refine ⟨by simp [a6];exact d6 [_] 1 zA (.num 1000) (.add nA zA) (.num 1000000) tT hl,?_⟩
  refine as ?_ q
  rw [Sg.direct,if_neg (G3 e)];rfl
 ·refine S.do rfl ?_
  refine Z6 S hg ?_
  refine ⟨by simp [a6];exact ul hl tT,?_⟩
  refine as ?_ q
  rw [Sg.direct,if_pos (I5 e)];rfl
theorem dq0 {d:V} {T:List Sg} {name:Str} {g:Sg} {Q:VP} (S:SigAt w hb H d T) (hg:c0 T name=some g) (hl:g.supers.length≤1000) (h1:∀ o∈g.direct,∃ g',c0 T o=some g') (h2:g.parent≠""→∃ g',c0 T g.parent=some g'∧g'.supers=[]) (q:Q (.dat .none) H) :
  Op PW w hb (n+3) X (RepV PW w) (fun vs=>call (.ref 434) vs) [d,.dat (.str name)] H Q:=by
 refine g8 rfl rfl rfl (names:=[st "self",st "name"]) (by kernel_rfl) rfl (R3 fun u_ u_=>by kernel_rfl) fun gs=>?_
 refine S.do rfl ?_
 refine dq1 S hg hl ?_
 refine ⟨_,d9 rfl,?_⟩
 refine q9 gs u8 g.direct i6 (fun N hN hE o ho=>?_) (f9 gs ?_)
 ·refine oE (h1 o ho) fun g' hg'=>?_
  refine oE S.ex fun fs y=>oE y fun e y=>oE y fun sd y=>oA y fun I y=>oA y fun h1 y=>w6 y fun h2 D h3 h4 L=>?_
  refine a9 I h1 h2 ?_
  refine P9 D ?_
  refine a5 (F7 hg') ?_
  refine ⟨fun e=>(nomatch e),fun e=>?_⟩
  exact hN _ (.new rfl)
 ·refine S.do rfl ?_
  refine E5 S hg ?_
  refine ⟨fun e=>?_,fun e=>⟨fun e=>(nomatch e),fun e=>?_⟩⟩
  ·refine c9 (h2 (G3 e)) fun g' hg' hs=>?_
   refine S.do rfl ?_
   refine S.do rfl ?_
   refine E5 S hg ?_
   refine ez9 S hg' (by refine a5 hs ?_;exact kx0 _) ?_
   refine a5 hs ?_
   exact ⟨Mine.nb,fun u_=>⟨nb,fun u_=>q⟩⟩
  ·exact q
theorem dk7 {T:List Sg} {name:Str} {fs:List (Str × V)} {Q:VP} (S:SigAt w hb H (.inst 571 fs) T) (If:OfC w hb H (.inst 571 fs) 571 fs) (hs:fs.lookup ("stands":Str)=some (.dat (.list (a6 (T.map Sg.name))))) (hw:∀ g∈T,c0 T g.name=some g) (hl:T.length≤1000) (q:Q (.dat (.list (a6 ((T.filter fun g=>decide (g.parent=name)).map Sg.name)))) H) :
  Op PW w hb (n+2) X (RepV PW w) (fun vs=>call (.ref 512) vs) [.inst 571 fs,.dat (.str name)] H Q:=by
 refine g8 rfl rfl rfl (names:=[st "self",st "name"]) (by kernel_rfl) rfl (R3 fun u_ u_=>by kernel_rfl) fun gs=>?_
 refine oE (id S.ex) fun fs' y=>oE y fun e y=>oE y fun sd y=>oA y fun I y=>oA y fun h1 y=>w6 y fun h2 D h3 h4 L=>?_
 refine a9 If hs rfl ?_
 refine ⟨H,_,.same,b0,by simp [a6];exact ul hl tT,?_⟩
 refine d4 (fun g:Sg=>u8 g.name) T (fun g=>if g.parent=name then some (.str g.name) else none) (by simp [a6,u8]) (by kernel_rfl) (fun g hg=>?_) ?_
 ·refine ⟨.new rfl,?_⟩
  refine S.do rfl ?_
  refine E5 S (hw _ hg) ?_
  refine ⟨fun e=>⟨rfl,_,rfl,if_pos (p7 e)⟩,fun e=>⟨rfl,if_neg (r8 e)⟩⟩
 ·refine ⟨rfl,.inl ?_⟩
  refine as ?_ q
  refine a5 Q4 ?_
  simp only [a6,jw5]
  rfl
inductive Up (lk:Str→Option Sg):Str→List Str→Prop
 | top {x g}:lk x=some g→g.parent=""→Up lk x []
 | up {x g l}:lk x=some g→g.parent≠""→Up lk g.parent l→Up lk x (g.parent::l)
theorem iz9 {T:List Sg} {d:V} {name:Str} {l:List Str} {Q:VP} (S:∀ H,SigAt w hb H d T) (hu:Up (c0 T) name l) (hl:l.length≤1000) (q:Q (.dat (.list (a6 l))) H) :
  Op PW w hb (n+2) X (RepV PW w) (fun vs=>call (.ref 519) vs) [d,.dat (.str name)] H Q:=by
 refine h8 (g8 rfl rfl rfl (names:=[st "self",st "name"]) (by kernel_rfl) rfl (R3 fun u_ u_=>by kernel_rfl) fun gs=>?_)
 intro D
 refine O9 gs (fun m ρ H'=>∃ nm acc l',ρ=[(st "found",.ref D),(st "self",d),(st "name",.dat (.str nm))]∧H'=(D,.lst (a6 acc))::H∧Up (c0 T) nm l'∧l=acc++l'∧m=l'.length) l.length ?_ ?_
 ·exact ⟨name,[],l,rfl,rfl,hu,rfl,rfl⟩
 ·(intro N hN hE m ρ1 H1 yz;(refine ck6 yz ?_;clear yz;rintro nm acc l' y;refine w6 y ?_;clear y;rintro rfl rfl hu he rfl))
  refine (S _).do rfl ?_
  cases hu with
  | top h1 h2 =>
   refine E5 (S _) h1 ?_
   refine ⟨fun u_=>?_,fun e=>absurd h2 (G3 e)⟩
   rw [kq4] at he
   subst he
   exact ⟨[(D,.lst (a6 l))],H,_,rfl,.lst (jv4.mpr rfl),q⟩
  | @up x g l' h1 h2 h3 =>
   refine E5 (S _) h1 ?_
   refine ⟨fun e=>absurd (I5 e) h2,fun u_=>?_⟩
   refine (S _).do rfl ?_
   refine E5 (S _) h1 ?_
   refine i4 0 rfl ?_
   refine g5 (i:=0) rfl (by rw [he] at hl;simp [a6] at hl ⊢;exact d6 [_,_] 1 (.add zA (.add zB nA)) (.num 1000) zA (.num 1000000) tT hl) ?_
   refine hN _ _ _ ⟨[(st "found",.ref D),(st "self",d),(st "name",.dat (.str g.parent))],l'.length,rfl,.all ⟨rfl,rfl,rfl,trivial⟩,g.parent,acc++[g.parent],l',rfl,?_,h3,by simp [he],rfl⟩
   simp [a6]
theorem iv3 {T:List Sg} {d:V} {name:Str} {g:Sg} {l:List Str} {Q:VP} (S:∀ H,SigAt w hb H d T) (hg:c0 T name=some g) (hn:g.supers.length≤1000) (hu:g.supers=[]→Up (c0 T) name l) (hl:l.length≤1000) (q:Q (.dat (.str (if g.supers=[] then (name::l).getLast (kj1 _ _) else ""))) H) :
  Op PW w hb (n+3) X (RepV PW w) (fun vs=>call (.ref 526) vs) [d,.dat (.str name)] H Q:=by
 refine g8 rfl rfl rfl (names:=[st "self",st "name"]) (by kernel_rfl) rfl (R3 fun u_ u_=>by kernel_rfl) fun gs=>?_
 refine (S _).do rfl ?_
 refine ez9 (S _) hg hn ?_
 refine ⟨fun e=>?_,fun e=>?_⟩
 ·refine as ?_ q
  exact a5 (if_neg (of_decide_eq_true e)) rfl
 ·refine .inl ?_
  refine (S _).do rfl ?_
  refine iz9 S (hu (by simpa using e)) hl ?_
  refine ⟨by simp [a6];exact d6 [_] 1 zA (.num 1000) (.add nA zA) (.num 1000000) tT hl,?_⟩
  refine fv8 d5 ?_ (fq0 name l) ?_
  ·simp [a6];exact ul hl tT
  ·refine as ?_ q
   exact a5 (if_pos (by simpa using e)) rfl
theorem cx8 {d:V} {ord:List Str} {fs:List (Str × V)} {Q:VP} (I:OfC w hb H d 571 fs) (ho:fs.lookup ("ordered":Str)=some (.dat (.list (a6 ord)))) (hl:ord.length≤1000) (q:Q (.dat (.list (a6 ord))) H) :
  Op PW w hb (n+1) X (RepV PW w) (fun vs=>call (.ref 472) vs) [d] H Q:=by
 refine g8 rfl rfl rfl (names:=[st "self"]) (by kernel_rfl) rfl (ar1 fun u_=>by kernel_rfl) fun gs=>?_
 refine a9 I ho rfl ?_
 refine Q0 d5 (by simp [a6];exact ul hl tT) ?_
 exact q
theorem hq2 {d:V} {fs:List (Str × V)} {Q:VP} (I:OfC w hb H d 571 fs) (ho:fs.lookup ("own_fields":Str)=some (.dat (.list []))) (q:Q (.dat (.list [])) H) :
  Op PW w hb (n+1) X (RepV PW w) (fun vs=>call (.ref 554) vs) [d] H Q:=by
 refine g8 rfl rfl rfl (names:=[st "self"]) (by kernel_rfl) rfl (ar1 fun u_=>by kernel_rfl) fun gs=>?_
 refine a9 I ho rfl ?_
 refine Q0 d5 (by exact kx0 _) ?_
 exact q
theorem cw9 {d:V} {xs:List PyData} {fs:List (Str × V)} {Q:VP} (I:OfC w hb H d 571 fs) (ho:fs.lookup ("opened":Str)=some (.dat (.list xs))) (hl:xs.length≤1000) (q:Q (.dat (.list xs)) H) :
  Op PW w hb (n+1) X (RepV PW w) (fun vs=>call (.ref 568) vs) [d] H Q:=by
 refine g8 rfl rfl rfl (names:=[st "self"]) (by kernel_rfl) rfl (ar1 fun u_=>by kernel_rfl) fun gs=>?_
 refine a9 I ho rfl ?_
 refine Q0 d5 (by exact ul hl tT) ?_
 exact q
end
end
section
section
variable {w:World} {hb:Heap} {n:Nat} {X:Xs} {H:HL}
theorem InstV.more {p:Addr × O} {d:V} {C:Addr} {fs:List (Str × V)} (x:InstV PW w hb H d C fs):InstV PW w hb (p::H) d C fs:=fun Z s v y r=>x Z s v (y.cut (Ha:=[])) r
theorem DctV.more {p:Addr × O} {d:V} {kvs:List (Str × PyData)} (x:DctV PW w hb H d kvs):DctV PW w hb (p::H) d kvs:=fun Z s v y r=>x Z s v (y.cut (Ha:=[])) r
theorem ListV.more {p:Addr × O} {d:V} {ds:List V} (x:ListV PW w hb H d ds):ListV PW w hb (p::H) d ds:=fun Z s v y r=>x Z s v (y.cut (Ha:=[])) r
theorem OfC.more {p:Addr × O} {d:V} {C:Addr} {fs:List (Str × V)} (x:OfC w hb H d C fs):OfC w hb (p::H) d C fs:=⟨x.I.more,x.f⟩
theorem SigAt.more {p:Addr × O} {d:V} {T:List Sg} (x:SigAt w hb H d T):SigAt w hb (p::H) d T:=by
 refine oE x.ex fun fs y=>oE y fun e y=>oE y fun sd y=>oA y fun I y=>oA y fun h1 y=>w6 y fun h2 D h3 h4 L=>?_
 exact ⟨fs,e,sd,I.more,h1,h2,D.more,h3,h4,L.more⟩
theorem ListV.seq {d:V} {ds:List V} (x:ListV PW w hb H d ds):Z9 PW w hb H d ds:=fun Z s v y r=>by
 refine a8 (x Z s v y r) fun a vs e h rl=>?_
 exact ⟨a,vs,e,.inl h,rl⟩
noncomputable def w4 (T:List Sg) (found:List Str) (x:Str):Bool:=match c0 T x with
 | some g=>g.direct.all fun o=>found.any (· == o)
 | none=>false
inductive Pf (T:List Sg):List Str→List Str→List Str→Prop
 | done {f}:Pf T f [] f
 | step {f l a out}:(l.filter (w4 T f)).head?=some a→Pf T (f++[a]) (l.erase a) out→Pf T f l out
theorem M1 (l:List PyData):PyData.eqv (.list l) (.list [])=decide (l=[]):=by
 induction l using Qh with
 | nil=>rfl
 | cons a l=>rfl
noncomputable def Sh (k:Nat) (x:PyData):Prop:=x.canLay0=true∧x.depth≤k
theorem bw4 {k:Nat} {xs:List PyData} (h:∀ x∈xs,Sh k x):PyData.canLayAll0 xs=true∧PyData.depthAll xs≤k:=by
 induction xs with
 | nil=>exact ⟨rfl,kx0 _⟩
 | cons a l ih =>
  refine oA (ih fun o m=>h o (jv3 _ m)) fun i1 i2=>?_
  refine oA (h a (jv0 ..)) fun a1 a2=>?_
  exact ⟨jw6.mpr ⟨a1,i1⟩,Nat.max_le.mpr ⟨a2,i2⟩⟩
theorem Sh.list {k:Nat} {xs:List PyData} (h:∀ x∈xs,Sh k x):Sh (k+1) (.list xs):=⟨(bw4 h).1,lk9 (bw4 h).2⟩
theorem Sh.tuple {k:Nat} {xs:List PyData} (h:∀ x∈xs,Sh k x):Sh (k+1) (.tuple xs):=⟨(bw4 h).1,lk9 (bw4 h).2⟩
theorem Sh.shaped {k:Nat} {x:PyData} (h:Sh k x) (hk:k≤64:=by decide):SeqAt.shaped x=true:=jw6.mpr ⟨h.1,decide_eq_true (jw9 h.2 hk)⟩
theorem ej4 {l f:List Str}:(l.all fun o=>f.any (· == o))=decide (l.filterMap (fun x=>if f.any (· == x)=true then none else some (PyData.str x))=[]):=by
 induction l with
 | nil=>rfl
 | cons a l ih =>
  refine a5 mj9 (a5 ih (a5 kq5 ?_))
  cases e:f.any (· == a) <;> rfl
theorem bx4 {T:List Sg} {d:V} {ord:List Str} {Q:VP} (S:SigAt w hb H d T) (hw:∀ g∈T,c0 T g.name=some g∧g.supers.length≤1000) (hs:∀ g∈T,∀ o∈g.direct,Sh 0 (.str o)) (ht:T.length≤1000) (hp:Pf T [] (T.map Sg.name) ord) (q:Q (.dat (.list (a6 ord))) H) :
  Op PW w hb (n+3) X (RepV PW w) (fun vs=>call (.ref 446) vs) [d] H Q:=by
 refine h8 (g8 rfl rfl rfl (names:=[st "self"]) (by kernel_rfl) rfl (ar1 fun u_=>by kernel_rfl) fun gs=>?_)
 intro D
 refine oE (id S.ex) fun fs y=>oE y fun e y=>oE y fun sd y=>oA y fun I y=>oA y fun h1 y=>w6 y fun h2 De h3 h4 L=>?_
 refine a9 I.more h3 h4 ?_
 refine ck4 L.more.seq (by simp [a6];exact ul ht tT) fun E=>?_
 refine O9 gs (fun m ρ H'=>∃ f l,ρ=[(st "rest",.ref E),(st "found",.ref D),(st "self",d)]∧H'=(E,.lst (a6 l))::(D,.lst (a6 f))::H∧Pf T f l ord∧f.length+l.length=T.length∧(∀ x∈l,x∈T.map Sg.name)∧m=l.length) (T.map Sg.name).length ?_ ?_
 ·exact ⟨[],_,rfl,rfl,hp,by simp,fun u_ h=>h,rfl⟩
 ·(intro N hN hE m ρ1 H1 yz;(refine a8 yz ?_;clear yz;rintro f l rfl rfl y;refine G9 y ?_;clear y;rintro hp hl hm rfl))
  refine j7 (x4 0 rfl) (by simp [a6];exact i5 [_,_,_] 1 (.add zA zB) zC 1 zC (.num 1000) (.add zB nA) (.num 4611686018427387904) tT (o7 hl) ht) ?_
  cases hp with
  | done =>
   refine ⟨fun u_=>?_,Mine.nb⟩
   exact ⟨[(E,.lst (a6 [])),(D,.lst (a6 ord))],H,_,rfl,.lst (jv3 _ (jv4.mpr rfl)),q⟩
  | @step _ _ a _ ha hp =>
   refine ⟨fun e=>?_,fun u_=>?_⟩
   ·induction l using Qh with
    | nil=>exact nn ha
    | cons b l=>exact absurd e (by simp [a6])
   refine ⟨(D,.lst (a6 f))::H,_,.cut (Ha:=[]),bq3 (Ha:=[]),by simp [a6];exact i5 [_,_,_] 1 (.add zA zB) zC 1 zC (.num 1000) zB (.num 1000000) tT (o7 hl) ht,?_⟩
   refine d4 u8 l (fun x=>if w4 T f x=true then some (.str x) else none) i6 (by kernel_rfl) (fun x hx=>?_) ?_
   ·refine ⟨.new rfl,?_⟩
    (refine c9 (jv9.mp (hm x hx)) ?_;rintro g hg rfl)
    refine S.more.do rfl ?_
    refine dq1 S.more (hw g hg).1 (hw g hg).2 ?_
    refine ⟨_,_,.same,d9 rfl,by have:=(hw g hg).2;simp [a6,Sg.direct];split <;> simp <;> lia,?_⟩
    refine d4 u8 g.direct (fun x=>if f.any (· == x)=true then none else some (.str x)) i6 (by kernel_rfl) (fun o ho=>?_) ?_
    ·refine ⟨.new rfl,?_⟩
     refine J5 (ys:=f) ?_ ?_
     ·have:=X9 (pG:=PW) (w:=w) (hb:=hb) (H:=(D,.lst (a6 f))::H) 0 rfl
      rwa [i6] at this
     ·refine ⟨fun e=>⟨rfl,_,rfl,if_neg (by simpa only [lk3,← lk8] using e)⟩,fun e=>⟨rfl,if_pos (by simpa only [lx5] using e)⟩⟩
    ·refine ⟨rfl,.inl ?_⟩
     refine .inl ?_
     refine az6 ?_ rfl ?_
     ·refine (Sh.list (k:=0) fun z hz=>?_).shaped
      refine c9 (lq0.mp hz) fun x h1 h2=>?_
      split at h2
      ·exact nn h2
      ·(injection h2 with i;subst i);exact hs g hg x h1
     refine a5 (M1 ..) ?_
     have e1:w4 T f g.name=decide (g.direct.filterMap (fun x=>if f.any (· == x)=true then none else some (PyData.str x))=[]):=by
      unfold w4
      refine a5 ((hw g hg).1) ?_
      exact ej4
     refine a5 e1 ?_
     refine ⟨fun e=>⟨rfl,_,rfl,if_pos e⟩,fun e=>⟨rfl,if_neg (by refine a5 e ?_;nofun)⟩⟩
   ·refine ⟨rfl,?_⟩
    refine a5 Q4 ?_
    have e2:(l.filter fun x=>decide (w4 T f x=true)).map PyData.str=.str a::((l.filter (w4 T f)).tail).map .str:=by
     simp only [Bool.decide_eq_true]
     cases e:l.filter (w4 T f) with
     | nil=>rw [e] at ha;exact nn ha
     | cons b r=>rw [e] at ha;(injection ha with i;(replace i:=i.symm;subst i));rfl
    have ma:a∈l:=(kj0.mp (mw9 ha)).1
    have le:(l.erase a).length=l.length - 1:=lk5 ma
    have lp:l.length≠0:=fun h=>by rw [kj4] at h;rw [h] at ma;cases ma
    refine a5 e2 ?_
    refine j7 d5 (by have:=kv3 (w4 T f) l;simp;exact ln4 [_,_,_,_,_] 1 zA zB 1 (.add zC zB) zD 1 zD (.num 1000) 1 (.var 4) zA (.add (.add (.var 4) nA) nA) (.num 4611686018427387904) tT this (o7 hl) ht (kj7 _ _)) ?_
    refine ⟨fun e=>absurd e (by simp;exact Int.ne_of_gt (Int.lt_add_one_of_le (kx2 _))),fun u_=>?_⟩
    refine i4 1 rfl ?_
    refine o8 (k:=0) d5 rfl (by exact jv2 tT) rfl ?_
    refine g5 (i:=1) rfl (by simp [a6];exact i5 [_,_,_] 1 (.add zA zB) zC 1 zC (.num 1000) zA (.num 1000000) tT (o7 hl) ht) ?_
    refine fx4 0 rfl ?_
    refine o8 (k:=0) d5 rfl (by exact jv2 tT) rfl ?_
    refine ew0 (i:=0) (ys:=l) rfl (by exact i5 [_,_,_] 1 (.add zA zB) zC 1 zC (.num 1000) zB (.num 1000000) tT (o7 hl) ht) ma ?_
    refine hN _ _ _ ⟨[(st "rest",.ref E),(st "found",.ref D),(st "self",d)],(l.erase a).length,by refine a5 le ?_;exact (mw2 lp).symm,.all ⟨rfl,rfl,rfl,trivial⟩,f++[a],l.erase a,rfl,?_,hp,by simp;refine a5 le ?_;exact (Nat.add_assoc ..).trans ((congrArg (f.length+·) ((Nat.add_comm 1 _).trans (mw2 lp))).trans hl),fun x hx=>hm x (mk8 hx),rfl⟩
    simp [a6]
end
end
section
section
variable {w:World} {hb:Heap} {n:Nat} {X:Xs} {H:HL}
theorem F5 {k:Str} {x:PyData}:∀ {l:List (Str × PyData)},l.lookup k=none→X3 k x l=l++[(k,x)]:=by
 intro l h
 induction l with
 | nil=>rfl
 | cons p l ih =>
  rw [kq2] at h
  cases e:k == p.1 with
  | true=>rw [e] at h;exact ns h
  | false =>
   rw [e] at h
   dsimp only [X3]
   refine a5 (if_neg (fun q=>by subst q;simp at e)) (a5 (ih h) ?_)
   rfl
noncomputable abbrev dz0 (x dx e sd op:Addr) (more:List (Str × V)) (T:List Sg) (ops:List PyData) (H:HL):HL:=(op,.lst ops)::(sd,.lst (a6 (T.map Sg.name)))::(e,.dct (s7 T))::(x,.inst 571 dx ([(st "entries",.ref e),(st "stands",.ref sd),(st "opened",.ref op)]++more))::H
theorem j6 {C a dx:Addr} {fs:List (Str × V)} (i:Nat) (e:H[i]?=some (a,.inst C dx fs)) (hf:(fs.all fun p=>Y2 C p.1)=true):OfC w hb H (.ref a) C fs:=⟨gj8 i e,hf⟩
theorem fz4 {x dx e sd op:Addr} {T:List Sg} {ops:List PyData} {g:Sg} {Q:VP} (ht:T.length≤1000) (hn:c0 T g.name=none) (hl:g.supers.length≤1000) (ha:g.supers≠[]→g.abs=false) (q:Q (.dat .none) (dz0 x dx e sd op [] (T++[g]) ops H)) :
  Op PW w hb (n+1) X (RepV PW w) (fun vs=>call (.ref 427) vs) [.ref x,.dat g.item] (dz0 x dx e sd op [] T ops H) Q:=by
 refine g8 rfl rfl rfl (names:=[st "self",st "item"]) (by kernel_rfl) rfl (R3 fun u_ u_=>by kernel_rfl) fun gs=>?_
 have I:∀ {T ops},OfC w hb (dz0 x dx e sd op [] T ops H) (.ref x) 571 _:=fun {T ops}=>j6 3 rfl (by kernel_rfl)
 refine ⟨_,d9 rfl,?_⟩
 refine j8 gs (ds:=[.dat (.str g.name)]) u8 [g.name] (fun l ρ H'=>ρ=[(st "self",.ref x),(st "item",.dat g.item)]∧((l=[g.name]∧H'=dz0 x dx e sd op [] T ops H)∨(l=[]∧H'=dz0 x dx e sd op [] (T++[g]) ops H))) rfl ?_ ?_ ?_
 ·exact ⟨rfl,.inl ⟨rfl,rfl⟩⟩
 ·rintro N hN hE y l ρ1 H1 ⟨rfl,h⟩
  rcases h with ⟨h,rfl⟩ | ⟨h,_⟩
  ·(injection h with i j;subst j;subst i)
   refine a9 I rfl rfl ?_
   refine U9 (x5 2 rfl) ?_
   refine a5 (Y6 hn) ?_
   refine ⟨Mine.nb,fun u_=>?_⟩
   refine a9 I rfl rfl ?_
   refine u6 (i:=2) rfl ?_ ?_
   ·simp [s7];exact ul ht tT
   refine a5 (F5 (Y6 hn)) ?_
   refine a9 (j6 3 rfl (by kernel_rfl)) rfl rfl ?_
   refine i4 1 rfl ?_
   refine g5 (i:=1) rfl (by simp [a6];exact ul ht tT) ?_
   refine hN _ _ _ ⟨[(st "self",.ref x),(st "item",.dat g.item)],.all ⟨rfl,rfl,trivial⟩,rfl,.inr ⟨rfl,?_⟩⟩
   simp [dz0,a6,s7]
  ·cases h
 ·rintro ρ1 H1 ⟨rfl,h⟩
  refine f9 gs ?_
  rcases h with ⟨h,_⟩ | ⟨_,rfl⟩
  ·cases h
  refine j7 (j5 rfl) (by simp [a6];exact d6 [_] 1 zA (.num 1000) (.add zA nA) (.num 4611686018427387904) tT hl) ?_
  refine ⟨fun e=>?_,fun u_=>⟨nb,fun u_=>q⟩⟩
  rw [cq7] at e
  refine (?_:(g.abs=true→_)∧(g.abs=false→_))
  refine a5 (ha (of_decide_eq_true e)) ?_
  refine ⟨nb,fun u_=>⟨nb,fun u_=>q⟩⟩
theorem l7 {C a dx:Addr} {fs:List (Str × V)} {name:Str} {d:V} {Q:Unit→HL→Prop} (i:Nat) (e:H[i]?=some (a,.inst C dx fs)) (hf:Y2 C name=true) (hl:fs.length≤100) (hn:L0 d=true) (q:Q () (H.set i (a,.inst C dx (ev2 name d fs)))) :
  Op PW w hb n X (fun _ (_:Unit) (_:Unit)=>True) (G0 fun o v=>setAttr o name v) [.ref a,d] H Q :=
 have F:=gk8 w hf
 dz7 e hl hn F.s F.p F.t F.d q
noncomputable abbrev aq5 (x dx op:Addr) (more:List (Str × V)) (T:List Sg) (ops:List PyData) (H:HL):HL:=(op,.lst ops)::(x,.inst 571 dx ([(st "entries",.dct (s7 T)),(st "stands",.dat (.list (a6 (T.map Sg.name)))),(st "opened",.ref op)]++more))::H
noncomputable def ik4 (name:Str):PyData:=.tuple [.str "open",.int 0,.str "util/ordering",.tuple [.str name],.str "o"]
theorem cw8 {x dx op:Addr} {T:List Sg} {o f:PyData} {g:Sg} {name:Str} {Q:VP} (ht:T.length≤1000) (hn:c0 T name=some g) (q:Q (.dat .none) (aq5 x dx op [(st "ordered",.dat o),(st "own_fields",.dat f)] T [.tuple [.str "o",.str name]] H)) :
  Op PW w hb (n+1) X (RepV PW w) (fun vs=>call (.ref 465) vs) [.ref x,.dat (ik4 name)] (aq5 x dx op [(st "ordered",.dat o),(st "own_fields",.dat f)] T [] H) Q:=by
 refine g8 rfl rfl rfl (names:=[st "self",st "item"]) (by kernel_rfl) rfl (R3 fun u_ u_=>by kernel_rfl) fun gs=>?_
 have I:OfC w hb (aq5 x dx op [(st "ordered",.dat o),(st "own_fields",.dat f)] T [] H) (.ref x) 571 _:=j6 1 rfl (by kernel_rfl)
 refine ⟨nn,?_⟩
 refine ⟨fun u_=>?_,fun e=>absurd rfl (G3 e)⟩
 refine j7 (j5 rfl) (by exact (jv2 tT)) ?_
 refine ⟨fun u_=>?_,Mine.nb⟩
 refine ⟨nb,fun u_=>?_⟩
 refine a9 I rfl rfl ?_
 refine P9 g7 ?_
 refine a5 (F7 hn) ?_
 refine ⟨Mine.nb,fun u_=>?_⟩
 refine ⟨fun u_=>?_,fun e=>absurd (I5 e) (by decide)⟩
 refine a9 I rfl rfl ?_
 refine ⟨_,_,.cut (Ha:=[]),bq3 (Ha:=[]),by exact kx0 _,?_⟩
 refine d4 (α:=V) id [] (fun u_=>none) rfl (by kernel_rfl) (fun _ h=>absurd h kq8) ?_
 refine ⟨rfl,.inl ?_⟩
 refine aq8 (ys:=[]) d5 ?_
 refine ⟨Mine.nb,fun u_=>?_⟩
 refine a9 I rfl rfl ?_
 refine i4 0 rfl ?_
 refine g5 (i:=0) rfl (by exact kx0 _) ?_
 exact q
theorem dq2 {x dx op:Addr} {T:List Sg} {ord:List Str} {Q:VP} (hw:∀ x∈ord,∃ g,c0 T x=some g) (q:Q (.dat (.list [])) (aq5 x dx op [(st "ordered",.dat (.list (a6 ord)))] T [] H)) :
  Op PW w hb (n+1) X (RepV PW w) (fun vs=>call (.ref 453) vs) [.ref x] (aq5 x dx op [(st "ordered",.dat (.list (a6 ord)))] T [] H) Q:=by
 refine g8 rfl rfl rfl (names:=[st "self"]) (by kernel_rfl) rfl (ar1 fun u_=>by kernel_rfl) fun gs=>?_
 have I:OfC w hb (aq5 x dx op [(st "ordered",.dat (.list (a6 ord)))] T [] H) (.ref x) 571 _:=j6 1 rfl (by kernel_rfl)
 refine .inl ⟨rfl,?_⟩
 refine a9 I rfl rfl ?_
 refine ⟨_,b0,q9 gs u8 ord i6 (fun N hN hE y hy=>?_) (f9 gs ?_)⟩
 ·refine oE (hw y hy) fun g hg=>?_
  refine a9 I rfl rfl ?_
  refine g9 g7 (F7 hg) ?_
  refine ⟨[],d9 rfl,f9 gs ?_⟩
  exact hN _ (.new rfl)
 ·exact q
theorem cx9 {x dx op:Addr} {T:List Sg} {o:PyData} {Q:VP} (q:Q (.dat .none) (aq5 x dx op [(st "ordered",.dat o),(st "own_fields",.dat (.list []))] T [] H)) :
  Op PW w hb (n+1) X (RepV PW w) (fun vs=>call (.ref 460) vs) [.ref x] (aq5 x dx op [(st "ordered",.dat o),(st "own_fields",.dat (.list []))] T [] H) Q:=by
 refine h8 (g8 rfl rfl rfl (names:=[st "self"]) (by kernel_rfl) rfl (ar1 fun u_=>by kernel_rfl) fun gs=>?_)
 intro a
 refine a9 (j6 2 rfl (by kernel_rfl)) rfl rfl ?_
 refine ⟨[],b0,f9 gs ?_⟩
 exact ⟨[(a,.dct [])],_,_,rfl,.same,q⟩
noncomputable def sigF (T:List Sg) (ord:List Str) (ops:List PyData):List (Str × V):=[(st "entries",.dct (s7 T)),(st "stands",.dat (.list (a6 (T.map Sg.name)))),(st "opened",.dat (.list ops)),(st "ordered",.dat (.list (a6 ord))),(st "own_fields",.dat (.list []))]
noncomputable def x7 (T:List Sg) (ord:List Str) (ops:List PyData):V:=.inst 571 (sigF T ord ops)
noncomputable def v7:Option Str→List PyData
 | some n=>[ik4 n]
 | none=>[]
noncomputable def m5:Option Str→List PyData
 | some n=>[.tuple [.str "o",.str n]]
 | none=>[]
structure WfT (T:List Sg) (ord:List Str):Prop where
 len:T.length≤1000
 at_:∀ g∈T,c0 T g.name=some g∧g.supers.length≤1000
 abs:∀ g∈T,g.supers≠[]→g.abs=false
 dir:∀ g∈T,∀ o∈g.direct,(∃ g',c0 T o=some g')∧Sh 0 (.str o)
 par:∀ g∈T,g.parent≠""→∃ g',c0 T g.parent=some g'∧g'.supers=[]
 known:∀ x∈ord,∃ g,c0 T x=some g
end
end
section
section
variable {w:World} {hb:Heap} {n:Nat} {X:Xs} {H:HL}
noncomputable abbrev gz2 (ord:List Str):List (Str × V):=[(st "ordered",.dat (.list (a6 ord))),(st "own_fields",.dat (.list []))]
theorem cz0 {T:List Sg} {ord:List Str} {lined:Option Str} {Q:VP} (W:WfT T ord) (hf:∀ T1 g T2,T=T1++g::T2→c0 T1 g.name=none) (hp:Pf T [] (T.map Sg.name) ord) (hl:∀ x,lined=some x→∃ g,c0 T x=some g) (q:Q (x7 T ord (m5 lined)) H) :
  Op PW w hb (n+5) X (RepV PW w) (fun vs=>call (.ref 571) vs) [.dat (.list (T.map Sg.item++v7 lined))] H Q:=by
 refine h8 (J6 (fI:=420) (by kernel_rfl) (by kernel_rfl) (by kernel_rfl) fun x dx=>?_)
 refine H8 rfl rfl rfl (names:=[st "self",st "items"]) (by kernel_rfl) rfl (R3 fun u_ u_=>by kernel_rfl) fun gs=>f9 gs ?_
 intro e
 refine l7 1 rfl rfl (jv2 rfl) rfl ?_
 refine .inr fun sd=>?_
 refine l7 2 rfl rfl (jv2 rfl) rfl ?_
 refine .inr fun op=>?_
 refine l7 3 rfl rfl (jv2 rfl) rfl ?_
 refine ⟨_,b0,?_⟩
 refine j8 gs V.dat (T.map Sg.item++v7 lined) (fun l ρ H'=>∃ T1 T2,ρ=[(st "self",.ref x),(st "items",.dat (.list (T.map Sg.item++v7 lined)))]∧T=T1++T2∧(l=T2.map Sg.item++v7 lined∨T2=[]∧l=[])∧H'=dz0 x dx e sd op [] T1 [] H) rfl ?_ ?_ ?_
 ·exact ⟨[],T,rfl,rfl,.inl rfl,rfl⟩
 ·(intro N hN hE d l ρ1 H1 yz;(refine oEE yz ?_;clear yz;rintro T1 T2 y;refine G9 y ?_;clear y;rintro rfl hT hh rfl))
  rcases hh with hh | ⟨_,hh⟩
  ·induction T2 using Qh with
   | nil =>
    induction lined using Qd with
    | none=>cases hh
    | some nm =>
     (injection hh with i j;subst j;subst i)
     refine ⟨fun e=>absurd (p7 e) (by decide),fun u_=>?_⟩
     exact hN _ _ _ ⟨_,.all (ρ:=[(st "self",.ref x),(st "items",.dat (.list (T.map Sg.item++v7 (some nm))))]) ⟨rfl,rfl,trivial⟩,T1,[],rfl,hT,.inr ⟨rfl,rfl⟩,rfl⟩
   | cons g T2 =>
    (injection hh with i j;subst j;subst i)
    refine ⟨fun u_=>?_,fun e=>absurd rfl (r8 e)⟩
    have mg:g∈T:=by refine a5 hT ?_;exact jv7 _ jv0
    have hlen:=W.len
    rw [hT] at hlen
    refine j0 (j6 3 rfl (by kernel_rfl)) rfl ?_
    refine fz4 (by simp at hlen;exact d6 [_,_] 1 (.add zA (.add zB nA)) (.num 1000) zA (.num 1000) tT hlen) (hf T1 g T2 hT) (W.at_ g mg).2 (W.abs g mg) ?_
    exact hN _ _ _ ⟨_,.all (ρ:=[(st "self",.ref x),(st "items",.dat (.list (T.map Sg.item++v7 lined)))]) ⟨rfl,rfl,trivial⟩,T1++[g],T2,rfl,by simp [hT],.inl rfl,rfl⟩
  ·cases hh
 ·(intro ρ1 H1 yz;(refine oEE yz ?_;clear yz;rintro T1 T2 y;refine G9 y ?_;clear y;rintro rfl hT hh rfl))
  have e2:T2=[]:=by
   rcases hh with hh | ⟨h,_⟩
   ·induction T2 using Qh with
    | nil=>rfl
    | cons g T2=>cases hh
   ·exact h
  subst e2
  rw [kq4] at hT
  subst hT
  refine W0 (H':=[(sd,.lst (a6 (T.map Sg.name))),(e,.dct (s7 T))]++([(op,.lst []),(x,.inst 571 dx [(st "entries",.ref e),(st "stands",.ref sd),(st "opened",.ref op)])]++H)) ((List.Perm.swap _ _ _).trans (.cons _ (.swap _ _ _))) ?_
  refine az0 (H1:=aq5 x dx op [] T [] H) (ρ1:=[(st "self",.ref x),(st "items",.dat (.list (T.map Sg.item++v7 lined)))]) (.same (.inst (.cons (.dct (by simp)) (.cons (.lst (by exact jv0)) (.cons .same .nil))) .refl)) (bq6 ⟨⟨_,rfl,.same⟩,⟨_,rfl,.same⟩,trivial⟩) ?_
  refine f9 gs ?_
  have S:SigAt w hb (aq5 x dx op [] T [] H) (.ref x) T:=⟨_,_,_,j6 1 rfl (by kernel_rfl),rfl,rfl,g7,rfl,rfl,l8⟩
  refine a9 (j6 1 rfl (by kernel_rfl)) rfl rfl ?_
  refine ⟨_,b0,q9 gs (fun g:Sg=>u8 g.name) T (by simp [a6,u8]) (fun N hN hE g hg=>?_) (f9 gs ?_)⟩
  ·refine (?_:w8 PW w hb _ _ _ _)
   refine S.do rfl ?_
   refine dq0 S (W.at_ g hg).1 (W.at_ g hg).2 (fun o ho=>(W.dir g hg o ho).1) (W.par g hg) ?_
   exact hN _ (.new rfl)
  refine S.do rfl ?_
  refine bx4 S W.at_ (fun g hg o ho=>(W.dir g hg o ho).2) W.len hp ?_
  refine l7 1 rfl rfl (jv2 rfl) rfl ?_
  refine j0 (j6 1 rfl (by kernel_rfl)) rfl ?_
  refine dq2 W.known ?_
  refine l7 1 rfl rfl (jv2 rfl) rfl ?_
  refine j0 (j6 1 rfl (by kernel_rfl)) rfl ?_
  refine cx9 ?_
  refine ⟨_,b0,?_⟩
  refine j8 gs V.dat (T.map Sg.item++v7 lined) (fun l ρ H'=>ρ=[(st "self",.ref x),(st "items",.dat (.list (T.map Sg.item++v7 lined)))]∧((∃ T2,l=List.map Sg.item T2++v7 lined∧H'=aq5 x dx op (gz2 ord) T [] H)∨(l=[]∧H'=aq5 x dx op (gz2 ord) T (m5 lined) H))) rfl ?_ ?_ ?_
  ·exact ⟨rfl,.inl ⟨T,rfl,rfl⟩⟩
  ·rintro N hN hE d l ρ1 H1 ⟨rfl,hh⟩
   rcases hh with ⟨T2,hh,rfl⟩ | ⟨hh,_⟩
   ·induction T2 using Qh with
    | nil =>
     induction lined using Qd with
     | none=>cases hh
     | some nm =>
      (injection hh with i j;subst j;subst i)
      refine ⟨fun u_=>?_,fun e=>absurd rfl (r8 e)⟩
      refine (?_:w8 PW w hb _ _ _ _)
      refine j0 (j6 1 rfl (by kernel_rfl)) rfl ?_
      refine oE (hl nm rfl) fun g hg=>?_
      refine cw8 W.len hg ?_
      exact hN _ _ _ ⟨_,.all (ρ:=[(st "self",.ref x),(st "items",.dat (.list (T.map Sg.item++v7 (some nm))))]) ⟨rfl,rfl,trivial⟩,rfl,.inr ⟨rfl,rfl⟩⟩
    | cons g T2 =>
     (injection hh with i j;subst j;subst i)
     refine ⟨fun e=>absurd (p7 e) (by decide),fun u_=>?_⟩
     exact hN _ _ _ ⟨_,.all (ρ:=[(st "self",.ref x),(st "items",.dat (.list (T.map Sg.item++v7 lined)))]) ⟨rfl,rfl,trivial⟩,rfl,.inl ⟨T2,rfl,rfl⟩⟩
   ·cases hh
  ·rintro ρ1 H1 ⟨rfl,hh⟩
   refine f9 gs ?_
   have h5:H1=aq5 x dx op (gz2 ord) T (m5 lined) H:=by
    rcases hh with ⟨T2,hh,rfl⟩ | ⟨_,hh⟩
    ·induction lined using Qd with
     | none=>rfl
     | some nm=>exact absurd (congrArg List.length hh) (by simp [v7])
    ·exact hh
   subst h5
   exact ⟨rfl,[_,_],H,_,rfl,.inst (jv3 _ (jv4.mpr rfl)) (.cons .same (.cons .same (.cons (.lst (jv0 ..)) (.cons .same (.cons .same .nil))))),q⟩
end
end
section
section
variable {pG:Program} {w:World} {hb:Heap} {n:Nat} {X:Xs} {H:HL}
theorem dk2 {d:V} {kvs:List (Str × PyData)} {K:Value→Prop} (D:DctV pG w hb H d kvs) (k:K (.builtin "dict.get")):w8 pG w hb d "get" H K :=
 ak0 (fun A Z s v pl Q E y r q=>by
  (refine oE (D Z s v y r) ?_;intro a y;refine o4 y ?_;clear y;rintro es rfl h1 h2 h3)
  exact getMethod_builtin h1.mapOf.typeIs PySem.F.plainAttrs_dict PySem.F.slot_dict_get PySem.F.type_dict_get h1.mapOf.noDict q) (by kernel_rfl) k
noncomputable def fq9 (kvs:List (Str × PyData)) (k:Str) (o:V):V:=match kvs.lookup k with
 | some x=>.dat x
 | none=>o
theorem dz9 {d o rv:V} {kvs:List (Str × PyData)} {k:Str} {Q:VP} (D:DctV pG w hb H d kvs) (hv:fq9 kvs k o=rv) (q:Q rv H):Op pG w hb n X (RepV pG w) (fun vs=>call (.builtin "dict.get") vs) [d,.dat (.str k),o] H Q:=by
 refine .grow fun A Z s vs R E rm y rl kk=>?_
 (refine oE rl.inv3 ?_;intro v y;refine oE y ?_;clear y;intro u y;refine o4 y ?_;clear y;rintro t rfl r1 r2 r3)
 (refine oE r2.str ?_;rintro tk rfl)
 (refine oE (D Z s v y r1) ?_;intro a y;refine o4 y ?_;clear y;rintro es rfl h1 h2 h3)
 refine call_meetsIn PySem.F.slot_dict_get h1.typeIs PySem.F.entry_dict_get (PySem.F.args_dict_get_3 _ _ _) (meets_dict_get_default (strKind pG w) a (k:=k) (strKind_is ..) h3 t) ⟨_,h1.mapOf,?_⟩
 refine kk (h':=s.heap) (Sub.refl _) ?_ q
 refine p8 hv ?_
 unfold fq9
 generalize e:kvs.lookup k=y_;induction y_ using Qd with
 | some x =>
  refine c9 ((u9 h2).1 x e) fun xv hxv rx=>?_
  refine a5 hxv ?_
  exact .dat rx
 | none =>
  refine a5 ((u9 h2).2 e) ?_
  exact r3
end
end
section
structure Wf (T:List Sg) (ord:List Str) (tp:Str→Str):Prop extends WfT T ord where
 top:∀ x g,c0 T x=some g→(g.supers≠[]∧tp x="")∨(g.supers=[]∧tp x≠""∧∃ l,l.length≤1000∧Up (c0 T) x l∧tp x=(x::l).getLast (kj1 _ _))
 mem:∀ x g,c0 T x=some g→x∈ord
 noInt:c0 T "int"=none∧c0 T "Int"=none
 olen:ord.length≤1000
 small:∀ x g,c0 T x=some g→x.length≤1000
structure Told where
 ex:Bool
 num:Int
 sig:Str
noncomputable def Told.d (t:Told):PyData:=.tuple [.bool t.ex,.int t.num,.str t.sig]
noncomputable def Told.e (t:Told):Str × PyData:=(t.sig,.tuple [.bool t.ex,.int t.num])
noncomputable def l5 (dflt:Int) (ts:List Told):PyData:=.tuple [.int dflt,.tuple (ts.map Told.d)]
theorem w2 {T:List Sg} {x:Str} {g:Sg} (h:c0 T x=some g):g∈T∧g.name=x:=by
 unfold c0 at h
 have:=lv2 h
 exact ⟨kv2 h,(eq_of_beq this).symm⟩
theorem sle {s:Str} (h:Nat.ble s.length 1000=true):s.length≤1000:=jv2 h
theorem n9 {a b:Str} {i j:Nat} (ha:a.length≤i) (hb:b.length≤j):(a++b).length≤i+j:=by refine a5 (Str.length_append ..) ?_;exact i5 [_,_,_,_] 1 zA zB 1 zC zD (.add zC zA) (.add zD zB) tT hb ha
theorem up {s:Str} {i:Nat} (h:s.length≤i) (hi:i≤1000000:=by decide):s.length≤1000000:=jw9 h hi
theorem ak5 {l:List Str} {x:Str}:(l.any (· == x))=true ↔ x∈l:=by simp
section
variable {w:World} {hb:Heap} {n:Nat} {X:Xs} {H:HL}
theorem s8 {T:List Sg} {ord:List Str} {ops:List PyData}:OfC w hb H (x7 T ord ops) 571 (sigF T ord ops):=⟨Q3,by kernel_rfl⟩
theorem az2 {T:List Sg} {ord:List Str} {ops:List PyData}:SigAt w hb H (x7 T ord ops) T:=⟨_,_,_,s8,rfl,rfl,g7,rfl,rfl,l8⟩
theorem ax8 {T:List Sg} {ord:List Str} {tp:Str→Str} {ops:List PyData} {x:Str} {g:Sg} {Q:VP} (W:Wf T ord tp) (hg:c0 T x=some g) (q:Q (.dat (.str (tp x))) H) :
  Op PW w hb (n+3) X (RepV PW w) (fun vs=>call (.ref 526) vs) [x7 T ord ops,.dat (.str x)] H Q:=by
 have hs:=(W.at_ g (w2 hg).1).2
 (refine Qa (W.top x g hg) ?_ ?_;(intro yz;refine oA yz fun h1 h2=>?_);rotate_left;(intro yz;refine J7 yz fun h1 h2 y=>o9 y fun l h3 h4 h5=>?_);rotate_left)
 ·refine iv3 (l:=[]) (fun u_=>az2) hg hs (fun h=>absurd h h1) (kx0 _) ?_
  refine a5 (if_neg h1) (p8 h2 ?_)
  exact q
 ·refine iv3 (fun u_=>az2) hg hs (fun u_=>h4) h3 ?_
  refine a5 (if_pos h1) (p8 h5 ?_)
  exact q
noncomputable def dq5 (T:List Sg) (seen:List Str) (x:Str):Prop:=c0 T x=none∨(∃ g,c0 T x=some g∧g.supers≠[])∨x∈seen
noncomputable abbrev num3 (x dx tl:Addr) (sg:V) (df:Int) (told:List (Str × PyData)) (H:HL):HL:=(tl,.dct told)::(x,.inst 331 dx [(st "signatures",sg),(st "default",.dat (.int df)),(st "told",.ref tl)])::H
theorem s9 {l:List (Str × PyData)} {x:Str} (h:x∉l.map (·.1)):l.lookup x=none:=by
 generalize e:l.lookup x=y_;induction y_ using Qd with
 | none=>rfl
 | some v=>exact absurd (jv9.mpr ⟨_,l6 e,rfl⟩) h
theorem jk2 {T:List Sg} {ord:List Str} {tp:Str→Str} {ops:List PyData} {x dx tl:Addr} {df:Int} {ts:List Told} {t:Told} {Q:VP} (W:Wf T ord tp) (hl:ts.length≤1000) (hs:t.sig.length≤1000) (h0:0≤t.num)
  (hr:dq5 T (ts.map Told.sig) t.sig→X.ex) (q:¬dq5 T (ts.map Told.sig) t.sig→Q (.dat .none) (num3 x dx tl (x7 T ord ops) df ((ts++[t]).map Told.e) H)) :
  Op PW w hb (n+4) X (RepV PW w) (fun vs=>call (.ref 309) vs) [.ref x,.dat (.bool t.ex),.dat (.int t.num),.dat (.str t.sig)] (num3 x dx tl (x7 T ord ops) df (ts.map Told.e) H) Q:=by
 refine g8 rfl rfl rfl (names:=[st "self",st "is_exact",st "number",st "sig"]) (by kernel_rfl) rfl (ar4 fun u_ u_ u_ u_=>by kernel_rfl) fun gs=>?_
 have I:OfC w hb (num3 x dx tl (x7 T ord ops) df (ts.map Told.e) H) (.ref x) 331 _:=j6 1 rfl (by kernel_rfl)
 refine aq8 (ys:=["int","Int"]) (j5 rfl) ?_
 refine ⟨fun e=>?_,fun e=>?_⟩
 ·refine ⟨hr (.inl ?_),rfl,rfl,?_⟩
  ·simp at e
   refine Qa e (fun e=>?_) fun e=>?_
   ·refine p8 e ?_;exact W.noInt.1
   ·refine p8 e ?_;exact W.noInt.2
  ·exact rfl
 refine a9 I rfl rfl ?_
 refine j0 s8 rfl ?_
 refine cx8 s8 rfl W.olen ?_
 refine J5 eq8 ?_
 refine ⟨fun e=>?_,fun e=>?_⟩
 ·refine ⟨hr (.inl ?_),rfl,rfl,?_⟩
  ·cases e2:c0 T t.sig with
   | none=>rfl
   | some g=>rw [ak5.mpr (W.mem _ g e2)] at e;exact nb e
  ·have a1:(Str.empty++("no signature is called ":Str)).length≤1000:=sle (by kernel_rfl)
   exact ⟨up a1,up hs,up (n9 a1 hs),up (n9 a1 hs),rfl⟩
 refine oE (W.known t.sig (ak5.mp (by simpa only [lx5] using e))) fun g hg=>?_
 refine a9 I rfl rfl ?_
 refine j0 s8 rfl ?_
 refine ax8 W hg ?_
 have tops:=W.top _ _ hg
 refine ⟨fun e=>?_,fun e=>?_⟩
 ·refine ⟨hr (.inr (.inl ⟨g,hg,?_⟩)),rfl,rfl,?_⟩
  ·refine Qa tops (fun h=>?_) fun h=>?_
   ·exact h.1
   ·exact absurd (p7 e) h.2.1
  ·have a1:(Str.empty++t.sig).length≤0+1000:=n9 (jw4 _) hs
   have a2:(Str.empty++t.sig++(" is a part of others, so it has no number":Str)).length≤0+1000+1000:=n9 a1 (sle (by kernel_rfl))
   exact ⟨up hs,up a1,up a2,up a2,rfl⟩
 have hsup:g.supers=[]:=by
  refine Qa tops (fun h=>?_) fun h=>?_
  ·exact absurd h.2 (r8 e)
  ·exact h.1
 refine a9 I rfl rfl ?_
 refine U9 (x5 0 rfl) ?_
 refine ⟨fun e=>?_,fun e=>?_⟩
 ·refine ⟨hr (.inr (.inr ?_)),rfl,rfl,?_⟩
  ·rw [kk5] at e
   (refine oE e ?_;clear e;intro v hv)
   refine c9 (jv9.mp (l6 hv)) fun u hu he=>?_
   refine jv9.mpr ⟨u,hu,?_⟩
   exact congrArg Prod.fst he
  ·have a1:(Str.empty++("two numbers are told for ":Str)).length≤1000:=sle (by kernel_rfl)
   exact ⟨up a1,up hs,up (n9 a1 hs),up (n9 a1 hs),rfl⟩
 have hno:(ts.map Told.e).lookup t.sig=none:=by simpa using e
 refine ⟨fun e=>?_,fun u_=>?_⟩
 ·exact absurd (of_decide_eq_true e) (by exact lx8.mpr (F0 [_] 1 (.num 0) zA (.num 0) zA tT h0))
 refine a9 I rfl rfl ?_
 refine u6 (i:=0) rfl (by simp;exact ul hl tT) ?_
 refine a5 (F5 hno) ?_
 have nb:¬dq5 T (ts.map Told.sig) t.sig:=by
  rintro (h | ⟨g',h,h'⟩ | h)
  ·rw [hg] at h;exact ns h
  ·rw [hg] at h;(injection h with i;subst i);exact h' hsup
  ·refine c9 (jv9.mp h) fun u hu he=>?_
   have:=List.lookup_eq_none_iff.mp hno _ (jv9.mpr ⟨u,hu,rfl⟩)
   simp [Told.e,he] at this
 have q:=q nb
 rw [kq0] at q
 exact q
noncomputable def N7 (T:List Sg):List Str→List Told→Prop
 | _,[]=>False
 | seen,t::ts=>dq5 T seen t.sig∨N7 T (seen++[t.sig]) ts
noncomputable def dj2:Option Str→List (Str × PyData)
 | some n=>[(n,.bool true)]
 | none=>[]
noncomputable def numF (T:List Sg) (ord:List Str) (ops:List PyData) (df:Int) (ts:List Told) (lined:Option Str):List (Str × V):=[(st "signatures",x7 T ord ops),(st "default",.dat (.int df)),(st "told",.dct (ts.map Told.e)),(st "ordered",.dct (dj2 lined))]
noncomputable def bz2 (T:List Sg) (ord:List Str) (ops:List PyData) (df:Int) (ts:List Told) (lined:Option Str):V:=.inst 331 (numF T ord ops df ts lined)
noncomputable abbrev num4 (x dx tl oo:Addr) (sg:V) (df:Int) (told os:List (Str × PyData)) (H:HL):HL:=(oo,.dct os)::(tl,.dct told)::(x,.inst 331 dx [(st "signatures",sg),(st "default",.dat (.int df)),(st "told",.ref tl),(st "ordered",.ref oo)])::H
theorem fz8 {T:List Sg} {ord:List Str} {tp:Str→Str} {df:Int} {ts:List Told} {lined:Option Str} {Q:VP} (W:Wf T ord tp) (hl:ts.length≤1000) (hs:∀ t∈ts,t.sig.length≤1000∧0≤t.num)
  (hli:∀ x,lined=some x→∃ g,c0 T x=some g) (hr:N7 T [] ts→X.ex) (hr2:∀ x,lined=some x→tp x≠x→X.ex)
  (q:¬N7 T [] ts→(∀ x,lined=some x→tp x=x)→Q (bz2 T ord (m5 lined) (if df ≥ 0 then df else 3) ts lined) H) :
  Op PW w hb (n+6) X (RepV PW w) (fun vs=>call (.ref 331) vs) [x7 T ord (m5 lined),.dat (l5 df ts)] H Q:=by
 refine h8 (J6 (fI:=302) (by kernel_rfl) (by kernel_rfl) (by kernel_rfl) fun x dx=>?_)
 refine H8 rfl rfl rfl (names:=[st "self",st "signatures",st "scope"]) (by kernel_rfl) rfl (ar3 fun u_ u_ u_=>by kernel_rfl) fun gs=>f9 gs ?_
 refine l7 0 rfl rfl (jv2 rfl) rfl ?_
 have main:∀ d:Int,(d=if df ≥ 0 then df else 3)→wpS PW w hb (U6 (j9 22 0)) (n+4) X 58 [(st "self",.ref x),(st "signatures",x7 T ord (m5 lined)),(st "scope",.dat (l5 df ts))] ((u7 (j9 22 0)).drop 2) ((x,.inst 331 dx [(st "signatures",x7 T ord (m5 lined)),(st "default",.dat (.int d))])::H) (aj2 fun d H'=>d=.dat .none∧∃ Hs H0 d',H'=Hs++H0∧Fz Hs (.ref x) d'∧Q d' H0):=by
  intro d hd
  intro tl
  refine l7 1 rfl rfl (jv2 rfl) rfl ?_
  refine ⟨_,d9 rfl,?_⟩
  refine j8 gs (fun t:Told=>V.dat t.d) ts (fun l ρ H'=>ρ=[(st "self",.ref x),(st "signatures",x7 T ord (m5 lined)),(st "scope",.dat (l5 df ts))]∧∃ t1,ts=t1++l∧H'=num3 x dx tl (x7 T ord (m5 lined)) d (t1.map Told.e) H∧(N7 T [] ts ↔ N7 T (t1.map Told.sig) l)) (by exact jw5 ..) ?_ ?_ ?_
  ·exact ⟨rfl,[],rfl,rfl,Iff.rfl⟩
  ·rintro N hN hE t l ρ1 H1 ⟨rfl,t1,ht,rfl,hR⟩
   have mt:t∈ts:=by refine a5 ht ?_;exact jv7 _ jv0
   have hlen:t1.length≤1000:=by rw [ht] at hl;simp at hl;exact d6 [_,_] 1 (.add zA (.add zB nA)) (.num 1000) zA (.num 1000) tT hl
   refine (?_:w8 PW w hb _ _ _ _)
   refine j0 (j6 1 rfl (by kernel_rfl)) rfl ?_
   refine jk2 W hlen (hs t mt).1 (hs t mt).2 (fun hbad=>hr (hR.mpr (.inl hbad))) fun hn=>?_
   refine hN _ _ _ ⟨_,.all (ρ:=[(st "self",.ref x),(st "signatures",x7 T ord (m5 lined)),(st "scope",.dat (l5 df ts))]) ⟨rfl,rfl,rfl,trivial⟩,rfl,t1++[t],by simp [ht],rfl,hR.trans ?_⟩
   refine a5 kq0 ?_
   exact ⟨fun h=>h.resolve_left hn,.inr⟩
  ·rintro ρ1 H1 ⟨rfl,t1,ht,rfl,hR⟩
   rw [kq4] at ht
   subst ht
   refine f9 gs ?_
   intro oo
   refine l7 2 rfl rfl (jv2 rfl) rfl ?_
   refine j0 s8 rfl ?_
   refine cw9 s8 rfl (by cases lined <;> simp [m5]) ?_
   refine ⟨_,b0,?_⟩
   induction lined using Qd with
   | none =>
    refine f9 gs ?_
    exact ⟨rfl,[_,_,_],H,_,rfl,.inst (jv3 _ (jv3 _ (jv4.mpr rfl))) (.cons .same (.cons .same (.cons (.dct (jv3 _ (jv0 ..))) (.cons (.dct (jv0 ..)) .nil)))),hd▸q (fun h=>hR.mp h) (fun _=>nn)⟩
   | some nm =>
    refine oE (hli nm rfl) fun g hg=>?_
    refine j8 gs (fun _:Unit=>V.dat (.tuple [.str "o",.str nm])) [()] (fun l ρ H'=>ρ=[(st "self",.ref x),(st "signatures",x7 T ord (m5 (some nm))),(st "scope",.dat (l5 df ts))]∧((l=[()]∧H'=num4 x dx tl oo (x7 T ord (m5 (some nm))) d (ts.map Told.e) [] H)∨(l=[]∧tp nm=nm∧H'=num4 x dx tl oo (x7 T ord (m5 (some nm))) d (ts.map Told.e) [(nm,.bool true)] H))) rfl ?_ ?_ ?_
    ·exact ⟨rfl,.inl ⟨rfl,rfl⟩⟩
    ·rintro N hN hE u l ρ1 H1 ⟨rfl,⟨h,rfl⟩ | ⟨h,_⟩⟩
     ·(injection h with i j;subst j;subst i)
      refine (?_:w8 PW w hb _ _ _ _)
      refine j0 s8 rfl ?_
      refine ax8 W hg ?_
      refine ⟨fun e=>?_,fun e=>?_⟩
      ·refine ⟨hr2 nm rfl (G3 e),rfl,rfl,?_⟩
       have hn:=W.small _ _ hg
       have a1:(Str.empty++("o":Str)).length≤1000:=sle (by kernel_rfl)
       have a2:=n9 a1 (sle (s:=(" orders ":Str)) (by kernel_rfl))
       have a3:=n9 a2 hn
       have a4:=n9 a3 (sle (s:=(", which is no signature at the top":Str)) (by kernel_rfl))
       exact ⟨up (sle (by kernel_rfl)),up a1,up a2,up hn,up a3,up a4,up a4,rfl⟩
      ·refine a9 (j6 2 rfl (by kernel_rfl)) rfl rfl ?_
       refine u6 (i:=0) rfl (by exact kx0 _) ?_
       exact hN _ _ _ ⟨_,.all (ρ:=[(st "self",.ref x),(st "signatures",x7 T ord (m5 (some nm))),(st "scope",.dat (l5 df ts))]) ⟨rfl,rfl,rfl,trivial⟩,rfl,.inr ⟨rfl,I5 e,rfl⟩⟩
     ·cases h
    ·rintro ρ1 H1 ⟨rfl,⟨h,_⟩ | ⟨_,ht,rfl⟩⟩
     ·cases h
     refine f9 gs ?_
     exact ⟨rfl,[_,_,_],H,_,rfl,.inst (jv3 _ (jv3 _ (jv4.mpr rfl))) (.cons .same (.cons .same (.cons (.dct (jv3 _ (jv0 ..))) (.cons (.dct (jv0 ..)) .nil)))),hd▸q (fun h=>hR.mp h) (fun y hy=>by (injection hy with i;subst i);exact ht)⟩
 refine ⟨fun e=>?_,fun e=>?_⟩
 ·refine l7 0 rfl rfl (jv2 rfl) rfl ?_
  refine main df ?_
  exact a5 (if_pos (of_decide_eq_true e)) rfl
 ·refine l7 0 rfl rfl (jv2 rfl) rfl ?_
  refine main 3 ?_
  exact a5 (if_neg (of_decide_eq_false e)) rfl
end
end
section
noncomputable def z4 (T:List Sg) (x:Str):List Sg:=T.filter fun g=>decide (g.parent=x)
noncomputable def J0 (l:List Sg):Bool:=l.all fun g=>g.mult == "one"
noncomputable def w7 (T:List Sg) (df:Int) (g:Sg):Int:=if g.abs=true∧z4 T g.name≠[]∧J0 (z4 T g.name)=true then (z4 T g.name).length else df
noncomputable def p9 (ts:List Told) (x:Str):Option Told:=ts.find? fun t=>x == t.sig
theorem P5 {ts:List Told} {x:Str}:(ts.map Told.e).lookup x=(p9 ts x).map fun t=>.tuple [.bool t.ex,.int t.num]:=by
 induction ts with
 | nil=>rfl
 | cons t ts ih =>
  rw [kx1,kq2]
  unfold p9 at ih ⊢
  refine a5 (kw0) ?_
  refine (?_:(match x == t.sig with | true=>_ | false=>_)=_)
  cases x == t.sig with
  | true=>rfl
  | false=>exact ih
noncomputable def G1 (T:List Sg) (df:Int) (ts:List Told) (g:Sg):Bool × Int:=match p9 ts g.name with
 | some t=>(t.ex,t.num)
 | none=>(false,w7 T df g)
noncomputable def J9 (T:List Sg) (df:Int) (ts:List Told) (lined:Option Str) (g:Sg):Bool × Int :=
 if g.mult="one" then (true,1) else ((G1 T df ts g).1||decide (lined=some g.name),if g.mult="lone" then (if 1<(G1 T df ts g).2 then 1 else (G1 T df ts g).2) else (G1 T df ts g).2)
noncomputable def cz2 (ts:List Told) (g:Sg):Prop:=g.mult="one"∧∃ t,p9 ts g.name=some t∧t.num≠1
theorem ek6:∀ n:Fin 10,Nat.ble (Str.ofString (toString ((n.val:Nat):Int))).length 1000=true:=by decide +kernel
theorem J4 {i:Int} (h0:0≤i) (h9:i≤9):(Str.ofString (toString i)).length≤1000:=by
 refine p8 (Int.toNat_of_nonneg h0) ?_
 exact jv2 (ek6 ⟨i.toNat,(Int.toNat_lt h0).mpr (kk8 h9 (by decide))⟩)
section
variable {w:World} {hb:Heap} {n:Nat} {X:Xs} {H:HL} {T:List Sg} {ord:List Str} {tp:Str→Str} {ops:List PyData} {df:Int} {ts:List Told} {lined:Option Str}
theorem E3:OfC w hb H (bz2 T ord ops df ts lined) 331 (numF T ord ops df ts lined):=⟨Q3,by kernel_rfl⟩
theorem dv6 {l:List Sg}:J0 l=decide (l.filterMap (fun g=>if g.mult=("one":Str) then none else some (PyData.str g.name))=[]):=by
 induction l with
 | nil=>rfl
 | cons g l ih =>
  unfold J0 at ih ⊢
  refine a5 mj9 (a5 ih (a5 kq5 ?_))
  by_cases h:g.mult="one" <;> simp [h]
theorem iz1 {x:Str} {g:Sg} {Q:VP} (W:Wf T ord tp) (hg:c0 T x=some g) (hn:∀ g∈T,Sh 0 (.str g.name)) (q:Q (.dat (.int (w7 T df g))) H) :
  Op PW w hb (n+3) X (RepV PW w) (fun vs=>call (.ref 314) vs) [bz2 T ord ops df ts lined,.dat (.str x)] H Q:=by
 (refine oA (w2 hg) ?_;rintro mg rfl)
 refine g8 rfl rfl rfl (names:=[st "self",st "sig"]) (by kernel_rfl) rfl (R3 fun u_ u_=>by kernel_rfl) fun gs=>?_
 refine a9 E3 rfl rfl ?_
 refine j0 s8 rfl ?_
 refine dk7 az2 s8 rfl (fun g hg=>(W.at_ g hg).1) W.len ?_
 have hk:(z4 T g.name).length≤1000:=jw9 (kv3 _ _) W.len
 have u1:∀ {P:Prop},(¬(g.abs=true∧z4 T g.name≠[]∧J0 (z4 T g.name)=true))→Q (.dat (.int df)) H:=fun h=>by
  unfold w7 at q
  rwa [if_neg h] at q
 refine a9 E3 rfl rfl ?_
 refine j0 s8 rfl ?_
 refine c_abs az2 hg ?_
 refine ⟨fun ea=>?_,fun ea=>?_⟩
 ·refine j7 d5 (by show (((a6 ((z4 T g.name).map Sg.name)).map V.dat).length)<_;simp [a6];lia) ?_
  refine (?_:(decide ((((a6 ((z4 T g.name).map Sg.name)).map V.dat).length:Int) > 0)=true→_)∧(decide ((((a6 ((z4 T g.name).map Sg.name)).map V.dat).length:Int) > 0)=false→_))
  refine a5 cq7 ?_
  refine ⟨fun ek=>?_,fun ek=>?_⟩
  ·have hne:z4 T g.name≠[]:=fun h=>by rw [h] at ek;exact nb ek
   refine ⟨fun u_=>?_,nt⟩
   refine ⟨H,_,.same,b0,by refine (?_:(((a6 ((z4 T g.name).map Sg.name)).map V.dat).length)≤_);simp [a6];exact ul hk tT,?_⟩
   refine d4 (fun g:Sg=>u8 g.name) (z4 T g.name) (fun g=>if g.mult=("one":Str) then none else some (.str g.name)) (by refine (?_:((a6 ((z4 T g.name).map Sg.name)).map V.dat)=_);simp [a6,u8]) (by kernel_rfl) (fun k hk=>?_) ?_
   ·refine ⟨.new rfl,?_⟩
    refine a9 E3 rfl rfl ?_
    refine j0 s8 rfl ?_
    refine gw9 az2 (W.at_ k (kj0.mp hk).1).1 ?_
    exact ⟨fun e=>⟨rfl,_,rfl,if_neg (G3 e)⟩,fun e=>⟨rfl,if_pos (I5 e)⟩⟩
   ·refine ⟨rfl,.inl ?_⟩
    refine .inl ?_
    refine az6 (Sh.list (k:=0) fun z hz=>?_).shaped rfl ?_
    ·refine c9 (lq0.mp hz) fun k h1 h2=>?_
     split at h2
     ·exact nn h2
     ·(injection h2 with i;subst i);exact hn k (kj0.mp h1).1
    refine a5 (M1 ..) (p8 (dv6 ..) ?_)
    refine ⟨fun e1=>?_,fun e1=>?_⟩
    ·refine j7 d5 (by refine (?_:(((a6 ((z4 T g.name).map Sg.name)).map V.dat).length)<_);simp [a6];exact d6 [_] 1 zA (.num 1000) (.add zA nA) (.num 4611686018427387904) tT hk) ?_
     refine as ?_ q
     unfold w7
     refine a5 (if_pos ⟨ea,hne,e1⟩) ?_
     refine (?_:V.dat (.int (((a6 ((z4 T g.name).map Sg.name)).map V.dat).length:Int))=_)
     simp [a6]
    ·refine a9 E3 rfl rfl ?_
     exact u1 (P:=True) fun h=>by rw [h.2.2] at e1;exact nt e1
  ·refine ⟨nb,fun u_=>?_⟩
   refine a9 E3 rfl rfl ?_
   exact u1 (P:=True) fun h=>by
    have:=of_decide_eq_false ek
    exact this fun h'=>h.2.1 (List.map_eq_nil_iff.mp h')
 ·refine ⟨nb,fun u_=>?_⟩
  refine a9 E3 rfl rfl ?_
  exact u1 (P:=True) fun h=>by rw [h.1] at ea;exact nt ea
theorem c_lot {x:Str} {g:Sg} {Q:VP} (W:Wf T ord tp) (hg:c0 T x=some g) (hn:∀ g∈T,Sh 0 (.str g.name)) (h9:∀ t∈ts,0≤t.num∧t.num≤9) (hr:cz2 ts g→X.ex) (q:¬cz2 ts g→Q (.dat (.tuple [.bool (J9 T df ts lined g).1,.int (J9 T df ts lined g).2])) H) :
  Op PW w hb (n+4) X (RepV PW w) (fun vs=>call (.ref 321) vs) [bz2 T ord ops df ts lined,.dat (.str x)] H Q:=by
 (refine oA (w2 hg) ?_;rintro mg rfl)
 refine g8 rfl rfl rfl (names:=[st "self",st "sig"]) (by kernel_rfl) rfl (R3 fun u_ u_=>by kernel_rfl) fun gs=>?_
 refine a9 E3 rfl rfl ?_
 refine dk2 g7 ?_
 refine j0 E3 rfl ?_
 refine iz1 W hg hn ?_
 obtain ⟨pe,pm,hp⟩:∃ pe pm,G1 T df ts g=(pe,pm):=⟨_,_,rfl⟩
 have e1:fq9 (ts.map Told.e) g.name (.dat (.tuple [.bool false,.int (w7 T df g)]))=.dat (.tuple [.bool pe,.int pm]):=by
  unfold fq9
  refine a5 P5 ?_
  unfold G1 at hp
  cases e:p9 ts g.name with
  | none=>rw [e] at hp;(injection hp with i j;subst j;subst i);rfl
  | some t=>rw [e] at hp;(injection hp with i j;subst j;subst i);rfl
 refine dz9 g7 e1 ?_
 refine a9 E3 rfl rfl ?_
 refine j0 s8 rfl ?_
 refine gw9 az2 hg ?_
 refine ⟨fun em=>?_,fun em=>?_⟩
 ·have em:=p7 em
  have fin:¬cz2 ts g→Q (.dat (.tuple [.bool true,.int 1])) H:=fun h=>by
   have:=q h
   unfold J9 at this
   rwa [if_pos em] at this
  refine a9 E3 rfl rfl ?_
  refine U9 g7 ?_
  refine a5 P5 ?_
  refine ⟨fun e=>?_,fun e=>?_⟩
  ·obtain ⟨t,ht⟩:∃ t,p9 ts g.name=some t:=by
    cases e2:p9 ts g.name with
    | none=>rw [e2] at e;exact nb e
    | some t=>exact ⟨t,rfl⟩
   have e3:pm=t.num:=by unfold G1 at hp;rw [ht] at hp;(injection hp with i j;subst j;subst i);rfl
   refine ⟨fun e=>?_,fun e=>?_⟩
   ·refine ⟨fun u_=>?_,nt⟩
    refine ⟨hr ⟨em,t,ht,?_⟩,rfl,rfl,?_⟩
    ·refine p8 e3 ?_;simpa using e
    ·have hs:=W.small _ _ hg
     have mt:t∈ts:=kv2 ht
     have a0:(Str.empty++g.name).length≤0+1000:=n9 (jw4 _) hs
     have a1:=n9 a0 (sle (s:=(" is just one, not ":Str)) (by kernel_rfl))
     have a2:=n9 a1 (J4 (h9 t mt).1 (h9 t mt).2)
     refine a5 e3 ?_
     exact ⟨up hs,up a0,up a1,⟨by have:=h9 t mt;lia,up a2,up a2,rfl⟩⟩
   ·refine ⟨nb,fun u_=>?_⟩
    exact fin fun ⟨_,t',ht',hne⟩=>by
     rw [ht] at ht';(injection ht' with i;subst i)
     rw [e3] at e
     exact hne (by simpa using e)
  ·refine ⟨nb,fun u_=>?_⟩
   exact fin fun ⟨_,t',ht',hne⟩=>by rw [ht'] at e;exact nt e
 ·have em:=r8 em
  have q:=q fun h=>em h.1
  unfold J9 at q
  rw [if_neg em,hp] at q
  dsimp only at q
  have lin:((dj2 lined).lookup g.name).isSome=decide (lined=some g.name):=by
   induction lined using Qd with
   | none=>rfl
   | some y =>
    unfold dj2
    refine a5 kq2 ?_
    by_cases h:y=g.name
    ·subst h;simp
    ·refine a5 (beq_false_of_ne (Ne.symm h)) ?_
     simp [h]
  refine ⟨fun el=>?_,fun el=>?_⟩
  ·rw [if_pos (p7 el)] at q
   refine jq7 ?_
   refine ⟨fun e=>?_,fun e=>?_⟩
   ·refine as ?_ q
    subst e;rfl
   ·refine a9 E3 rfl rfl ?_
    refine U9 g7 ?_
    refine a5 lin ?_
    refine as ?_ q
    subst e;rfl
  ·rw [if_neg (r8 el)] at q
   refine ⟨fun e=>?_,fun e=>?_⟩
   ·refine as ?_ q
    subst e;rfl
   ·refine a9 E3 rfl rfl ?_
    refine U9 g7 ?_
    refine a5 lin ?_
    refine as ?_ q
    subst e;rfl
noncomputable def z8 (t:Told) (r:Int):PyData:=.tuple [.str (if t.ex then "eq" else "le"),.tuple [.str "count",.tuple [.str "rel",.int r]],.tuple [.str "num",.int t.num]]
noncomputable def cv4 (tp:Str→Str) (ts:List Told) (x:Str) (r:Int):PyData:=match p9 ts x with
 | some t=>if tp x=x then .none else z8 t r
 | none=>.none
theorem fz6 {x:Str} {g:Sg} {r:Int} {Q:VP} (W:Wf T ord tp) (hg:c0 T x=some g) (q:Q (.dat (cv4 tp ts x r)) H) :
  Op PW w hb (n+4) X (RepV PW w) (fun vs=>call (.ref 328) vs) [bz2 T ord ops df ts lined,.dat (.str x),.dat (.int r)] H Q:=by
 refine g8 rfl rfl rfl (names:=[st "self",st "sig",st "r"]) (by kernel_rfl) rfl (ar3 fun u_ u_ u_=>by kernel_rfl) fun gs=>?_
 refine a9 E3 rfl rfl ?_
 refine P9 g7 ?_
 refine a5 P5 ?_
 unfold cv4 at q
 generalize ht:p9 ts x=y_;induction y_ using Qd with
 | none =>
  rw [ht] at q
  refine ⟨Mine.nt,fun u_=>⟨fun u_=>q,nt⟩⟩
 | some t =>
  rw [ht] at q
  dsimp only at q
  refine ⟨fun u_=>?_,Mine.nb⟩
  refine a9 E3 rfl rfl ?_
  refine j0 s8 rfl ?_
  refine ax8 W hg ?_
  refine ⟨fun e=>?_,fun e=>?_⟩
  ·refine ⟨nb,fun u_=>?_⟩
   refine a9 E3 rfl rfl ?_
   refine g9 g7 ((P5.trans (congrArg _ ht)).trans rfl) ?_
   have q:Q (.dat (z8 t r)) H:=by
    rw [if_neg (r8 e)] at q
    exact q
   unfold z8 at q
   refine ⟨fun e=>?_,fun e=>?_⟩
   ·rw [if_pos e] at q;exact q
   ·rw [if_neg (by refine a5 e ?_;nofun)] at q;exact q
  ·refine ⟨fun u_=>?_,nt⟩
   rw [if_pos (p7 e)] at q
   exact q
end
end
section
noncomputable def k7 (l:List Int):PyData:=.tuple (l.map fun i=>.tuple [.int i])
noncomputable def E6 (lo m:Nat):List Int:=(Qg m).map fun k=>((lo+k:Nat):Int)
noncomputable def T6 (x:Str) (k:Nat):Str:=x++"$"++Str.ofString (toString (k:Int))
theorem hz0 {x:Str} {k:Nat}:T6 x k=Str.empty++x++"$"++Str.ofString (toString (0+(k:Int))):=by
 refine a5 (kw5 ..) ?_;unfold T6;exact a5 (Str.empty_append ..) rfl
structure At where
 names:List Str
 lots:List (Str × List Int)
 sure:List (Str × List Int)
noncomputable def At.put (a:At) (x:Str) (p:Bool × Int):At:=⟨a.names++(Qg p.2.toNat).map (T6 x),a.lots++[(x,E6 a.names.length p.2.toNat)],a.sure++[(x,if p.1 then E6 a.names.length p.2.toNat else [])]⟩
noncomputable def m8 (l:List (Str × List Int)):List (Str × PyData):=l.map fun p=>(p.1,k7 p.2)
noncomputable def J8 (T:List Sg) (df:Int) (ts:List Told) (lined:Option Str) (x:Str):Bool × Int:=match c0 T x with
 | some g=>J9 T df ts lined g
 | none=>(false,0)
noncomputable def l9 (T:List Sg) (tp:Str→Str) (df:Int) (ts:List Told) (lined:Option Str):List Str→At→At
 | [],a=>a
 | x::l,a=>l9 T tp df ts lined l (if tp x=x then a.put x (J8 T df ts lined x) else a)
noncomputable def cz3 (T:List Sg) (tp:Str→Str) (ts:List Told) (ord:List Str):Prop:=∃ x∈ord,tp x=x∧∃ g,c0 T x=some g∧cz2 ts g
section
variable {w:World} {hb:Heap} {n:Nat} {X:Xs} {H:HL} {T:List Sg} {ord:List Str} {tp:Str→Str} {df:Int} {ts:List Told} {lined:Option Str}
noncomputable def scoF (T:List Sg) (ord:List Str) (lined:Option Str):List (Str × V):=[(st "signatures",x7 T ord (m5 lined)),(st "kinds",.dat .none)]
noncomputable def cj8 (T:List Sg) (ord:List Str) (lined:Option Str):V:=.inst 402 (scoF T ord lined)
theorem R7:OfC w hb H (cj8 T ord lined) 402 (scoF T ord lined):=⟨Q3,by kernel_rfl⟩
noncomputable abbrev at3 (D E F:Addr) (a:At) (H:HL):HL:=(F,.dct (m8 a.sure))::(E,.dct (m8 a.lots))::(D,.lst (a6 a.names))::H
theorem iz8 {Q:VP} (W:Wf T ord tp) (hn:∀ g∈T,Sh 0 (.str g.name)) (h9:∀ t∈ts,0≤t.num∧t.num≤9) (hlot:∀ g∈T,0≤(J9 T df ts lined g).2∧(J9 T df ts lined g).2≤9) (ho:ord.length≤50) (hnd:ord.Nodup)
  (hr:cz3 T tp ts ord→X.ex) (q:¬cz3 T tp ts ord→Q (.tup [.dat (.list (a6 (l9 T tp df ts lined ord ⟨[],[],[]⟩).names)),.dct (m8 (l9 T tp df ts lined ord ⟨[],[],[]⟩).lots),.dct (m8 (l9 T tp df ts lined ord ⟨[],[],[]⟩).sure)]) H) :
  Op PW w hb (n+5) X (RepV PW w) (fun vs=>call (.ref 394) vs) [cj8 T ord lined,bz2 T ord (m5 lined) df ts lined] H Q:=by
 refine h8 (g8 rfl rfl rfl (names:=[st "self",st "numbers"]) (by kernel_rfl) rfl (R3 fun u_ u_=>by kernel_rfl) fun gs=>?_)
 intro D
 intro E F
 refine a9 R7 rfl rfl ?_
 refine j0 s8 rfl ?_
 refine cx8 s8 rfl W.olen ?_
 refine ⟨_,b0,?_⟩
 refine j8 gs u8 ord (fun l ρ H'=>ρ=[(st "sure",.ref F),(st "lots",.ref E),(st "names",.ref D),(st "self",cj8 T ord lined),(st "numbers",bz2 T ord (m5 lined) df ts lined)]∧∃ l1 a,ord=l1++l∧H'=at3 D E F a H∧l9 T tp df ts lined l a=l9 T tp df ts lined ord ⟨[],[],[]⟩∧a.names.length≤9 * l1.length∧(∀ x∈a.lots.map (·.1),x∈l1)∧a.lots.length≤l1.length∧a.sure.map (·.1)=a.lots.map (·.1)∧(cz3 T tp ts ord→cz3 T tp ts l)) i6 ?_ ?_ ?_
 ·exact ⟨rfl,[],⟨[],[],[]⟩,rfl,rfl,rfl,jw4 _,nofun,jw4 _,rfl,id⟩
 ·rintro N hN hE x l ρ1 H1 ⟨rfl,l1,a,hord,rfl,hat,hlen,hlk,hll,hsk,hbad⟩
  have mx:x∈ord:=by refine a5 hord ?_;exact jv7 _ jv0
  refine oE (W.known x mx) fun g hg=>?_
  refine oA (w2 hg) fun mg hgx=>?_
  refine a9 R7 rfl rfl ?_
  refine j0 s8 rfl ?_
  refine ax8 W hg ?_
  refine ⟨fun e=>?_,fun e=>?_⟩
  ·have e:=p7 e
   refine j0 E3 rfl ?_
   refine c_lot W hg hn h9 (fun hb'=>hr ⟨x,mx,e,g,hg,hb'⟩) fun hnb=>?_
   obtain ⟨pe,pm,hp⟩:∃ pe pm,J9 T df ts lined g=(pe,pm):=⟨_,_,rfl⟩
   have hpm:=hlot g mg
   rw [hp] at hpm ⊢
   obtain ⟨m,rfl⟩:∃ m:Nat,pm=m:=⟨pm.toNat,by lia⟩
   have ho1:l1.length≤50:=by rw [hord] at ho;simp at ho;exact d6 [_,_] 1 (.add zA (.add zB nA)) (.num 50) zA (.num 50) tT ho
   refine j7 (x4 2 rfl) (by simp [a6];exact i5 [_,_] 9 zA (.num 50) 1 zB (.mulL 9 zA) (.add zB nA) (.num 4611686018427387904) tT ho1 hlen) ?_
   refine ⟨fun e2=>?_,fun u_=>?_⟩
   ·exact absurd (of_decide_eq_true e2) (by simp [a6];lia)
   refine r7 ?_
   refine ⟨_,_,.same,m6 (by decide) (by exact li0 [] (.num 0) (.num 1000000) tT) (kv0 (by decide) (kx2 _)) (by refine (?_:(m:Int)≤_);lia),by simp [E7];lia,?_⟩
   refine d4 (fun k:Nat=>V.dat (.int (0+k))) (Qg m) (fun k=>some (.tuple [.int ((a.names.length+k:Nat):Int)])) (by rfl) (by kernel_rfl) (fun k hk=>?_) ?_
   ·refine ⟨.new rfl,⟨fun u_=>?_,nt⟩⟩
    refine j7 (x4 2 rfl) (by simp [a6];exact i5 [_,_] 9 zA (.num 50) 1 zB (.mulL 9 zA) (.add zB nA) (.num 4611686018427387904) tT ho1 hlen) ?_
    exact ⟨rfl,_,rfl,by simp [a6]⟩
   refine ⟨rfl,.inl ?_⟩
   have er:(Qg m).filterMap (fun k=>some (PyData.tuple [.int ((a.names.length+k:Nat):Int)]))=(E6 a.names.length m).map fun i=>.tuple [.int i]:=by
    simp [E6]
   refine a5 er ?_
   refine r6 l8 (by simp [E6];lia) ?_
   have hlo:J8 T df ts lined x=(pe,(m:Int)):=by unfold J8;refine a5 hg ?_;exact hp
   have hnl:x∉l1:=fun h=>by
    rw [hord,kq9] at hnd
    exact hnd.2.2 x h x (jv0 ..) rfl
   have hl0:(m8 a.lots).lookup x=none:=s9 (by
    intro h
    have:(m8 a.lots).map (·.1)=a.lots.map (·.1):=by exact jw5 ..
    rw [this] at h
    exact hnl (hlk x h))
   have hs0:(m8 a.sure).lookup x=none:=s9 (by
    intro h
    have:(m8 a.sure).map (·.1)=a.lots.map (·.1):=by refine p8 hsk ?_;exact jw5 ..
    rw [this] at h
    exact hnl (hlk x h))
   have hsl:a.sure.length=a.lots.length:=by have:=congrArg List.length hsk;simpa using this
   refine u6 (i:=1) rfl (by simp [m8];exact i5 [_,_] 1 zA (.num 50) 1 zB zA zB (.num 1000000) tT ho1 hll) ?_
   refine a5 (F5 hl0) ?_
   refine ⟨fun e3=>g9 (x5 1 rfl) (x:=k7 (E6 a.names.length m)) ?_ ?_,fun e3=>?_⟩
   ·refine (?_:(m8 a.lots++[(x,k7 (E6 a.names.length m))]).lookup x=_)
    refine a5 mq1 (a5 hl0 ?_)
    simp
   all_goals
    refine u6 (i:=0) rfl (by simp [m8];exact T5 [_,_,_] 1 zA zB 1 zC (.num 50) 1 zB zC zA (.num 1000000) tT (o7 hsl) ho1 hll) ?_
    refine a5 (F5 hs0) ?_
    refine ax5 2 rfl ?_
    refine r7 ?_
    refine ⟨_,_,.same,m6 (by decide) (by exact li0 [] (.num 0) (.num 1000000) tT) (kv0 (by decide) (kx2 _)) (by refine (?_:(m:Int)≤_);lia),by simp [E7];lia,?_⟩
    refine d4 (fun k:Nat=>V.dat (.int (0+k))) (Qg m) (fun k=>some (.str (T6 x k))) (by rfl) (by kernel_rfl) (fun k hk=>?_) ?_
    ·refine ⟨.new rfl,⟨fun u_=>?_,nt⟩⟩
     have hk':k<m:=kx9.mp hk
     have hs:=W.small _ _ hg
     have a0:(Str.empty++x).length≤0+1000:=n9 (jw4 _) hs
     have a1:=n9 a0 (sle (s:=("$":Str)) (by kernel_rfl))
     have a2:=n9 a1 (J4 (i:=0+(k:Int)) (by exact F0 [_] 1 (.num 0) zA (.num 0) (.add (.num 0) zA) tT (kx2 _)) (by lia))
     exact ⟨up hs,up a0,up a1,by lia,up a2,up a2,rfl,_,rfl,by rw [hz0]⟩
    refine ⟨rfl,.inl ?_⟩
    refine aq9 (i:=2) rfl (by simp [a6];lia) ?_
    have e3:pe=_:=e3
    refine hN _ _ _ ⟨_,.all (ρ:=[(st "sure",.ref F),(st "lots",.ref E),(st "names",.ref D),(st "self",cj8 T ord lined),(st "numbers",bz2 T ord (m5 lined) df ts lined)]) ⟨rfl,rfl,rfl,rfl,rfl,trivial⟩,rfl,l1++[x],a.put x (pe,m),by simp [hord],?_,?_,?_,?_,?_,?_,?_⟩
    ·simp [at3,At.put,e3,m8,k7,a6]
     try rfl
    ·rw [← hat];dsimp only [l9];rw [if_pos e,hlo]
    ·simp [At.put];lia
    ·intro y hy
     simp only [At.put,kq0,jw1,kx1,List.map_nil,jv4] at hy
     rcases hy with hy | rfl
     ·exact jv8 _ (hlk y hy)
     ·exact jv7 _ jv0
    ·simp [At.put];exact hll
    ·simp [At.put,hsk]
    ·intro hb1
     refine oE (hbad hb1) fun y yy=>oA yy fun hy yy=>oA yy fun ht yy=>c9 yy fun g' hg' hb2=>?_
     rcases jv6.mp hy with rfl | hy
     ·rw [hg] at hg';(injection hg' with i;subst i);exact absurd hb2 hnb
     ·exact ⟨y,hy,ht,g',hg',hb2⟩
  ·refine hN _ _ _ ⟨_,.all (ρ:=[(st "sure",.ref F),(st "lots",.ref E),(st "names",.ref D),(st "self",cj8 T ord lined),(st "numbers",bz2 T ord (m5 lined) df ts lined)]) ⟨rfl,rfl,rfl,rfl,rfl,trivial⟩,rfl,l1++[x],a,by simp [hord],rfl,?_,by simp;exact d6 [_,_] 1 zA (.mulL 9 zB) zA (.mulL 9 (.add zB nA)) tT hlen,fun y hy=>jv8 _ (hlk y hy),by simp;exact d6 [_,_] 1 zA zB zA (.add zB nA) tT hll,hsk,?_⟩
   ·rw [← hat];dsimp only [l9];rw [if_neg (r8 e)]
   ·intro hb1
    refine oE (hbad hb1) fun y yy=>oA yy fun hy yy=>oA yy fun ht yy=>c9 yy fun g' hg' hb2=>?_
    rcases jv6.mp hy with rfl | hy
    ·exact absurd ht (r8 e)
    ·exact ⟨y,hy,ht,g',hg',hb2⟩
 ·rintro ρ1 H1 ⟨rfl,l1,a,hord,rfl,hat,hlen,hlk,hll,hsk,hbad⟩
  refine f9 gs ?_
  have q:=q fun h=>by refine c9 (hbad h) fun y hy u_=>?_;cases hy
  rw [← hat] at q
  exact ⟨[_,_,_],H,_,rfl,.tup (.cons (.lst (jv3 _ (jv3 _ (jv4.mpr rfl)))) (.cons (.dct (jv3 _ (jv0 ..))) (.cons (.dct (jv0 ..)) .nil))),q⟩
end
end
section
noncomputable def g4 (l:List Str):List (Str × PyData):=l.zipIdx.map fun p=>(p.1,.int (p.2:Nat))
theorem V1 (l:List Str) (x:Str):g4 (l++[x])=g4 l++[(x,.int (l.length:Nat))]:=by simp [g4,mw4]
theorem E2 (l:List Str):(g4 l).map (·.1)=l:=by
 unfold g4
 refine a5 jw5 ?_
 exact List.zipIdx_map_fst 0 l
theorem x8 (l:List Str):(g4 l).length=l.length:=by simp [g4]
noncomputable def uniF (names:List Str):List (Str × V):=[(st "names",.dat (.tuple (a6 names))),(st "numbers",.dct (g4 names))]
noncomputable def dx0 (names:List Str):V:=.inst 207 (uniF names)
section
variable {w:World} {hb:Heap} {n:Nat} {X:Xs} {H:HL} {names:List Str}
theorem cz9:OfC w hb H (dx0 names) 207 (uniF names):=⟨Q3,by kernel_rfl⟩
theorem bk9 {Q:VP} (hl:names.length≤1000) (q:Q (.dat (.int names.length)) H) :
  Op PW w hb (n+1) X (RepV PW w) (fun vs=>call (.ref 176) vs) [dx0 names] H Q:=by
 refine g8 rfl rfl rfl (names:=[st "self"]) (by kernel_rfl) rfl (ar1 fun u_=>by kernel_rfl) fun gs=>?_
 refine a9 cz9 rfl rfl ?_
 refine j7 (j5 rfl) (by simp [a6];exact d6 [_] 1 zA (.num 1000) (.add zA nA) (.num 4611686018427387904) tT hl) ?_
 refine as ?_ q
 simp [a6]
theorem fz3 {Q:VP} {k:Nat} {x:Str} (hl:names.length≤1000) (hk:names[k]?=some x) (q:Q (.dat (.str x)) H) :
  Op PW w hb (n+1) X (RepV PW w) (fun vs=>call (.ref 183) vs) [dx0 names,.dat (.int k)] H Q:=by
 refine g8 rfl rfl rfl (names:=[st "self",st "a"]) (by kernel_rfl) rfl (R3 fun u_ u_=>by kernel_rfl) fun gs=>?_
 refine a9 cz9 rfl rfl ?_
 have hlt:k<names.length:=by
  by_cases h:k<names.length
  ·exact h
  ·rw [kz3 (by exact (kx8 h))] at hk;exact nn hk
 refine o8 (k:=k) (x:=.dat (.str x)) (j5 rfl) rfl (by exact i5 [_,_] 1 (.add zA nA) zB 1 zB (.num 1000) zA (.num 1000000) tT hlt hl) (by simp [a6,hk]) ?_
 exact q
theorem dk9 {Q:VP} (hl:names.length≤1000) (hnd:names.Nodup) (q:Q (dx0 names) H) :
  Op PW w hb (n+2) X (RepV PW w) (fun vs=>call (.ref 207) vs) [.dat (.list (a6 names))] H Q:=by
 refine h8 (J6 (fI:=169) (by kernel_rfl) (by kernel_rfl) (by kernel_rfl) fun x dx=>?_)
 refine H8 rfl rfl rfl (names:=[st "self",st "names"]) (by kernel_rfl) rfl (R3 fun u_ u_=>by kernel_rfl) fun gs=>f9 gs ?_
 refine r6 l8 (by simp [a6];exact ul hl tT) ?_
 refine l7 0 rfl rfl (jv2 rfl) rfl ?_
 intro nb
 refine l7 1 rfl rfl (jv2 rfl) rfl ?_
 refine a9 (j6 1 rfl (by kernel_rfl)) rfl rfl ?_
 refine ⟨_,d9 rfl,?_⟩
 refine j8 gs u8 names (fun l ρ H'=>ρ=[(st "self",.ref x),(st "names",.dat (.list (a6 names)))]∧∃ l1,names=l1++l∧H'=(nb,.dct (g4 l1))::(x,.inst 207 dx [(st "names",.dat (.tuple (a6 names))),(st "numbers",.ref nb)])::H) i6 ?_ ?_ ?_
 ·exact ⟨rfl,[],rfl,rfl⟩
 ·rintro N hN hE y l ρ1 H1 ⟨rfl,l1,hs,rfl⟩
  have hno:(g4 l1).lookup y=none:=s9 (by
   refine a5 (E2 ..) ?_
   intro h
   rw [hs,kq9] at hnd
   exact hnd.2.2 y h y (jv0 ..) rfl)
  have hlen:l1.length≤1000:=by rw [hs] at hl;simp at hl;exact d6 [_,_] 1 (.add zA (.add zB nA)) (.num 1000) zA (.num 1000) tT hl
  refine a9 (j6 1 rfl (by kernel_rfl)) rfl rfl ?_
  refine U9 (x5 0 rfl) ?_
  refine a5 hno ?_
  refine ⟨Mine.nb,fun u_=>?_⟩
  refine a9 (j6 1 rfl (by kernel_rfl)) rfl rfl ?_
  refine hw2 (x5 0 rfl) (by refine a5 (x8 ..) ?_;exact d6 [_] 1 zA (.num 1000) (.add zA nA) (.num 4611686018427387904) tT hlen) ?_
  refine a9 (j6 1 rfl (by kernel_rfl)) rfl rfl ?_
  refine u6 (i:=0) rfl (by refine a5 (x8 ..) ?_;exact ul hlen tT) ?_
  refine a5 ((F5 hno) ..) (a5 (x8 ..) ?_)
  refine hN _ _ _ ⟨_,.all (ρ:=[(st "self",.ref x),(st "names",.dat (.list (a6 names)))]) ⟨rfl,rfl,trivial⟩,rfl,l1++[y],by simp [hs],?_⟩
  refine a5 (V1 ..) ?_;rfl
 ·rintro ρ1 H1 ⟨rfl,l1,hs,rfl⟩
  rw [kq4] at hs
  subst hs
  refine f9 gs ?_
  exact ⟨rfl,[_,_],H,_,rfl,.inst (jv3 _ (jv4.mpr rfl)) (.cons .same (.cons (.dct (jv0 ..)) .nil)),q⟩
noncomputable abbrev M9 (x dx bl nb:Addr) (names:List Str) (bs:List PyData) (ns:List (Str × PyData)) (H:HL):HL:=(nb,.dct ns)::(bl,.lst bs)::(x,.inst 284 dx [(st "universe",dx0 names),(st "bounds",.ref bl),(st "numbers",.ref nb)])::H
theorem hq7 {Q:VP} (q:∀ x dx bl nb,Q (.ref x) (M9 x dx bl nb names [] [] H)) :
  Op PW w hb (n+2) X (RepV PW w) (fun vs=>call (.ref 284) vs) [dx0 names] H Q:=by
 refine J6 (fI:=225) (by kernel_rfl) (by kernel_rfl) (by kernel_rfl) fun x dx=>?_
 refine H8 rfl rfl rfl (names:=[st "self",st "universe"]) (by kernel_rfl) rfl (R3 fun u_ u_=>by kernel_rfl) fun gs=>f9 gs ?_
 refine l7 0 rfl rfl (jv2 rfl) rfl ?_
 refine .inr fun bl=>?_
 refine l7 1 rfl rfl (jv2 rfl) rfl ?_
 intro nb
 refine l7 2 rfl rfl (jv2 rfl) rfl ?_
 exact ⟨rfl,q x dx bl nb⟩
end
end
section
noncomputable def k6 (cells:List Nat) (k:Nat):List (Str × PyData):=[("cells",.list (cells.map fun (c:Nat)=>.int c)),("spot",.int (k:Nat))]
noncomputable def d7 (cells:List Nat) (k E9:Nat):Nat:=match cells[k]? with
 | some c=>c % E9
 | none=>(5 * k * k+3 * k+7 * cells.length+2) % 89 % E9
theorem ez2 (a b:Nat):(a:Int).fmod (b:Int)=((a % b:Nat):Int):=by
 refine a5 (Int.fmod_eq_emod_of_nonneg _ (kx2 b)) ?_;rfl
section
variable {w:World} {hb:Heap} {n:Nat} {X:Xs} {H:HL}
theorem o0 {i:Nat} {p q:Addr × O} (e:H[i]?=some p):(H.set i q)[i]?=some q:=by
 rw [List.getElem?_set_self]
 by_cases h:i<H.length
 ·exact h
 ·rw [kz3 (by exact (kx8 h))] at e;exact nn e
theorem t6 {t:Addr} {i k E9:Nat} {cells:List Nat} {Q:VP} (e:H[i]?=some (t,.dct (k6 cells k))) (hc:cells.length≤1000) (hk:k≤1000) (hm:0<E9) (q:Q (.dat (.int (d7 cells k E9))) (H.set i (t,.dct (k6 cells (k+1))))) :
  Op PW w hb (n+1) X (RepV PW w) (fun vs=>call (.ref 587) vs) [.ref t,.dat (.int E9)] H Q:=by
 refine g8 rfl rfl rfl (names:=[st "tape",st "many"]) (by kernel_rfl) rfl (R3 fun u_ u_=>by kernel_rfl) fun gs=>?_
 refine g9 (x5 i e) rfl ?_
 refine u6 e (by exact (jv2 tT)) ?_
 have e':(H.set i (t,.dct (k6 cells (k+1))))[i]?=some (t,.dct (k6 cells (k+1))):=o0 e
 have ep:X3 "spot" (.int ((k:Int)+1)) (k6 cells k)=k6 cells (k+1):=by
  have ne:¬("cells":Str)="spot":=by decide
  rfl
 refine a5 ep ?_
 refine g9 (x5 i e') rfl ?_
 refine j7 d5 (by simp;exact d6 [_] 1 zA (.num 1000) (.add zA nA) (.num 4611686018427387904) tT hc) ?_
 refine ⟨fun h=>?_,fun h=>?_⟩
 ·refine g9 (x5 i e') rfl ?_
  have hlt:k<cells.length:=by
   have:=of_decide_eq_true h
   simp at this
   exact this
  refine o8 (k:=k) (x:=.dat (.int (cells[k]:Nat))) d5 rfl (by exact ul hk tT) (by simp [hlt]) ?_
  refine ⟨by exact (mv0 (F0 [_] 1 (.add (.num 0) nA) zA (.add (.num 0) nA) zA tT (ic hm))).symm,?_⟩
  refine as ?_ q
  unfold d7
  exact a5 ((jw0 hlt) ..) (a5 (ez2 ..) rfl)
 ·have hge:cells[k]?=none:=by
   have:=of_decide_eq_false h
   simp at this
   exact kz3 (by exact this)
  refine ⟨.of_left (by exact (jv2 tT)),?_⟩
  have b1:Builtin.Int.intBits (5 * (k:Int))≤64:=intBits_le_64 (by lia) (by lia)
  refine ⟨.of_left b1,?_⟩
  refine ⟨.of_left (by exact (jv2 tT)),?_⟩
  refine g9 (x5 i e') rfl ?_
  refine j7 d5 (by simp;exact d6 [_] 1 zA (.num 1000) (.add zA nA) (.num 4611686018427387904) tT hc) ?_
  refine ⟨.of_left (by exact (jv2 tT)),?_⟩
  refine ⟨by decide,by exact (mv0 (F0 [_] 1 (.add (.num 0) nA) zA (.add (.num 0) nA) zA tT (ic hm))).symm,?_⟩
  refine as ?_ q
  unfold d7
  refine a5 hge ?_
  have e1:5 * (k:Int) * k+3 * k+7 * (((cells.map fun (c:Nat)=>PyData.int c).map V.dat).length:Nat)+2=((5 * k * k+3 * k+7 * cells.length+2:Nat):Int):=by simp
  refine (?_:V.dat (.int (Int.fmod (Int.fmod (5 * (k:Int) * k+3 * k+7 * (((cells.map fun (c:Nat)=>PyData.int c).map V.dat).length:Nat)+2) 89) E9))=_)
  rw [e1,show ((89:Int))=((89:Nat):Int) from rfl,ez2,ez2]
noncomputable def Sg.row (g:Sg):PyData:=.tuple [.str g.name,.bool g.abs,.str g.mult,.str g.parent,.tuple (a6 g.supers)]
noncomputable def i8 (T:List Sg):List (Str × PyData):=T.map fun g=>(g.name,g.row)
theorem U7 {T:List Sg} {n:Str}:(i8 T).lookup n=(c0 T n).map Sg.row:=by
 induction T with
 | nil=>rfl
 | cons a T ih =>
  dsimp only [c0,i8] at ih ⊢
  refine a5 (kw0) (a5 kx1 (a5 kq2 ?_))
  cases n == a.name with
  | true=>rfl
  | false=>exact ih
theorem hq0 {T:List Sg} {x:Str} {g:Sg} {l:List Str} {Q:VP} (hg:c0 T x=some g) (hs:∀ y∈g.supers,Sh 0 (.str y)) (hu:g.supers=[]→Up (c0 T) x l) (q:Q (.dat (.str (if g.supers=[] then (x::l).getLast (kj1 _ _) else ""))) H) :
  Op PW w hb (n+1) X (RepV PW w) (fun vs=>call (.ref 604) vs) [.dct (i8 T),.dat (.str x)] H Q:=by
 refine g8 rfl rfl rfl (names:=[st "table",st "name"]) (by kernel_rfl) rfl (R3 fun u_ u_=>by kernel_rfl) fun gs=>?_
 have hl:∀ {y g},c0 T y=some g→(i8 T).lookup y=some g.row:=fun h=>by refine a5 U7 (a5 h ?_);rfl
 refine g9 g7 (hl hg) ?_
 refine X4 (Sh.tuple (k:=0) fun z hz=>?_).shaped rfl ?_
 ·(refine c9 (jv9.mp hz) ?_;rintro y hy rfl)
  exact hs y hy
 have en:(!PyData.eqv (.tuple (a6 g.supers)) (.tuple []))=decide (g.supers≠[]):=by
  cases g.supers <;> rfl
 refine a5 en ?_
 refine ⟨fun e=>?_,fun e=>?_⟩
 ·refine as ?_ q
  exact a5 (if_neg (of_decide_eq_true e)) rfl
 have e0:g.supers=[]:=by simpa using e
 rw [if_pos e0] at q
 refine O9 gs (fun m ρ H'=>∃ nm l',ρ=[(st "table",.dct (i8 T)),(st "name",.dat (.str nm))]∧H'=H∧Up (c0 T) nm l'∧(nm::l').getLast (kj1 _ _)=(x::l).getLast (kj1 _ _)∧m=l'.length) l.length ?_ ?_
 ·exact ⟨x,l,rfl,rfl,hu e0,rfl,rfl⟩
 ·(intro N hN hE m ρ1 H1 yz;(refine oEE yz ?_;clear yz;rintro nm l' y;refine w6 y ?_;clear y;rintro rfl rfl hu he rfl))
  cases hu with
  | top h1 h2 =>
   refine g9 g7 (hl h1) ?_
   refine ⟨fun u_=>?_,fun e=>absurd h2 (G3 e)⟩
   refine as ?_ q
   refine p8 he ?_;rfl
  | @up _ g' l' h1 h2 h3 =>
   refine g9 g7 (hl h1) ?_
   refine ⟨fun e=>absurd (I5 e) h2,fun u_=>?_⟩
   refine g9 g7 (hl h1) ?_
   refine hN _ _ _ ⟨[(st "table",.dct (i8 T)),(st "name",.dat (.str g'.parent))],l'.length,rfl,.all ⟨rfl,rfl,trivial⟩,g'.parent,l',rfl,rfl,h3,?_,rfl⟩
   exact p8 he (a5 (nq0 (kj1 _ _)) rfl)
end
end
section
noncomputable def U8 (T:List Sg) (tp:Str→Str) (lined:Option Str):List Str→List Told→Bool
 | _,[]=>match lined with
  | some x=>!(tp x == x)
  | none=>false
 | seen,t::ts=>match c0 T t.sig with
  | none=>true
  | some g=>seen.any (· == t.sig)||tp t.sig == ""||(g.mult == "one"&&tp t.sig == t.sig&&t.num != 1)||U8 T tp lined (seen++[t.sig]) ts
noncomputable def m4:Option Str→List Str
 | some x=>[x]
 | none=>[]
section
variable {w:World} {hb:Heap} {n:Nat} {X:Xs} {H:HL} {T:List Sg} {ord:List Str} {tp:Str→Str}
theorem I7 {x:Str} {g:Sg} {Q:VP} (W:Wf T ord tp) (hg:c0 T x=some g) (q:Q (.dat (.str (tp x))) H) :
  Op PW w hb (n+1) X (RepV PW w) (fun vs=>call (.ref 604) vs) [.dct (i8 T),.dat (.str x)] H Q:=by
 have hs:∀ y∈g.supers,Sh 0 (.str y):=fun y hy=>(W.dir g (w2 hg).1 y (jv7 _ hy)).2
 (refine Qa (W.top x g hg) ?_ ?_;(intro yz;refine oA yz fun h1 h2=>?_);rotate_left;(intro yz;refine J7 yz fun h1 h2 y=>o9 y fun l h3 h4 h5=>?_);rotate_left)
 ·refine hq0 (l:=[]) hg hs (fun h=>absurd h h1) ?_
  refine a5 (if_neg h1) (p8 h2 ?_)
  exact q
 ·refine hq0 hg hs (fun u_=>h4) ?_
  refine a5 (if_pos h1) (p8 h5 ?_)
  exact q
theorem z6 {x:Str} {g:Sg} (h:c0 T x=some g):(i8 T).lookup x=some g.row:=by refine a5 U7 (a5 h ?_);rfl
theorem fw6 {x:Str} (h:c0 T x=none):(i8 T).lookup x=none:=by refine a5 U7 (a5 h ?_);rfl
theorem bv0 {df:Int} {ts:List Told} {lined:Option Str} {Q:VP} (W:Wf T ord tp) (hl:ts.length≤1000) (hli:∀ x,lined=some x→(∃ g,c0 T x=some g)∧Sh 0 (.str x)) (q:Q (.dat (.bool (U8 T tp lined [] ts))) H) :
  Op PW w hb (n+2) X (RepV PW w) (fun vs=>call (.ref 616) vs) [.dct (i8 T),.dat (l5 df ts),.dat (.list (a6 (m4 lined)))] H Q:=by
 refine h8 (g8 rfl rfl rfl (names:=[st "table",st "scope",st "lined"]) (by kernel_rfl) rfl (ar3 fun u_ u_ u_=>by kernel_rfl) fun gs=>?_)
 intro D
 refine ⟨_,d9 rfl,?_⟩
 obtain ⟨r,hr⟩:∃ r,r=U8 T tp lined [] ts:=⟨_,rfl⟩
 rw [← hr] at q
 have ret:∀ {b:Bool} {l:List PyData},b=r→∃ Hs H0 d',((D,O.lst l)::H)=Hs++H0∧Fz Hs (V.dat (.bool b)) d'∧Q d' H0:=fun {b l} h=>⟨[(D,.lst l)],H,_,rfl,.same,h▸q⟩
 refine j8 gs (fun t:Told=>V.dat t.d) ts (fun l ρ H'=>ρ=[(st "seen",.ref D),(st "table",.dct (i8 T)),(st "scope",.dat (l5 df ts)),(st "lined",.dat (.list (a6 (m4 lined))))]∧∃ s,H'=(D,.lst (a6 s))::H∧s.length+l.length=ts.length∧r=U8 T tp lined s l) (by exact jw5 ..) ?_ ?_ ?_
 ·exact ⟨rfl,[],rfl,by simp,hr⟩
 ·rintro N hN hE t l ρ1 H1 ⟨rfl,s,rfl,hlen,hR⟩
  dsimp only [U8] at hR
  refine P9 g7 ?_
  cases hg:c0 T t.sig with
  | none =>
   rw [hg] at hR
   refine a5 (fw6 hg) ?_
   refine ⟨Mine.nt,fun u_=>⟨fun u_=>hE _ _ _ _ (ret hR.symm),nt⟩⟩
  | some g =>
   rw [hg] at hR
   dsimp only at hR
   refine a5 (z6 hg) ?_
   refine ⟨fun u_=>?_,Mine.nb⟩
   refine aq8 (ys:=s) (by have:=(X9 (pG:=PW) (w:=w) (hb:=hb) (H:=(D,.lst (a6 s))::H) 0 rfl).seq;rwa [i6] at this) ?_
   refine ⟨fun e1=>?_,fun e1=>?_⟩
   ·rw [e1,lx4] at hR
    refine I7 W hg ?_
    refine ⟨fun e2=>?_,fun e2=>?_⟩
    ·have e2:=r8 e2
     rw [beq_false_of_ne e2,lx4] at hR
     refine ⟨nb,fun u_=>?_⟩
     refine i4 0 rfl ?_
     refine g5 (i:=0) rfl (by simp [a6];exact i5 [_,_,_] 1 (.add zA zB) zC 1 zC (.num 1000) zA (.num 1000000) tT (o7 hlen) hl) ?_
     have done:r=U8 T tp lined (s++[t.sig]) l→∃ ρ',Keeps' ρ' [(st "name",.dat (.str t.sig)),(st "number",.dat (.int t.num)),(st "is_exact",.dat (.bool t.ex)),(st "seen",.ref D),(st "table",.dct (i8 T)),(st "scope",.dat (l5 df ts)),(st "lined",.dat (.list (a6 (m4 lined))))]∧ρ'=[(st "seen",.ref D),(st "table",.dct (i8 T)),(st "scope",.dat (l5 df ts)),(st "lined",.dat (.list (a6 (m4 lined))))]∧∃ s',((D,O.lst (a6 s++[.str t.sig]))::H)=(D,.lst (a6 s'))::H∧s'.length+l.length=ts.length∧r=U8 T tp lined s' l:=fun h=>⟨_,.all (ρ:=[(st "seen",.ref D),(st "table",.dct (i8 T)),(st "scope",.dat (l5 df ts)),(st "lined",.dat (.list (a6 (m4 lined))))]) ⟨rfl,rfl,rfl,rfl,trivial⟩,rfl,s++[t.sig],by simp [a6],by simp at hlen ⊢;exact kq1 (d6 [_,_,_] 1 (.add zA (.add zB nA)) zC (.add (.add zA nA) zB) zC tT (o7 hlen)) (d6 [_,_,_] 1 zA (.add zB (.add zC nA)) zA (.add (.add zB nA) zC) tT (H6 hlen)),h⟩
     refine g9 g7 (z6 hg) ?_
     refine ⟨fun e3=>?_,fun e3=>?_⟩
     ·have e3:=p7 e3
      rw [e3] at hR
      refine I7 W hg ?_
      refine ⟨fun e4=>?_,fun e4=>?_⟩
      ·have e4:=p7 e4
       rw [e4] at hR
       simp only [beq_self_eq_true,Bool.true_and] at hR
       refine ⟨fun e5=>?_,fun e5=>?_⟩
       ·refine ⟨fun u_=>hE _ _ _ _ (ret (by refine a5 hR (a5 (show (t.num != 1)=true from e5) ?_);rfl)),nt⟩
       ·rw [show (t.num != 1)=false from e5,lx4] at hR
        refine ⟨nb,fun u_=>hN _ _ _ (done hR)⟩
      ·have e4:=r8 e4
       rw [beq_false_of_ne e4,nj2,lw1,lx4] at hR
       refine ⟨nb,fun u_=>hN _ _ _ (done hR)⟩
     ·have e3:=r8 e3
      rw [beq_false_of_ne e3,lw1,lw1,lx4] at hR
      refine ⟨nb,fun u_=>hN _ _ _ (done hR)⟩
    ·refine ⟨fun u_=>hE _ _ _ _ (ret (by refine a5 hR (a5 (p7 e2) ?_);rfl)),nt⟩
   ·refine ⟨fun u_=>hE _ _ _ _ (ret (by refine a5 hR (a5 e1 ?_);rfl)),nt⟩
 ·rintro ρ1 H1 ⟨rfl,s,rfl,_,hR⟩
  refine f9 gs ?_
  refine ⟨_,_,.same,b0,by cases lined <;> simp [m4,a6],?_⟩
  refine d4 u8 (m4 lined) (fun x=>if tp x=x then none else some (.str x)) i6 (by kernel_rfl) (fun x hx=>?_) ?_
  ·have hx':lined=some x:=by
    induction lined using Qd with
    | none=>cases hx
    | some y=>exact a5 (jv4.mp hx) rfl
   (refine oA (hli x hx') ?_;(intro yz;refine oE yz fun g hg=>?_;clear yz;rintro _))
   refine ⟨.new rfl,I7 W hg ?_⟩
   exact ⟨fun e=>⟨rfl,_,rfl,if_neg (G3 e)⟩,fun e=>⟨rfl,if_pos (I5 e)⟩⟩
  ·refine ⟨rfl,.inl ?_⟩
   refine .inl ?_
   refine X4 (Sh.list (k:=0) fun z hz=>?_).shaped rfl ?_
   ·refine c9 (lq0.mp hz) fun x h1 h2=>?_
    split at h2
    ·exact nn h2
    ·(injection h2 with i;subst i)
     induction lined using Qd with
     | none=>cases h1
     | some y=>refine a5 (jv4.mp h1) ?_;exact (hli y rfl).2
   refine ret ?_
   refine a5 (hR ..) (a5 (M1 ..) ?_)
   induction lined using Qd with
   | none=>rfl
   | some y =>
    refine (?_:(!decide (([y].filterMap fun x=>if tp x=x then none else some (PyData.str x))=[]))=!(tp y == y))
    by_cases h:tp y=y <;> simp [h]
end
end
section
noncomputable def aw5 (names:List Str) (late:Nat):Str:=if late=23 then "int" else if late=22 then "X" else (names[late % names.length]?).getD ""
noncomputable def fk5 (cells:List Nat) (names:List Str) (k:Nat):Told:=⟨d7 cells k 2 == 1,(d7 cells (k+1) 4:Nat),aw5 names (d7 cells (k+2) 24)⟩
noncomputable def H7 (cells:List Nat) (names:List Str) (k m:Nat):List Told:=(Qg m).map fun j=>fk5 cells names (k+3 * j)
theorem o6 {cells:List Nat} {k m:Nat} (h:0<m):d7 cells k m<m:=by
 unfold d7
 split <;> exact mq6 _ h
theorem gx7 {a b:Nat} (h:((a:Int) == (b:Int))=true):a=b:=by have:=eq_of_beq h;lia
theorem dj0 {a b:Nat} (h:((a:Int) == (b:Int))=false):¬a=b:=fun e=>by subst e;simp at h
section
variable {w:World} {hb:Heap} {n:Nat} {X:Xs} {H:HL}
theorem iz4 {t:Addr} {i k:Nat} {cells:List Nat} {names:List Str} {Q:VP} (e:H[i]?=some (t,.dct (k6 cells k))) (hc:cells.length≤1000) (hk:k≤900) (hn:0<names.length) (hn2:names.length≤1000)
  (q:Q (.dat (l5 ((d7 cells (k+1+3 * d7 cells k 4) 5:Nat) - 1) (H7 cells names (k+1) (d7 cells k 4)))) (H.set i (t,.dct (k6 cells (k+2+3 * d7 cells k 4))))) :
  Op PW w hb (n+2) X (RepV PW w) (fun vs=>call (.ref 611) vs) [.ref t,.dat (.list (a6 names))] H Q:=by
 refine h8 (g8 rfl rfl rfl (names:=[st "tape",st "names"]) (by kernel_rfl) rfl (R3 fun u_ u_=>by kernel_rfl) fun gs=>?_)
 intro D
 have e1:∀ {z:O} {k':Nat},((D,z)::H.set i (t,O.dct (k6 cells k')))[i+1]?=some (t,.dct (k6 cells k')):=fun {z k'}=>by
  refine a5 (kv9) ?_;exact o0 e
 have es:∀ {a b:Addr × O},(H.set i a).set i b=H.set i b:=fun {a b}=>kz4 ..
 have lt4:d7 cells k 4<4:=o6 (by exact kx3 _)
 refine t6 (i:=i+1) (E9:=4) (k:=k) (cells:=cells) (by refine a5 (kv9) ?_;exact e) hc (by exact ul hk tT) (by exact kx3 _) ?_
 refine r7 ?_
 refine ⟨_,m6 (by lia) (by exact li0 [] (.num 0) (.num 1000000) tT) (by lia) (by exact F0 [_] 1 (.add zA nA) (.num 4) zA (.num 1000000) tT (ic lt4)),?_⟩
 refine j8 gs (fun j:Nat=>V.dat (.int (0+j))) (Qg (d7 cells k 4)) (fun l ρ H'=>ρ=[(st "told",.ref D),(st "tape",.ref t),(st "names",.dat (.list (a6 names)))]∧∃ m,Qg (d7 cells k 4)=Qg m++l∧H'=(D,.lst ((H7 cells names (k+1) m).map Told.d))::H.set i (t,.dct (k6 cells (k+1+3 * m)))) (by rfl) ?_ ?_ ?_
 ·exact ⟨rfl,0,by rfl,rfl⟩
 ·rintro N hN hE j l ρ1 H1 ⟨rfl,m,hm,rfl⟩
  have hm4:m<4:=by
   have:=congrArg List.length hm
   simp at this
   exact i5 [_,_,_] 1 (.add zA (.add zB nA)) zC 1 (.add zC nA) (.num 4) (.add zA nA) (.num 4) tT (H6 this) lt4
  refine t6 (i:=i+1) (E9:=2) (k:=k+1+3 * m) (cells:=cells) e1 hc (by exact i5 [_,_] 3 (.add zA nA) (.num 4) 1 zB (.num 900) (.add (.add zB nA) (.mulL 3 zA)) (.num 1000) tT hm4 hk) (by exact kx3 _) ?_
  refine t6 (i:=i+1) (E9:=4) (k:=k+1+3 * m+1) (cells:=cells) (o0 e1) hc (by exact i5 [_,_] 3 (.add zA nA) (.num 4) 1 zB (.num 900) (.add (.add (.add zB nA) (.mulL 3 zA)) nA) (.num 1000) tT hm4 hk) (by exact kx3 _) ?_
  refine ⟨by rfl,?_⟩
  refine t6 (i:=i+1) (E9:=24) (k:=k+1+3 * m+2) (cells:=cells) (o0 (o0 e1)) hc (by exact i5 [_,_] 3 (.add zA nA) (.num 4) 1 zB (.num 900) (.add (.add (.add zB nA) (.mulL 3 zA)) (.num 2)) (.num 1000) tT hm4 hk) (by exact kx3 _) ?_
  refine i4 0 rfl ?_
  have hj:j=m:=by
   have:=congrArg (fun l=>l[m]?) hm
   have hl:m<d7 cells k 4:=by
    have:=congrArg List.length hm
    simp at this
    exact d6 [_,_,_] 1 (.add zA (.add zB nA)) zC (.add zA nA) zC tT (H6 this)
   simp [hl] at this
   exact this.symm
  subst hj
  have f1:Qg (d7 cells k 4)=Qg (j+1)++l:=by refine a5 hm (a5 kk6 ?_);simp
  have f2:∀ {sg:Str},sg=aw5 names (d7 cells (k+1+3 * j+2) 24)→(((((D,O.lst ((H7 cells names (k+1) j).map Told.d))::H.set i (t,.dct (k6 cells (k+1+3 * j)))).set (i+1) (t,.dct (k6 cells (k+1+3 * j+1)))).set (i+1) (t,.dct (k6 cells (k+1+3 * j+1+1)))).set (i+1) (t,.dct (k6 cells (k+1+3 * j+2+1)))).set 0 (D,.lst ((H7 cells names (k+1) j).map Told.d++[.tuple [.bool (((d7 cells (k+1+3 * j) 2:Nat):Int) == 1),.int (d7 cells (k+1+3 * j+1) 4:Nat),.str sg]])) =
    (D,.lst ((H7 cells names (k+1) (j+1)).map Told.d))::H.set i (t,.dct (k6 cells (k+1+3 * (j+1)))):=by
   rintro sg rfl
   have e2:(((d7 cells (k+1+3 * j) 2:Nat):Int) == 1)=(d7 cells (k+1+3 * j) 2 == 1):=by
    by_cases h:d7 cells (k+1+3 * j) 2=1
    ·refine a5 h ?_;rfl
    ·refine a5 (beq_false_of_ne h) ?_;exact beq_false_of_ne (by lia)
   refine a5 e2 ?_
   simp [kz4,H7,kk6,fk5,Told.d,show k+1+3 * j+2+1=k+1+3 * (j+1) by lia]
  have lim:((H7 cells names (k+1) j).map Told.d).length≤1000000:=by simp [H7];exact d6 [_] 1 (.add zA nA) (.num 4) zA (.num 1000000) tT hm4
  refine ⟨fun a=>?_,fun a=>⟨fun b=>?_,fun b=>?_⟩⟩
  ·refine g5 (i:=0) rfl lim ?_
   refine hN _ _ _ ⟨_,.all (ρ:=[(st "told",.ref D),(st "tape",.ref t),(st "names",.dat (.list (a6 names)))]) ⟨rfl,rfl,rfl,trivial⟩,rfl,j+1,f1,f2 ?_⟩
   unfold aw5
   exact a5 (if_pos (gx7 a)) rfl
  ·refine g5 (i:=0) rfl lim ?_
   refine hN _ _ _ ⟨_,.all (ρ:=[(st "told",.ref D),(st "tape",.ref t),(st "names",.dat (.list (a6 names)))]) ⟨rfl,rfl,rfl,trivial⟩,rfl,j+1,f1,f2 ?_⟩
   unfold aw5
   exact a5 (if_neg (dj0 a)) (a5 (if_pos (gx7 b)) rfl)
  ·refine j7 d5 (by simp [a6];exact d6 [_] 1 zA (.num 1000) (.add zA nA) (.num 4611686018427387904) tT hn2) ?_
   have hlen:((a6 names).map V.dat).length=names.length:=by simp [a6]
   refine a5 hlen ?_
   refine ⟨by exact (mv0 (F0 [_] 1 (.add (.num 0) nA) zA (.add (.num 0) nA) zA tT (ic hn))).symm,?_⟩
   have hlt:d7 cells (k+1+3 * j+2) 24 % names.length<names.length:=mq6 _ hn
   refine o8 (k:=d7 cells (k+1+3 * j+2) 24 % names.length) (x:=u8 names[d7 cells (k+1+3 * j+2) 24 % names.length]) d5 (ez2 _ _) (by exact i5 [_,_] 1 (.add zA nA) zB 1 zB (.num 1000) zA (.num 1000000) tT hlt hn2) (by refine a5 i6 (a5 (jw7) (a5 (jw0 hlt) ?_));rfl) ?_
   refine g5 (i:=0) rfl lim ?_
   refine hN _ _ _ ⟨_,.all (ρ:=[(st "told",.ref D),(st "tape",.ref t),(st "names",.dat (.list (a6 names)))]) ⟨rfl,rfl,rfl,trivial⟩,rfl,j+1,f1,f2 ?_⟩
   unfold aw5
   refine a5 (if_neg (dj0 a)) (a5 (if_neg (dj0 b)) (a5 (jw0 hlt) ?_))
   rfl
 ·rintro ρ1 H1 ⟨rfl,m,hm,rfl⟩
  have hm':m=d7 cells k 4:=by
   have:=congrArg List.length hm
   simp at this
   exact this.symm
  subst hm'
  refine f9 gs ?_
  refine t6 (i:=i+1) (E9:=5) (cells:=cells) e1 hc (by exact i5 [_,_] 3 (.add zA nA) (.num 4) 1 zB (.num 900) (.add (.add zB nA) (.mulL 3 zA)) (.num 1000) tT lt4 hk) (by exact kx3 _) ?_
  refine r6 (X9 0 rfl) (by simp [H7];exact d6 [_] 1 (.add zA nA) (.num 4) zA (.num 1000000) tT lt4) ?_
  refine ⟨[(D,.lst ((H7 cells names (k+1) (d7 cells k 4)).map Told.d))],H.set i (t,.dct (k6 cells (k+2+3 * d7 cells k 4))),_,?_,.same,q⟩
  simp [kz4,show k+1+3 * d7 cells k 4+1=k+2+3 * d7 cells k 4 by lia]
end
end
section
section
variable {w:World} {hb:Heap} {n:Nat} {X:Xs} {H:HL}
theorem jk1 {ns:List Int} {Q:VP} (hl:ns.length≤1000) (q:∀ D,Q (.ref D) ((D,.dct (k6 ((ns.take 50).map Int.natAbs) 0))::H)) :
  Op PW w hb (n+1) X (RepV PW w) (fun vs=>call (.ref 580) vs) [.dat (.list (ns.map .int))] H Q:=by
 refine (H8 rfl rfl rfl (names:=[st "script"]) (by kernel_rfl) rfl (ar1 fun u_=>by kernel_rfl) fun gs=>?_).op
 refine (?_:TS PW w hb _ n X _ [.Return (some (.Dict [some (.Constant (.str _) _ _),some (.Constant (.str _) _ _)] [_,_] _)) _] H _)
 refine V9 (bz7 (fv1 (by decide) (F1 gs (k:=60) ?_)))
 refine ⟨nn,?_⟩
 refine ⟨by simp;exact ul hl tT,?_⟩
 have ep:F3 (ns.map PyData.int) none (some 50) none=(ns.take 50).map .int:=(bj6 _ 50).trans List.map_take.symm
 refine a5 ep ?_
 refine ⟨_,_,.same,b0,by simp;lia,?_⟩
 refine d4 (fun i:Int=>V.dat (.int i)) (ns.take 50) (fun i=>some (.int (i.natAbs:Nat))) (by refine a5 jw5 ?_;rfl) (by kernel_rfl) (fun i hi=>?_) ?_
 ·refine ⟨.new rfl,⟨fun u_=>?_,nt⟩⟩
  refine jx2 ?_
  refine ⟨rfl,_,rfl,?_⟩
  congr 2
  split <;> lia
 refine ⟨rfl,.inl ⟨_,rfl,?_⟩⟩
 refine F1 gs (k:=60) ?_
 refine ⟨_,rfl,fun D=>?_⟩
 have e2:(ns.take 50).filterMap (fun i=>some (PyData.int (i.natAbs:Nat)))=((ns.take 50).map Int.natAbs).map fun (c:Nat)=>PyData.int c:=by
  refine a5 jw5 (a5 kx5 ?_);rfl
 refine a5 e2 ?_
 exact q D
end
end
section
noncomputable def o3 (l:List Sg):PyData:=.list (l.map Sg.row)
theorem fw7 {a b:Sg} (h:a.name≠b.name):PyData.eqv a.row b.row=false:=by
 refine (?_:((a.name == b.name)&&_)=false)
 exact a5 ((beq_false_of_ne h) ..) (a5 (lw1 ..) rfl)
theorem jq4 {T:List Sg} {f out:List Str} (h:Pf T f [] out):f=out:=by
 generalize hx:([]:List Str)=l at h
 cases h with
 | done=>rfl
 | step h _=>subst hx;exact nn h
theorem hv8 {T:List Sg} {f l out:List Str} (hne:l≠[]) (h:Pf T f l out):∃ a,(l.filter (w4 T f)).head?=some a∧Pf T (f++[a]) (l.erase a) out:=by
 cases h with
 | done=>exact absurd rfl hne
 | step h1 h2=>exact ⟨_,h1,h2⟩
theorem dz2 {T ll p r:List Sg} {g:Sg} {f:List Str} {a:Str} (hpr:ll=p++g::r) (hpn:∀ x∈p,w4 T f x.name=false) (hg:w4 T f g.name=true) (ha:((ll.map Sg.name).filter (w4 T f)).head?=some a):a=g.name:=by
 subst hpr
 have:(p.map Sg.name).filter (w4 T f)=[]:=by
  rw [lz1]
  intro x hx
  (refine c9 (jv9.mp hx) ?_;rintro y hy rfl)
  refine a5 (hpn y hy) ?_;exact Bool.noConfusion
 rw [kq0,lj5,this,kx1,lv1,List.filter_cons_of_pos hg] at ha
 (injection ha with i;subst i);rfl
theorem cw1 {ll:List Sg} {a:Str} (hn:(ll.map Sg.name).Nodup):(ll.map Sg.name).erase a=(ll.filter fun x=>decide (¬x.name=a)).map Sg.name:=by
 refine a5 (hn.erase_eq_filter ..) (a5 (List.filter_map ..) ?_)
 congr 1
 apply List.filter_congr
 intro x _
 by_cases h:x.name=a <;> simp [h]
theorem bq7 {l:List Sg} {p:Sg→Prop} [DecidablePred p] {h:Sg→PyData}:l.filterMap (fun x=>if p x then none else some (h x))=(l.filter fun x=>decide (¬p x)).map h:=by
 induction l with
 | nil=>rfl
 | cons a l ih=>by_cases q:p a <;> simp [q,ih]
section
variable {w:World} {hb:Heap} {n:Nat} {X:Xs} {H:HL}
theorem hq1 {T:List Sg} {ord:List Str} {Q:VP} (hT:T.length≤1000) (hnd:(T.map Sg.name).Nodup) (hlk:∀ g∈T,c0 T g.name=some g∧g.supers.length≤1000) (hsh:∀ g∈T,Sh 2 g.row) (hds:∀ g∈T,∀ o∈g.direct,Sh 0 (.str o)) (hp:Pf T [] (T.map Sg.name) ord) (q:Q (.dat (.list (a6 ord))) H) :
  Op PW w hb (n+1) X (RepV PW w) (fun vs=>call (.ref 597) vs) [.dat (o3 T)] H Q:=by
 refine h8 (g8 rfl rfl rfl (names:=[st "stands"]) (by kernel_rfl) rfl (ar1 fun u_=>by kernel_rfl) fun gs=>?_)
 intro D
 refine Q0 d5 (by simp;exact ul hT tT) ?_
 refine O9 gs (fun m ρ H'=>∃ f l,ρ=[(st "left",.dat (o3 l)),(st "found",.ref D),(st "stands",.dat (o3 T))]∧H'=(D,.lst (a6 f))::H∧Pf T f (l.map Sg.name) ord∧f.length+l.length=T.length∧(∀ x∈l,x∈T)∧(l.map Sg.name).Nodup∧m=l.length) T.length ?_ ?_
 ·exact ⟨[],T,rfl,rfl,hp,by simp,fun u_ h=>h,hnd,rfl⟩
 ·rintro N hN hE m ρ1 H1 ⟨f,l,rfl,rfl,hp,hl,hm,hn,rfl⟩
  refine .inl ?_
  refine X4 (Sh.list (k:=2) fun z hz=>?_).shaped rfl ?_
  ·(refine c9 (jv9.mp hz) ?_;rintro g hg rfl)
   exact hsh g (hm g hg)
  have en:(!PyData.eqv (o3 l) (.list []))=decide (l≠[]):=by cases l <;> rfl
  rw [en]
  cases l with
  | nil =>
   refine ⟨fun u_=>?_,Mine.nb⟩
   cases jq4 hp
   exact ⟨[(D,.lst (a6 ord))],H,_,rfl,.lst (jv4.mpr rfl),q⟩
  | cons g0 l0 =>
   refine ⟨Mine.nt,fun u_=>?_⟩
   generalize hll:g0::l0=ll at *
   refine c9 (hv8 (by rw [← hll];simp) hp) fun a ha hp=>?_
   refine ⟨_,b0,?_⟩
   refine j8 gs (fun g:Sg=>V.dat g.row) ll (fun r ρ H'=>ρ=[(st "left",.dat (o3 ll)),(st "found",.ref D),(st "stands",.dat (o3 T))]∧H'=(D,.lst (a6 f))::H∧∃ p,ll=p++r∧∀ g∈p,w4 T f g.name=false) (by simp) ?_ ?_ ?_
   ·exact ⟨rfl,rfl,[],rfl,(fun _ h=>absurd h kq8)⟩
   ·rintro N2 hN2 hE2 g r ρ1 H1 ⟨rfl,rfl,p,hpr,hpn⟩
    have mg:g∈T:=hm g (by rw [hpr];simp)
    have sl:=(hlk g mg).2
    have e3:g.parent≠""→[PyData.str g.parent]++a6 g.supers=a6 g.direct:=fun h=>by rw [Sg.direct,if_neg h];rfl
    have e4:g.parent=""→[]++a6 g.supers=a6 g.direct:=fun h=>by rw [Sg.direct,if_pos h];rfl
    have e5:w4 T f g.name=decide (g.direct.filterMap (fun x=>if f.any (· == x)=true then none else some (PyData.str x))=[]):=by
     unfold w4
     rw [(hlk g mg).1]
     exact ej4
    have lf:∀ f,ListV PW w hb ((D,.lst (a6 f))::H) (.ref D) (f.map fun y=>.dat (.str y)):=fun f=>by
     have:=X9 (pG:=PW) (w:=w) (hb:=hb) (H:=(D,.lst (a6 f))::H) 0 rfl
     rwa [i6] at this
    have sho:∀ z∈g.direct.filterMap (fun x=>if f.any (· == x)=true then none else some (PyData.str x)),Sh 0 z:=fun z hz=>by
     refine c9 (lq0.mp hz) fun x h1 h2=>?_
     split at h2
     ·exact nn h2
     ·(injection h2 with i;subst i);exact hds g mg x h1
    have again:w4 T f g.name=false→∀ {ρ2:c8},G7 ρ2 [(st "left",.dat (o3 ll)),(st "found",.ref D),(st "stands",.dat (o3 T))]→∃ ρ',Keeps' ρ' ρ2∧ρ'=[(st "left",.dat (o3 ll)),(st "found",.ref D),(st "stands",.dat (o3 T))]∧((D,O.lst (a6 f))::H)=(D,.lst (a6 f))::H∧∃ p,ll=p++r∧∀ g∈p,w4 T f g.name=false:=fun h {ρ2} hk=>⟨_,.all hk,rfl,rfl,p++[g],by rw [hpr];simp,fun x hx=>by
     rcases jw1.mp hx with hx | hx
     ·exact hpn x hx
     ·rw [jv4.mp hx];exact h⟩
    have done:w4 T f g.name=true→∀ {ρ2:c8},G7 ρ2 [(st "left",.dat (o3 (ll.filter fun x=>decide (¬x.name=g.name)))),(st "found",.ref D),(st "stands",.dat (o3 T))]→∃ ρ' m',ll.length=m'+1∧Keeps' ρ' ρ2∧∃ f' l',ρ'=[(st "left",.dat (o3 l')),(st "found",.ref D),(st "stands",.dat (o3 T))]∧((D,O.lst (a6 f++[.str g.name]))::H)=(D,.lst (a6 f'))::H∧Pf T f' (l'.map Sg.name) ord∧f'.length+l'.length=T.length∧(∀ x∈l',x∈T)∧(l'.map Sg.name).Nodup∧m'=l'.length:=fun h {ρ2} hk=>by
     have ea:=dz2 hpr hpn h ha
     subst ea
     have ee:=cw1 (a:=g.name) hn
     have ll1:(ll.filter fun x=>decide (¬x.name=g.name)).length+1=ll.length:=by
      have e1:=congrArg List.length ee
      rw [jv1,lk5 (jv9.mpr ⟨g,by rw [hpr];simp,rfl⟩),jv1] at e1
      have:0<ll.length:=by rw [hpr];simp;exact kx3 _
      lia
     refine ⟨_,_,ll1.symm,.all hk,f++[g.name],_,rfl,by simp [a6],ee▸hp,by rw [jw8,List.length_singleton];lia,fun x hx=>hm x (kj0.mp hx).1,ee▸hn.erase _,rfl⟩
    refine ⟨fun e=>?_,fun e=>?_⟩
    ·refine .inl ?_
     refine Q0 (j5 rfl) (by simp [a6];exact ul sl tT) ?_
     refine ⟨by simp [a6];exact jw9 (kw9 sl 1) (jv2 tT),?_⟩
     rw [e3 (G3 e)]
     refine ⟨_,_,.same,b0,by simp [a6,Sg.direct];split <;> simp <;> first | exact ul sl tT | exact jw9 (kw9 sl 1) (jv2 tT),?_⟩
     refine d4 u8 g.direct (fun x=>if f.any (· == x)=true then none else some (.str x)) i6 (by kernel_rfl) (fun o ho=>?_) ?_
     ·refine ⟨.new rfl,?_⟩
      refine J5 (ys:=f) (lf f) ?_
      exact ⟨fun e=>⟨rfl,_,rfl,if_neg (by simpa only [lk3,← lk8] using e)⟩,fun e=>⟨rfl,if_pos (by simpa only [lx5] using e)⟩⟩
     refine ⟨rfl,.inl ?_⟩
     refine .inl ?_
     refine az6 (Sh.list (k:=0) fun z hz=>sho z hz).shaped rfl ?_
     rw [M1,← e5]
     refine ⟨fun er=>?_,fun er=>?_⟩
     ·refine i4 0 rfl ?_
      refine g5 (i:=0) rfl (by simp [a6];exact ul (jw9 (jw9 (kz8 _ _) (kj3 hl)) hT) tT) ?_
      refine ⟨_,_,.same,b0,by simp;exact ul (jw9 (jw9 (nz8 _ _) (kj3 hl)) hT) tT,?_⟩
      refine d4 (fun g:Sg=>V.dat g.row) ll (fun g'=>if g'.name=g.name then none else some g'.row) (by simp) (by kernel_rfl) (fun g' hg'=>?_) ?_
      ·refine ⟨.new rfl,?_⟩
       refine X4 (hsh g' (hm g' hg')).shaped (hsh g mg).shaped ?_
       refine ⟨fun e7=>⟨rfl,_,rfl,if_neg fun h=>?_⟩,fun e7=>⟨rfl,if_pos ?_⟩⟩
       ·have h1:=(hlk g' (hm g' hg')).1
        rw [h,(hlk g mg).1] at h1
        (injection h1 with i;subst i)
        rw [SeqAt.eqv_refl _ (hsh g mg).1] at e7
        exact nb e7
       ·by_cases h:g'.name=g.name
        ·exact h
        ·rw [fw7 h] at e7;exact nt e7
      ·refine ⟨rfl,?_⟩
       rw [bq7]
       exact hE2 _ _ _ _ <| hN _ _ _ <| done er ⟨rfl,rfl,rfl,trivial⟩
     ·exact hN2 _ _ _ <| again er ⟨rfl,rfl,rfl,trivial⟩
    ·refine .inl ?_
     refine Q0 (j5 rfl) (by simp [a6];exact ul sl tT) ?_
     refine ⟨by simp [a6];exact ul sl tT,?_⟩
     rw [e4 (I5 e)]
     refine ⟨_,_,.same,b0,by simp [a6,Sg.direct];split <;> simp <;> first | exact ul sl tT | exact jw9 (kw9 sl 1) (jv2 tT),?_⟩
     refine d4 u8 g.direct (fun x=>if f.any (· == x)=true then none else some (.str x)) i6 (by kernel_rfl) (fun o ho=>?_) ?_
     ·refine ⟨.new rfl,?_⟩
      refine J5 (ys:=f) (lf f) ?_
      exact ⟨fun e=>⟨rfl,_,rfl,if_neg (by simpa only [lk3,← lk8] using e)⟩,fun e=>⟨rfl,if_pos (by simpa only [lx5] using e)⟩⟩
     refine ⟨rfl,.inl ?_⟩
     refine .inl ?_
     refine az6 (Sh.list (k:=0) fun z hz=>sho z hz).shaped rfl ?_
     rw [M1,← e5]
     refine ⟨fun er=>?_,fun er=>?_⟩
     ·refine i4 0 rfl ?_
      refine g5 (i:=0) rfl (by simp [a6];exact ul (jw9 (jw9 (kz8 _ _) (kj3 hl)) hT) tT) ?_
      refine ⟨_,_,.same,b0,by simp;exact ul (jw9 (jw9 (nz8 _ _) (kj3 hl)) hT) tT,?_⟩
      refine d4 (fun g:Sg=>V.dat g.row) ll (fun g'=>if g'.name=g.name then none else some g'.row) (by simp) (by kernel_rfl) (fun g' hg'=>?_) ?_
      ·refine ⟨.new rfl,?_⟩
       refine X4 (hsh g' (hm g' hg')).shaped (hsh g mg).shaped ?_
       refine ⟨fun e7=>⟨rfl,_,rfl,if_neg fun h=>?_⟩,fun e7=>⟨rfl,if_pos ?_⟩⟩
       ·have h1:=(hlk g' (hm g' hg')).1
        rw [h,(hlk g mg).1] at h1
        (injection h1 with i;subst i)
        rw [SeqAt.eqv_refl _ (hsh g mg).1] at e7
        exact nb e7
       ·by_cases h:g'.name=g.name
        ·exact h
        ·rw [fw7 h] at e7;exact nt e7
      ·refine ⟨rfl,?_⟩
       rw [bq7]
       exact hE2 _ _ _ _ <| hN _ _ _ <| done er ⟨rfl,rfl,rfl,trivial⟩
     ·exact hN2 _ _ _ <| again er ⟨rfl,rfl,rfl,trivial⟩
   ·rintro ρ1 H1 ⟨rfl,rfl,p,hpr,hpn⟩
    exfalso
    rw [kq4] at hpr
    subst hpr
    have:=kj0.mp (mw9 ha)
    refine c9 (jv9.mp this.1) fun g hg he=>?_
    rw [← he,hpn g hg] at this
    cases this.2
end
end
section
noncomputable def bndF (names:List Str) (bs:List PyData) (ns:List (Str × PyData)):List (Str × V):=[(st "universe",dx0 names),(st "bounds",.dat (.list bs)),(st "numbers",.dct ns)]
noncomputable def dq4 (names:List Str) (bs:List PyData) (ns:List (Str × PyData)):V:=.inst 284 (bndF names bs ns)
noncomputable def uppF (sg:V) (lots:List (Str × PyData)):List (Str × V):=[(st "signatures",sg),(st "kinds",.dat .none),(st "lots",.dct lots)]
noncomputable def ak7 (sg:V) (lots:List (Str × PyData)):V:=.inst 371 (uppF sg lots)
section
variable {w:World} {hb:Heap} {n:Nat} {X:Xs} {H:HL} {names:List Str} {bs:List PyData} {ns:List (Str × PyData)}
theorem aj1:OfC w hb H (dq4 names bs ns) 284 (bndF names bs ns):=⟨Q3,by kernel_rfl⟩
theorem iz7 {Q:VP} (hl:bs.length≤1000) (q:Q (.dat (.int bs.length)) H) :
  Op PW w hb (n+1) X (RepV PW w) (fun vs=>call (.ref 260) vs) [dq4 names bs ns] H Q:=by
 refine g8 rfl rfl rfl (names:=[st "self"]) (by kernel_rfl) rfl (ar1 fun u_=>by kernel_rfl) fun gs=>?_
 refine a9 aj1 rfl rfl ?_
 refine j7 d5 (by simp;exact d6 [_] 1 zA (.num 1000) (.add zA nA) (.num 4611686018427387904) tT hl) ?_
 refine as ?_ q
 simp
theorem hq5 {Q:VP} {k:Nat} {x:PyData} (hl:bs.length≤1000) (hk:bs[k]?=some x) (q:Q (.dat x) H) :
  Op PW w hb (n+1) X (RepV PW w) (fun vs=>call (.ref 253) vs) [dq4 names bs ns,.dat (.int k)] H Q:=by
 refine g8 rfl rfl rfl (names:=[st "self",st "r"]) (by kernel_rfl) rfl (R3 fun u_ u_=>by kernel_rfl) fun gs=>?_
 have hlt:k<bs.length:=by
  by_cases h:k<bs.length
  ·exact h
  ·rw [kz3 (by exact (kx8 h))] at hk;exact nn hk
 refine a9 aj1 rfl rfl ?_
 refine o8 (k:=k) (x:=.dat x) d5 rfl (by exact i5 [_,_] 1 (.add zA nA) zB 1 zB (.num 1000) zA (.num 1000000) tT hlt hl) (by refine a5 (jw7) (a5 hk ?_);rfl) ?_
 exact q
theorem hq4 {Q:VP} {k:Nat} {a b c x:PyData} (hl:bs.length≤1000) (hk:bs[k]?=some (.tuple [a,b,c,x])) (q:Q (.dat x) H) :
  Op PW w hb (n+1) X (RepV PW w) (fun vs=>call (.ref 274) vs) [dq4 names bs ns,.dat (.int k)] H Q:=by
 refine g8 rfl rfl rfl (names:=[st "self",st "r"]) (by kernel_rfl) rfl (R3 fun u_ u_=>by kernel_rfl) fun gs=>?_
 have hlt:k<bs.length:=by
  by_cases h:k<bs.length
  ·exact h
  ·rw [kz3 (by exact (kx8 h))] at hk;exact nn hk
 refine a9 aj1 rfl rfl ?_
 refine o8 (k:=k) (x:=.dat (.tuple [a,b,c,x])) d5 rfl (by exact i5 [_,_] 1 (.add zA nA) zB 1 zB (.num 1000) zA (.num 1000000) tT hlt hl) (by refine a5 (jw7) (a5 hk ?_);rfl) ?_
 exact q
theorem dq3 {Q:VP} {sg:V} {lots:List (Str × PyData)} (hs:L0 sg=true) (q:Q (ak7 sg lots) H) :
  Op PW w hb (n+2) X (RepV PW w) (fun vs=>call (.ref 371) vs) [sg,.dat .none,.dct lots] H Q:=by
 refine h8 (J6 (fI:=349) (by kernel_rfl) (by kernel_rfl) (by kernel_rfl) fun x dx=>?_)
 refine H8 rfl rfl rfl (names:=[st "self",st "signatures",st "kinds",st "lots"]) (by kernel_rfl) rfl (ar4 fun u_ u_ u_ u_=>by kernel_rfl) fun gs=>f9 gs ?_
 refine l7 0 rfl rfl (jv2 rfl) hs ?_
 refine l7 0 rfl rfl (jv2 rfl) rfl ?_
 refine l7 0 rfl rfl (jv2 rfl) rfl ?_
 exact ⟨rfl,[_],H,_,rfl,.inst (jv4.mpr rfl) (.cons .same (.cons .same (.cons .same .nil))),q⟩
theorem hq6 {T:List Sg} {ord:List Str} {lined:Option Str} {Q:VP} (q:Q (cj8 T ord lined) H) :
  Op PW w hb (n+2) X (RepV PW w) (fun vs=>call (.ref 402) vs) [x7 T ord (m5 lined),.dat .none] H Q:=by
 refine h8 (J6 (fI:=389) (by kernel_rfl) (by kernel_rfl) (by kernel_rfl) fun x dx=>?_)
 refine H8 rfl rfl rfl (names:=[st "self",st "signatures",st "kinds"]) (by kernel_rfl) rfl (ar3 fun u_ u_ u_=>by kernel_rfl) fun gs=>f9 gs ?_
 refine l7 0 rfl rfl (jv2 rfl) rfl ?_
 refine l7 0 rfl rfl (jv2 rfl) rfl ?_
 exact ⟨rfl,[_],H,_,rfl,.inst (jv4.mpr rfl) (.cons .same (.cons .same .nil)),q⟩
end
end
section
theorem Q6 {pG:Program} {w:World} {A:Around} {E:Value→Shared→Prop} {s:Shared} {x y:Int} {t u:Tok} {Q:Value→Shared→Prop} (h:Q (.bool (decide (x<y))) s):wpAny (model pG w) A (richCompare .Lt (.int x t) (.int y u)) Q E s:=P.lt_int h
theorem lt1At (l b:Addr) (x y:Int) (t u:Tok) (n n2:Nat) (dd dd2:Option Addr) (sl sl2:Array (Option Value)) :
  Meets (Builtin.«tuple.__lt__» ⟨[.ref l,.ref b],[]⟩)
   (fun A R s=>s.heap.get? l=some { cls:=.type "tuple",dict:=dd,data:=.seq #[.int x t] n,slots:=sl }∧s.heap.get? b=some { cls:=.type "tuple",dict:=dd2,data:=.seq #[.int y u] n2,slots:=sl2 } ∧
    R (.ok (.ret (.bool (decide (x<y))))) s) :=
 .of_wp fun pG w A R s h=>by
  obtain ⟨hp,g,d,tk,os⟩:=s;(refine J7 h ?_;clear h;intro hl hb h)
  have f2:=AutoSeq1.sub_tuple_tuple
  wp_walk using lw7 hl,lw7 hb,lv7,Q6
  by_cases e:x=y
  ·subst e
   simp only [beq_self_eq_true,mq0,kk7,if_false]
   wp_walk
   rw [show decide (x<x)=false by simp] at h
   exact ⟨_,rfl,h⟩
  ·have e1:(x == y)=false:=beq_false_of_ne e
   simp only [e1,mj1,if_true]
   wp_walk using Q6
   exact ⟨_,rfl,h⟩
theorem lt2At (l b:Addr) (x y x2 y2:Int) (t u t2 u2:Tok) (n n2:Nat) (dd dd2:Option Addr) (sl sl2:Array (Option Value)) :
  Meets (Builtin.«tuple.__lt__» ⟨[.ref l,.ref b],[]⟩)
   (fun A R s=>s.heap.get? l=some { cls:=.type "tuple",dict:=dd,data:=.seq #[.int x t,.int x2 t2] n,slots:=sl }∧s.heap.get? b=some { cls:=.type "tuple",dict:=dd2,data:=.seq #[.int y u,.int y2 u2] n2,slots:=sl2 } ∧
    R (.ok (.ret (.bool (decide (x<y∨(x=y∧x2<y2)))))) s) :=
 .of_wp fun pG w A R s h=>by
  obtain ⟨hp,g,d,tk,os⟩:=s;(refine J7 h ?_;clear h;intro hl hb h)
  have f2:=AutoSeq1.sub_tuple_tuple
  wp_walk using lw7 hl,lw7 hb,lv7,Q6
  by_cases e:x=y
  ·subst e
   simp only [beq_self_eq_true,mq0,kk7,if_false]
   wp_walk using lv7,Q6
   by_cases e:x2=y2
   ·subst e
    simp only [beq_self_eq_true,mq0,kk7,if_false]
    wp_walk
    rw [show decide (x<x∨(x=x∧x2<x2))=false by simp] at h
    exact ⟨_,rfl,h⟩
   ·have e1:(x2 == y2)=false:=beq_false_of_ne e
    simp only [e1,mj1,if_true]
    wp_walk using Q6
    rw [show decide (x<x∨(x=x∧x2<y2))=decide (x2<y2) by simp] at h
    exact ⟨_,rfl,h⟩
  ·have e1:(x == y)=false:=beq_false_of_ne e
   simp only [e1,mj1,if_true]
   wp_walk using Q6
   rw [show decide (x<y∨(x=y∧x2<y2))=decide (x<y) by simp [e]] at h
   exact ⟨_,rfl,h⟩
end
section
section
variable {pG:Program} {w:World} {hb:Heap} {n:Nat} {X:Xs} {H:HL}
theorem tup1 {g:Heap} {v:Value} {x:Int} (r:RepV pG w g v (.dat (.tuple [.int x]))):∃ a t n dd sl,v=.ref a∧g.get? a=some { cls:=.type "tuple",dict:=dd,data:=.seq #[.int x t] n,slots:=sl }:=by
 (refine a8 (s6 r rfl) ?_;rintro a vs rfl ⟨⟨cls,dd,data,sl⟩,ho,hc,n,hd⟩ rs)
 obtain ⟨l⟩:=vs
 (refine a8 (E0 rs) ?_;(intro v1 l' e yz;refine oE yz fun as r1=>?_;clear yz;rintro rs))
 have e2:=av9 rs
 simp only at e hc hd
 refine oE (rdi r1) fun t f1=>?_
 subst f1 e e2 hc hd
 exact ⟨a,t,n,dd,sl,rfl,ho⟩
theorem jq9 {x y:Int} {Q:VP} (q:Q (.dat (.bool (decide (x<y)))) H):Op pG w hb n X (RepV pG w) (G0 (compareOp .Lt)) [.dat (.tuple [.int x]),.dat (.tuple [.int y])] H Q:=by
 refine .grow fun A Z s vs R E rm yy rl k=>?_
 (refine a8 rl.inv2 ?_;rintro v u rfl r1 r2)
 (refine oE (tup1 r1) ?_;intro a y;refine oE y ?_;clear y;intro t y;refine w5 y ?_;clear y;rintro n1 dd sl rfl h1)
 (refine oE (tup1 r2) ?_;intro b y;refine oE y ?_;clear y;intro t2 y;refine w5 y ?_;clear y;rintro n2 dd2 sl2 rfl h2)
 have g1:=(c7 h1).1
 have g2:=(c7 h2).1
 exact richCompare_meets_room (op:=.Lt) (show s.TypeIs (.ref a) "tuple" from ⟨_,g1,rfl⟩) (show s.TypeIs (.ref b) "tuple" from ⟨_,g2,rfl⟩) F.slot_tuple_lt F.entry_tuple_lt (F.args_tuple_lt_2 _ _) (lt1At a b x y t t2 n1 n2 dd dd2 sl sl2)
  ⟨g1,g2,(fun h=>nomatch h),k (h':=s.heap) (t:=s.toks) (Sub.refl _) (m7 _) q⟩ (kj8 (kz8 _ _) rm.line)
theorem tup2 {g:Heap} {v:Value} {x x2:Int} (r:RepV pG w g v (.dat (.tuple [.int x,.int x2]))):∃ a t t2 n dd sl,v=.ref a∧g.get? a=some { cls:=.type "tuple",dict:=dd,data:=.seq #[.int x t,.int x2 t2] n,slots:=sl }:=by
 (refine a8 (s6 r rfl) ?_;rintro a vs rfl ⟨⟨cls,dd,data,sl⟩,ho,hc,n,hd⟩ rs)
 obtain ⟨l⟩:=vs
 (refine a8 (E0 rs) ?_;(intro v1 l' e yz;refine oE yz fun as r1=>?_;clear yz;rintro rs))
 (refine a8 (E0 rs) ?_;(intro v2 l2 e1 yz;refine oE yz fun as2 r2=>?_;clear yz;rintro rs))
 have e2:=av9 rs
 simp only at e hc hd
 refine oE (rdi r1) fun t f1=>?_
 refine oE (rdi r2) fun t2 f2=>?_
 subst f1 f2 e e1 e2 hc hd
 exact ⟨a,t,t2,n,dd,sl,rfl,ho⟩
theorem jq8 {x y x2 y2:Int} {Q:VP} (q:Q (.dat (.bool (decide (x<y∨(x=y∧x2<y2))))) H):Op pG w hb n X (RepV pG w) (G0 (compareOp .Lt)) [.dat (.tuple [.int x,.int x2]),.dat (.tuple [.int y,.int y2])] H Q:=by
 refine .grow fun A Z s vs R E rm yy rl k=>?_
 (refine a8 rl.inv2 ?_;rintro v u rfl r1 r2)
 (refine oE (tup2 r1) ?_;intro a y;refine oE y ?_;clear y;intro t y;refine oE y ?_;clear y;intro t2 y;refine w5 y ?_;clear y;rintro n1 dd sl rfl h1)
 (refine oE (tup2 r2) ?_;intro b y;refine oE y ?_;clear y;intro u y;refine oE y ?_;clear y;intro u2 y;refine w5 y ?_;clear y;rintro n2 dd2 sl2 rfl h2)
 have g1:=(c7 h1).1
 have g2:=(c7 h2).1
 exact richCompare_meets_room (op:=.Lt) (show s.TypeIs (.ref a) "tuple" from ⟨_,g1,rfl⟩) (show s.TypeIs (.ref b) "tuple" from ⟨_,g2,rfl⟩) F.slot_tuple_lt F.entry_tuple_lt (F.args_tuple_lt_2 _ _) (lt2At a b x y x2 y2 t u t2 u2 n1 n2 dd dd2 sl sl2)
  ⟨g1,g2,(fun h=>nomatch h),k (h':=s.heap) (t:=s.toks) (Sub.refl _) (m7 _) q⟩ (kj8 (kz8 _ _) rm.line)
end
end
noncomputable def KOk {α:Type} (n:Nat) (lt:Nat→Nat→Bool):KasT α→(α→Prop)→Prop
 | .ret a,Q=>Q a
 | .ask i j k,Q=>i<n∧j<n∧KOk n lt (k (lt i j)) Q
theorem KOk.mono {α:Type} {n:Nat} {lt:Nat→Nat→Bool} {Q Q':α→Prop} (h:∀ a,Q a→Q' a):∀ {t:KasT α},KOk n lt t Q→KOk n lt t Q'
 | .ret a,q=>h a q
 | .ask _ _ _,q=>⟨q.1,q.2.1,KOk.mono h q.2.2⟩
theorem KOk.bind {α β:Type} {n:Nat} {lt:Nat→Nat→Bool} {f:α→KasT β} {Q:β→Prop}:∀ {t:KasT α},KOk n lt t (fun a=>KOk n lt (f a) Q)→KOk n lt (t.bind f) Q
 | .ret _,q=>q
 | .ask _ _ _,q=>⟨q.1,q.2.1,KOk.bind q.2.2⟩
theorem KOk.wp {α:Type} {n:Nat} {lt:Nat→Nat→Bool} {cmp:Nat→Nat→(Bool→Shared→Prop)→Shared→Prop} {s:Shared} (hc:∀ i j C,i<n→j<n→C (lt i j) s→cmp i j C s) {Q:α→Shared→Prop} :
  ∀ {t:KasT α},KOk n lt t (fun a=>Q a s)→t.kasWp cmp Q s
 | .ret _,q=>q
 | .ask _ _ _,q=>hc _ _ _ q.1 q.2.1 (KOk.wp hc q.2.2)
section
variable {n:Nat} (x:Nat→Int)
noncomputable def ltx (i j:Nat):Bool:=decide (x i<x j)
structure Pm (n:Nat) (p:Array Nat):Prop where
 perm:p.Perm (Qg n).toArray
noncomputable def vx (p:Array Nat) (i:Nat):Int:=x (p.getD i 0)
variable {x} {p q:Array Nat}
theorem Pm.size (h:Pm n p):p.size=n:=by have:=h.perm.size_eq;simpa using this
theorem Pm.get (h:Pm n p) {i:Nat} (hi:i<n):∃ k,p[i]?=some k∧k<n∧p.getD i 0=k:=by
 have hs:i<p.size:=by refine a5 h.size ?_;exact hi
 refine ⟨p[i],by simp [hs],?_,by simp [hs]⟩
 have:p[i]∈p.toList:=by simp
 have:=(lj3.mp h.perm).mem_iff.mp this
 simpa using this
theorem Pm.lt (h:Pm n p) {i:Nat} (hi:i<n):p.getD i 0<n:=by
 refine o9 (h.get hi) fun k u_ h1 h2=>?_
 refine a5 h2 ?_;exact h1
theorem Pm.inj (h:Pm n p) (hx:∀ i j,i<n→j<n→x i=x j→i=j) {i j:Nat} (hi:i<n) (hj:j<n) (e:vx x p i=vx x p j):i=j:=by
 have e1:=hx _ _ (h.lt hi) (h.lt hj) e
 refine o9 (h.get hi) fun a a1 u_ a2=>?_
 refine o9 (h.get hj) fun b b1 u_ b2=>?_
 have nd:p.toList.Nodup:=(lj3.mp h.perm).nodup_iff.mpr (by simpa using nq8)
 rw [a2,b2] at e1
 subst e1
 rw [← kq7] at a1 b1
 exact (List.getElem?_inj (by simp [h.size];exact hi) nd).mp (a1.trans b1.symm)
theorem V8 {i j:Nat} (h:p[i]?=q[j]?):vx x p i=vx x q j:=by
 unfold vx
 exact a5 (mz2) (a5 (mz2) (a5 h rfl))
theorem Pm.rev (h:Pm n p) (i j:Nat):Pm n (kas_rev p i j):=⟨(mirror_perm _ _ _ _).trans h.perm⟩
theorem Pm.bub (h:Pm n p) (i j:Nat):Pm n (bubble p i j):=⟨(bubble_perm _ _ _).trans h.perm⟩
noncomputable def Asc (x:Nat→Int) (p:Array Nat) (m:Nat):Prop:=∀ i j,i<j→j<m→vx x p i<vx x p j
noncomputable def Dsc (x:Nat→Int) (p:Array Nat) (m:Nat):Prop:=∀ i j,i<j→j<m→vx x p j<vx x p i
theorem Asc.more {m:Nat} (h:Asc x p m) (h1:m=0∨vx x p (m - 1)<vx x p m):Asc x p (m+1):=fun i j hij hj=>by
 by_cases hm:j<m
 ·exact h i j hij hm
 ·have e:j=m:=by exact kq1 (d6 [_,_] 1 (.add zA nA) (.add zB nA) zA zB tT hj) ((kx8 hm))
  subst e
  have h1:=h1.resolve_left (by lia)
  by_cases e:i=j - 1
  ·subst e;exact h1
  ·exact lv3 (h i (j - 1) (by lia) (by exact (sC (d6 [_,_] 1 (.add zA nA) zB nA zB tT hij)))) h1
theorem Dsc.more {m:Nat} (h:Dsc x p m) (h1:m=0∨vx x p m<vx x p (m - 1)):Dsc x p (m+1):=fun i j hij hj=>by
 by_cases hm:j<m
 ·exact h i j hij hm
 ·have e:j=m:=by exact kq1 (d6 [_,_] 1 (.add zA nA) (.add zB nA) zA zB tT hj) ((kx8 hm))
  subst e
  have h1:=h1.resolve_left (by lia)
  by_cases e:i=j - 1
  ·subst e;exact h1
  ·exact lv3 h1 (h i (j - 1) (by lia) (by exact (sC (d6 [_,_] 1 (.add zA nA) zB nA zB tT hij))))
theorem jx5 {l r:Nat} (h:¬l ≥ r):l≤(l+r) / 2∧(l+r) / 2<r:=by lia
theorem Dsc.rev {m:Nat} (P:Pm n p) (hm:m≤n) (h:Dsc x p m):Asc x (kas_rev p 0 m) m:=fun i j hij hj=>by
 have hs:m≤p.size:=by refine a5 P.size ?_;exact hm
 have at_:∀ k,k<m→vx x (kas_rev p 0 m) k=vx x p (m - 1 - k):=fun k hk=>V8 (by
  refine (?_:(mirror p 0 m ((m - 0) / 2))[k]?=_)
  rw [getElem?_mirror_all hs,if_pos ⟨kx0 _,hk⟩,mx1])
 refine a5 (at_ i (by exact i5 [_,_,_] 1 (.add zA nA) zB 1 (.add zC nA) zA (.add zC nA) zB tT hj hij)) (a5 (at_ j hj) ?_)
 exact h _ _ (lw9 (kw8 hij (lw2 hj)) hij) (by exact i5 [_,_,_] 1 (.add zA nA) zB 1 zC zA (.add zC nA) zB tT (sC (d6 [_,_] 1 (.add zA nA) zB nA zB tT hj)) (kj7 _ _))
variable (hx:∀ i j,i<n→j<n→x i=x j→i=j)
include hx
theorem Pm.flip (P:Pm n p) {i j:Nat} (hi:i<n) (hj:j<n) (hij:i≠j) (h:ltx x (p.getD i 0) (p.getD j 0)=false):vx x p j<vx x p i:=by
 have h1:¬vx x p i<vx x p j:=of_decide_eq_false h
 have h2:vx x p i≠vx x p j:=fun e=>hij (P.inj hx hi hj e)
 lia
theorem dv5 (P:Pm n p):∀ f m,m+f≤n→1≤m→Asc x p m→KOk n (ltx x) (kas_asc p f m) fun r=>m≤r∧r≤m+f∧Asc x p r∧(r=m+f∨vx x p r<vx x p (r - 1))
 | 0,m,hf,h1,a=>⟨jw4 _,jw4 _,a,.inl rfl⟩
 | f+1,m,hf,h1,a=>by
  refine ⟨P.lt (by exact d6 [_,_,_] 1 (.add zA (.add zB nA)) zC (.add zA nA) zC tT hf),P.lt (by exact i5 [_,_,_,_] 1 (.add zA (.add zB nA)) zC 1 zD zA (.add zD nA) zC tT hf (kj7 _ _)),?_⟩
  generalize e:ltx x (p.getD m 0) (p.getD (m - 1) 0)=y_;induction y_ using Ql with
  | true=>exact ⟨jw4 _,kz8 _ _,a,.inr (of_decide_eq_true e)⟩
  | false=>exact (dv5 P f (m+1) (by exact d6 [_,_,_] 1 (.add zA (.add zB nA)) zC (.add (.add zA nA) zB) zC tT hf) (by exact ln0 [_] nA (.add zA nA) tT) (a.more (.inr (P.flip hx (by exact d6 [_,_,_] 1 (.add zA (.add zB nA)) zC (.add zA nA) zC tT hf) (by exact i5 [_,_,_,_] 1 (.add zA (.add zB nA)) zC 1 zD zA (.add zD nA) zC tT hf (kj7 _ _)) (by exact kj2 ((sC (h1)))) e)))).mono fun r h=>⟨by exact d6 [_,_] 1 (.add zA nA) zB zA zB tT h.1,by exact d6 [_,_,_] 1 zA (.add (.add zB nA) zC) zA (.add zB (.add zC nA)) tT h.2.1,h.2.2.1,h.2.2.2.imp (by lia) id⟩
theorem gv6 (P:Pm n p):∀ f m,m+f≤n→1≤m→Dsc x p m→KOk n (ltx x) (kas_desc f p m 0) fun r=>r.1=p∧r.2.2=0∧m≤r.2.1∧r.2.1≤m+f∧Dsc x p r.2.1
 | 0,m,hf,h1,a=>⟨rfl,rfl,jw4 _,jw4 _,a⟩
 | f+1,m,hf,h1,a=>by
  refine ⟨P.lt (by exact d6 [_,_,_] 1 (.add zA (.add zB nA)) zC (.add zA nA) zC tT hf),P.lt (by exact i5 [_,_,_,_] 1 (.add zA (.add zB nA)) zC 1 zD zA (.add zD nA) zC tT hf (kj7 _ _)),?_⟩
  generalize e:ltx x (p.getD m 0) (p.getD (m - 1) 0)=y_;induction y_ using Ql with
  | true=>exact (gv6 P f (m+1) (by exact d6 [_,_,_] 1 (.add zA (.add zB nA)) zC (.add (.add zA nA) zB) zC tT hf) (by exact ln0 [_] nA (.add zA nA) tT) (a.more (.inr (of_decide_eq_true e)))).mono fun r h=>⟨h.1,h.2.1,by exact d6 [_,_] 1 (.add zA nA) zB zA zB tT h.2.2.1,by exact d6 [_,_,_] 1 zA (.add (.add zB nA) zC) zA (.add zB (.add zC nA)) tT h.2.2.2.1,h.2.2.2.2⟩
  | false =>
   refine ⟨P.lt (by exact i5 [_,_,_,_] 1 (.add zA (.add zB nA)) zC 1 zD zA (.add zD nA) zC tT hf (kj7 _ _)),P.lt (by exact d6 [_,_,_] 1 (.add zA (.add zB nA)) zC (.add zA nA) zC tT hf),?_⟩
   refine a5 (show ltx x (p.getD (m - 1) 0) (p.getD m 0)=true from decide_eq_true (P.flip hx (by exact d6 [_,_,_] 1 (.add zA (.add zB nA)) zC (.add zA nA) zC tT hf) (by exact i5 [_,_,_,_] 1 (.add zA (.add zB nA)) zC 1 zD zA (.add zD nA) zC tT hf (kj7 _ _)) (by exact kj2 ((sC (h1)))) e)) ?_
   exact ⟨rfl,rfl,jw4 _,kz8 _ _,a⟩
theorem hk8 (P:Pm n p) {m:Nat} (hm:m≤n) (h1:1≤m) (a:Dsc x p m):KOk n (ltx x) (kas_tail3 m n p) fun r=>1≤r.1∧r.1≤n∧Pm n r.2∧Asc x r.2 r.1 :=
 KOk.bind ((dv5 hx (P.rev 0 m) (n - m) m (by exact d6 [_,_,_] 1 (.add zA zB) zC (.add zB zA) zC tT (sC (hm))) h1 (a.rev P hm)).mono fun r h=>⟨by refine (?_:1≤r);exact i5 [_,_] 1 zA zB 1 nA zA nA zB tT h.1 h1,by refine (?_:r≤n);exact i5 [_,_,_,_] 1 zA (.add zB zC) 1 (.add zC zB) zD zA zD tT h.2.1 (sC (hm)),P.rev 0 m,h.2.2.1⟩)
theorem gw0 (P:Pm n p) (h2:2≤n):KOk n (ltx x) (kas_count n p) fun r=>1≤r.1∧r.1≤n∧Pm n r.2∧Asc x r.2 r.1:=by
 refine KOk.bind ((dv5 hx P (n - 1) 1 (by exact d6 [_,_] 1 (.add zA nA) zB (.add nA zA) zB tT (sC (d6 [_] 1 (.num 2) zA nA zA tT h2))) (jw4 _) (fun i j hij hj=>by lia)).mono fun r h=>?_)
 (refine G9 h ?_;clear h;intro l1 l2 a e)
 by_cases hn:(r == n)=true
 ·refine a5 (if_pos hn) ?_
  exact ⟨l1,by refine (?_:r≤n);exact i5 [_,_,_] 1 zA (.add nA zB) 1 (.add zB nA) zC zA zC tT l2 (sC (d6 [_] 1 (.num 2) zA nA zA tT h2)),P,a⟩
 refine a5 (if_neg hn) ?_
 have hn:r≠n:=by simpa using hn
 by_cases hr:r > 1
 ·refine a5 (if_pos hr) ?_
  refine ⟨P.lt (by exact d6 [_] 1 (.num 2) zA (.add (.num 0) nA) zA tT h2),P.lt (by exact T5 [_,_,_,_] 1 zA (.add nA zB) 1 (.add zC nA) zA 1 (.add zB nA) zD (.add zC nA) zD tT l2 (sC (d6 [_] 1 (.add nA nA) zA nA zA tT hr)) (sC (d6 [_] 1 (.num 2) zA nA zA tT h2))),?_⟩
  refine a5 (show ltx x (p.getD 0 0) (p.getD (r - 1) 0)=true from decide_eq_true (a 0 (r - 1) (by exact i5 [_,_] 1 (.add nA nA) zA 1 zA (.add zB nA) (.add (.num 0) nA) zB tT hr sA) (by exact (sC (d6 [_] 1 (.add nA nA) zA nA zA tT hr))))) ?_
  exact ⟨l1,by refine (?_:r≤n);exact i5 [_,_,_] 1 zA (.add nA zB) 1 (.add zB nA) zC zA zC tT l2 (sC (d6 [_] 1 (.num 2) zA nA zA tT h2)),P,a⟩
 ·refine a5 (if_neg hr) ?_
  have e1:r=1:=by exact kq1 ((kx8 hr)) (l1)
  subst e1
  have e:=e.resolve_left (by lia)
  refine KOk.bind ((gv6 hx P (n - 2) 2 (by exact d6 [_,_] 1 (.add zA (.num 2)) zB (.add (.num 2) zA) zB tT (sC (h2))) (by exact jv2 tT) fun i j hij hj=>?_).mono fun r h=>?_)
  ·have:i=0:=by exact kq1 (i5 [_,_] 1 (.add zA nA) (.num 2) 1 (.add zB nA) zA zB (.num 0) tT hj hij) (ln0 [_] (.num 0) zA tT)
   have:j=1:=by exact kq1 (d6 [_] 1 (.add zA nA) (.num 2) zA nA tT hj) (d6 [_,_] 1 (.add zA nA) zB nA zB tT hij)
   subst i j
   exact e
  ·(refine w6 h ?_;clear h;intro q1 q2 q3 q4 q5)
   refine a5 q2 (a5 (if_neg (by exact nx9 (jv2 tT))) (a5 q1 ?_))
   exact hk8 hx P (by exact i5 [_,_,_] 1 zA (.add (.num 2) zB) 1 (.add zB (.num 2)) zC zA zC tT q4 (sC (h2))) (by exact d6 [_] 1 (.num 2) zA nA zA tT q3) q5
theorem aw2 (P:Pm n p) {k:Nat} (hk:k<n):∀ f l r,l≤r→r≤k→r - l≤f→(∀ i,i<l→vx x p i<vx x p k)→(∀ i,r≤i→i<k→vx x p k<vx x p i)→Asc x p k →
  KOk n (ltx x) (kas_place p k f l r) fun d=>d≤k∧(∀ i,i<d→vx x p i<vx x p k)∧∀ i,d≤i→i<k→vx x p k<vx x p i
 | 0,l,r,h1,h2,h3,h4,h5,a=>⟨by exact i5 [_,_,_] 1 zA zB 1 zC zA zC zB tT h2 h1,h4,fun i hi hk=>h5 i (by exact T5 [_,_,_,_] 1 zA zB 1 zC (.num 0) 1 zD (.add zC zA) zD zB tT hi h3 sA) hk⟩
 | f+1,l,r,h1,h2,h3,h4,h5,a=>by
  dsimp only [kas_place]
  by_cases h:l ≥ r
  ·refine a5 (if_pos h) ?_
   exact ⟨by exact i5 [_,_,_] 1 zA zB 1 zC zA zC zB tT h2 h1,h4,fun i hi hk=>h5 i (by exact i5 [_,_,_] 1 zA zB 1 zC zA zC zB tT hi h) hk⟩
  refine a5 (if_neg h) ?_
  have hm:=jx5 h
  have mk:=kw8 hm.2 h2
  refine ⟨P.lt hk,P.lt (lj2 mk hk),?_⟩
  generalize e:ltx x (p.getD k 0) (p.getD ((l+r) / 2) 0)=y_;induction y_ using Ql with
  | true =>
   have e:vx x p k<vx x p ((l+r) / 2):=of_decide_eq_true e
   refine aw2 P hk f l ((l+r) / 2) hm.1 (lq8 mk) (lz2 (kw8 (mv2 hm.1 hm.2) h3)) h4 (fun i hi hk=>?_) a
   by_cases e2:i=(l+r) / 2
   ·refine a5 e2 ?_;exact e
   ·exact lv3 e (a _ _ (lj7 hi (Ne.symm e2)) hk)
  | false =>
   have e:=P.flip hx hk (lj2 mk hk) (kj2 mk) e
   refine aw2 P hk f ((l+r) / 2+1) r hm.2 h2 (lz2 (kw8 (lw9 (kj8 hm.1 hm.2) (nq7 hm.1)) h3)) (fun i hi=>?_) h5 a
   by_cases e2:i=(l+r) / 2
   ·refine a5 e2 ?_;exact e
   ·exact lv3 (a i _ (lj7 (lz2 hi) e2) mk) e
theorem hx7:∀ f k {p:Array Nat},Pm n p→k+f=n→Asc x p k→KOk n (ltx x) (kas_bin f p k) fun r=>Pm n r∧Asc x r n
 | 0,k,p,P,h,a=>⟨P,by refine p8 h ?_;exact a⟩
 | f+1,k,p,P,h,a=>by
  refine KOk.bind ((aw2 hx P (k:=k) (by exact d6 [_,_,_] 1 (.add zA (.add zB nA)) zC (.add zA nA) zC tT (o7 h)) k 0 k (kx0 _) (jw4 _) (by exact (kj7 _ _)) (fun i hi=>absurd hi (lz8 _)) (fun i h1 h2=>absurd h2 (nx9 h1)) a).mono fun d hd=>?_)
  (refine J7 hd ?_;clear hd;intro h1 h2 h3)
  refine hx7 f (k+1) (P.bub k (k - d)) (by exact kq1 (d6 [_,_,_] 1 (.add zA (.add zB nA)) zC (.add (.add zA nA) zB) zC tT (o7 h)) (d6 [_,_,_] 1 zA (.add zB (.add zC nA)) zA (.add (.add zB nA) zC) tT (H6 h))) fun i j hij hj=>?_
  have hs:k<p.size:=by refine a5 P.size ?_;exact d6 [_,_,_] 1 (.add zA (.add zB nA)) zC (.add zA nA) zC tT (o7 h)
  have at_:∀ y,vx x (bubble p k (k - d)) y=if y=d then vx x p k else if d<y∧y≤k then vx x p (y - 1) else vx x p y:=fun y=>by
   have:=getElem?_bubble hs (k - d) (by exact (kj7 _ _)) y
   rw [Nat.sub_sub_self h1] at this
   by_cases e1:y=d
   ·rw [if_pos e1] at this ⊢;exact V8 this
   ·rw [if_neg e1] at this ⊢
    by_cases e2:d<y∧y≤k
    ·rw [if_pos e2] at this ⊢;exact V8 this
    ·rw [if_neg e2] at this ⊢;exact V8 this
  refine a5 (at_ ..) (a5 (at_ ..) ?_)
  by_cases e1:i=d
  ·refine a5 (if_pos e1) (a5 (if_neg (kj2 (e1▸hij))) (a5 (if_pos (by exact ⟨i5 [_,_,_] 1 zA zB 1 (.add zB nA) zC (.add zA nA) zC tT (H6 e1) hij,d6 [_,_] 1 (.add zA nA) (.add zB nA) zA zB tT hj⟩)) ?_))
   exact h3 _ (by exact T5 [_,_,_,_] 1 zA zB 1 (.add zB nA) zC 1 zC (.add zD nA) zA zD tT (H6 e1) hij sA) (by exact i5 [_,_,_] 1 (.add zA nA) (.add zB nA) 1 (.add zC nA) zA (.add zC nA) zB tT hj (sC (d6 [_,_] 1 (.add zA nA) zB nA zB tT hij)))
  refine a5 (if_neg e1) ?_
  by_cases e2:j=d
  ·refine a5 (if_pos e2) (a5 (if_neg (fun q=>lk6 _ (lj2 q.1 (e2▸hij)))) ?_)
   exact h2 i (by exact i5 [_,_,_] 1 zA zB 1 (.add zC nA) zA (.add zC nA) zB tT (o7 e2) hij)
  refine a5 (if_neg e2) ?_
  by_cases e3:d<i∧i≤k
  ·refine a5 (if_pos e3) (a5 (if_pos (by exact ⟨i5 [_,_,_] 1 (.add zA nA) zB 1 (.add zB nA) zC (.add zA nA) zC tT e3.1 hij,d6 [_,_] 1 (.add zA nA) (.add zB nA) zA zB tT hj⟩)) ?_)
   exact a _ _ (by exact T5 [_,_,_,_] 1 (.add zA nA) zB 1 (.add zC nA) zA 1 zB (.add zD nA) (.add zC nA) zD tT hij (sC (d6 [_,_] 1 (.add zA nA) zB nA zB tT e3.1)) sA) (by exact i5 [_,_,_] 1 (.add zA nA) (.add zB nA) 1 (.add zC nA) zA (.add zC nA) zB tT hj (sC (i5 [_,_,_] 1 (.add zA nA) zB 1 (.add zB nA) zC nA zC tT e3.1 hij)))
  refine a5 (if_neg e3) ?_
  by_cases e4:d<j∧j≤k
  ·refine a5 (if_pos e4) ?_
   by_cases e5:i=j - 1
   ·exact absurd ⟨lj7 (by refine a5 e5 ?_;exact lw2 e4.1) (Ne.symm e1),by refine a5 e5 ?_;exact jw9 (kj7 _ _) e4.2⟩ e3
   ·exact a _ _ (lj7 (lw2 hij) e5) (by exact i5 [_,_,_] 1 zA zB 1 (.add zC nA) zA (.add zC nA) zB tT e4.2 (sC (d6 [_,_] 1 (.add zA nA) zB nA zB tT e4.1)))
  ·refine a5 (if_neg e4) ?_
   exact a _ _ (by exact hij) (by lia)
theorem hv2 (h2:2≤n):KOk n (ltx x) (kas_sort n) fun r=>Pm n r∧Asc x r n:=by
 refine KOk.bind ((gw0 hx ⟨.refl _⟩ h2).mono fun r h=>?_)
 (refine G9 h ?_;clear h;intro l1 l2 P a)
 by_cases hr:r.1<n
 ·refine a5 (if_pos hr) (a5 (show max r.1 1=r.1 by lia) ?_)
  exact hx7 hx _ _ P (by exact kq1 (d6 [_,_,_] 1 (.add zA zB) zC (.add zB zA) zC tT (sC (d6 [_,_] 1 (.add zA nA) zB zA zB tT hr))) (d6 [_,_,_] 1 zA (.add zB zC) zA (.add zC zB) tT sA)) a
 ·refine a5 (if_neg hr) ?_
  have:r.1=n:=by exact kq1 (l2) ((kx8 hr))
  exact ⟨P,by refine p8 this ?_;exact a⟩
end
section
noncomputable def RawD (h:Heap) (d:Addr) (es:Array DictEntry) (ep:Nat):Prop:=∃ o,h.get? d=some o∧o.ExactDict∧o.data=.dict es ep
section
variable {pG:Program} {w:World} {A:Around} {E:Value→Shared→Prop} {s:Shared} {d it:Addr} {es:Array DictEntry} {ep i:Nat}
theorem RawD.keeps {h h':Heap} (x:RawD h d es ep) (k:∀ o,h.get? d=some o→h'.get? d=some o):RawD h' d es ep:=let ⟨o,e,r⟩:=x;⟨o,k o e,r⟩
theorem RawD.typeIs (x:RawD s.heap d es ep):s.TypeIs (.ref d) "dict":=let ⟨o,e,r⟩:=x;⟨o,e,r.1.1⟩
theorem dw4 {α:Type} (hh:A.handled=none) {Q:α→Shared→Prop} (h:∀ a h',Sub s.heap h'→({ s with heap:=h' }:Shared).TypeIs (.ref a) "StopIteration"→E (.ref a) { s with heap:=h' }) :
  wpAny (model pG w) A (do raiseNew (← newExc (.type "StopIteration") [])) Q E s:=by
 refine jk9 ?_
 simp only [newExc,newTuple]
 refine jk9 (kj5 ?_ (by exact jv2 tT))
 refine jk9 (m:=firstArgMember _ _) (mq3 (a:=Value.none) (by first | rfl | (simp only [firstArgMember];rfl)) ?_)
 refine kj5 ?_ (by size_fits)
 simp only [raiseNew]
 refine jk9 (wpAny_handled ?_)
 refine a5 hh ?_
 refine jk9 (jv5 (wpAny_throw ?_))
 exact h _ _ (fun b o e=>Qb _ (Qb _ e)) ⟨_,Qc _ rfl,rfl⟩
theorem gq4 {Q:Value→Shared→Prop} (hd:(d == sysModules)=false) (hm:RawD s.heap d es ep)
  (hQ:Q (.ref s.heap.objs.size) { s with heap:=s.heap.push { cls:=.type "dict_keyiterator",data:=.fields #[.ref d,.int 0 0,.int es.size 0,.int ep 0] } }):wpAny (model pG w) A (pyIter (.ref d)) Q E s:=by
 have hT:=hm.typeIs
 (refine o9 hm ?_;clear hm;intro o ho hc hdat)
 refine mz3 hT F.slot_dict_iter (kv6 F.slot_dict_iter hT F.entry_dict_iter ?_ (F.args_dict_iter_1 _))
 unfold Builtin.«dict.__iter__»
 refine jk9 ?_
 unfold Builtin.Dict.dictSlotNone
 refine jk9 (nq5 hT ?_)
 refine (?_:wpAny _ _ (pure (Value.ref d)) _ _ s)
 refine jv5 ?_
 refine (?_:wpAny _ _ (Builtin.Dict.showsAll d >>= _) _ _ s)
 unfold Builtin.Dict.showsAll
 refine a5 (if_neg (by refine a5 hd ?_;exact lx6)) ?_
 refine jk9 (jv5 (jk9 (wpAny_dictEntries ho hdat (jk9 (wpAny_dictEpoch ho hdat ?_)))))
 exact jk9 (kj5 (jv5 ⟨_,rfl,"dict_keyiterator",_,⟨_,Qc _ rfl,rfl⟩,F.slot_dict_keyiterator_next.lookup,hQ⟩))
theorem ck0 {Q:Option Value→Shared→Prop} (hh:A.handled=none) (hit:s.heap.IsKeyIter it d i es.size ep) (hm:RawD s.heap d es ep)
  (hi:∀ e h',es[i]?=some e→h'.IsKeyIter it d (i+1) es.size ep→Heap.SameBut it s.heap h'→Q (some e.key) { s with heap:=h' })
  (hn:es[i]?=none→∀ h',Heap.ExtBut it s.heap h'→Q none { s with heap:=h' }):wpAny (model pG w) A (pyNext (.ref it)) Q E s:=by
 have hT:=hit.typeIs
 (refine o9 hit ?_;clear hit;intro o ho hc hd)
 (refine o9 hm ?_;clear hm;intro od hod hcd hdd)
 unfold pyNext
 refine jk9 (mv1 (lv8 (name:=Str.ofString "__next__") hT F.slot_dict_keyiterator_next
  (kv6 F.slot_dict_keyiterator_next hT F.entry_dict_keyiterator_next ?_ (F.args_dict_keyiterator_next_1 _))))
 refine jk9 (jv5 (jk9 (jk9 (jk9 (lj1 hT (jv5 (jk9 (wpAny_fieldsOf ho hd ?_))))))))
 refine (?_:wpAny _ _ (if (Value.ref d == Value.none)=true then _ else _) _ _ s)
 refine a5 (if_neg (show ¬((Value.ref d == Value.none)=true) from lx6)) ?_
 refine jk9 (jv5 (jk9 (wpAny_dictEntries hod hdd ?_)))
 refine a5 (if_neg (by simp)) ?_
 refine jk9 (jv5 (jk9 (wpAny_dictEpoch hod hdd ?_)))
 refine a5 (if_neg (by simp)) ?_
 refine jv5 ?_
 dsimp only
 refine a5 ((if_neg (show ¬((i:Int)<0) from by lia)) ..) (a5 (mx3 ..) ?_)
 cases e:es[i]? with
 | some e1 =>
  refine jk9 (jk9 (lj1 hT (jv5 ?_)))
  refine jk9 (nq6 hT ?_)
  refine (?_:wpAny _ _ (setField (.ref it) 1 (rawInt ((i:Int)+1)) >>= _) _ _ s)
  refine jk9 (kv1 ho hd (by exact (jv2 tT)) ?_)
  have hit':(s.heap.update it (Qn (·.setIfInBounds 1 (rawInt ((i:Int)+1))))).IsKeyIter it d (i+1) es.size ep :=
   ⟨_,Qj _ ho (Obj.isFreed_of_fields (Obj.data_mapFields hd _)),(Obj.cls_mapFields ..).trans hc,by rw [Obj.data_mapFields hd];rfl⟩
  refine jk9 (kx6 ?_)
  refine jk9 (nq6 (s:={ s with heap:=s.heap.update it (Qn (·.setIfInBounds 1 (rawInt ((i:Int)+1)))) }) hit'.typeIs ?_)
  refine (?_:wpAny _ _ (pure e1.key) _ _ _)
  exact jv5 (jv5 ⟨_,rfl,jv5 (hi e1 _ e hit' (Heap.SameBut.update ..))⟩)
 | none =>
  refine jk9 (jk9 (lj1 hT (jv5 ?_)))
  refine (?_:wpAny _ _ (setField (.ref it) 0 .none >>= _) _ _ s)
  refine jk9 (kv1 ho hd (by exact kx3 _) ?_)
  refine dw4 (A:=A.in1) hh fun a h' k ht=>?_
  refine jk9 (mj4 (T:="StopIteration") (b:=true) ht isSubtype_stop ?_)
  exact jv5 (hn e _ fun b o n q=>k b o ((Heap.SameBut.update s.heap it _).extBut b o n q))
theorem Walks.raw (hh:A.handled=none) (I d:Addr) (hne:d≠I) (es:Array DictEntry) (ep:Nat) :
  Walks pG w A I [I,d] [I] es.size (fun i v=>∃ e,es[i]?=some e∧v=e.key) (fun i h=>h.IsKeyIter I d i es.size ep∧RawD h d es ep) where
 sub:=fun b hb=>by simp at hb;simp [hb]
 frame:=fun u_ u_ u_ st hk=>⟨st.1.at fun o e=>hk I (by exact jv0) o e,st.2.keeps fun o e=>hk d (by simp) o e⟩
 item:=fun i s Q E hi st hQ=>ck0 hh st.1 st.2 (fun e h' he hit hs=>hQ _ h' s.toks ⟨e,he,rfl⟩ ⟨hit,st.2.keeps fun o q=>hs.extBut d o hne q⟩ fun b o hb q=>hs.extBut b o (fun h=>hb (by simp [h])) q)
  fun h=>by rw [kx4 hi] at h;exact ns h
 done:=fun s Q E st hQ=>ck0 hh st.1 st.2 (fun e h' he u_ u_=>by simp at he) fun u_ h' hs=>hQ h' s.toks fun b o hb q=>hs b o (fun h=>hb (by simp [h])) q
 self:=fun u_ u_ u_ u_ st hQ=>wpAny_pyIter_keyiter st.1 hQ
theorem iq9 (lo:(d == sysModules)=false):KdlSrc pG w "dict" d d es.size (fun i v=>∃ e,es[i]?=some e∧v=e.key) (fun h=>RawD h d es ep) where
 type:=fun u_ hm=>hm.typeIs
 there:=fun u_ hm=>let ⟨o,e,_⟩:=hm;⟨Qi e,Qi e⟩
 keep:=fun u_ u_ hm hk=>hm.keeps fun o e=>hk d (.inl rfl) o e
 notList:=by rfl
 notTuple:=by rfl
 hint:=fun u_ u_ u_ u_ hm hq=>kdl_hint_dict hm.typeIs hq
 iter:=fun u_ s hh hm=>⟨_,_,(fun u_ u_ hq=>gq4 lo hm hq),Walks.raw hh _ d (let ⟨_,e,_⟩:=hm;kz1 (Qi e)) es ep,⟨⟨_,Qc _ rfl,rfl,rfl⟩,hm.keeps fun o e=>Qb _ e⟩⟩
theorem av3 {T:String} {r:Addr} {n:Nat} {P:Nat→Value→Prop} {OK:Heap→Prop} {Q:Value→Shared→Prop} (K:KdlSrc pG w T r d n P OK) (hh:A.handled=none) (hok:OK s.heap) (hn:n≤sizeLine)
  (h:∀ (h':Heap) (tk:Nat) (vs:List Value),Sub s.heap h'→vs.length=n→(∀ j v,vs[j]?=some v→P j v) →
   wpAny (model pG w) A.in1.in1 (Builtin.«list.sort» ⟨[.ref h'.objs.size],[]⟩) (fun f s'=>f=.done (.ret .none)∧Q (.ref h'.objs.size) s') (fun u_ u_=>False) { s with heap:=h'.push (seqObj "list" vs.toArray 0),toks:=tk }) :
  wpAny (model pG w) A (call (.builtin "sorted") [.ref r]) Q E s:=by
 refine call_function_entry kind_sorted plain_sorted entry_sorted (args_sorted1 _) ?_
 unfold Builtin.«sorted»
 refine jk9 (m:=checkCount "sorted" 1 1 _) (jv5 ?_)
 refine jk9 (kdu_collect (A:=A.in1) K hh hok hn fun h' tk acc hk hacc=>?_)
 have hl:acc.toList.length=n:=by refine a5 jw2 ?_;exact hacc.1
 refine jk9 (lj0 ?_ (by refine a5 hl ?_;exact hn))
 refine jk9 (kx6 (kv6 slot_list_sort ⟨_,Qc _ rfl,rfl⟩ entry_list_sort ?_ (args_list_sort _)))
 refine kx7 (h h' tk acc.toList hk hl fun j v e=>hacc.2 j v (by refine p8 (kq7) ?_;exact e)) (fun f s' x=>?_) fun u_ u_ x=>x.elim
 (refine oA x ?_;clear x;rintro rfl q)
 exact ⟨_,rfl,jv5 ⟨_,rfl,q⟩⟩
end
end
section
noncomputable def N4 (x:Int):PyData:=.tuple [.int x]
theorem bw8 {g:Heap} {v:Value} {x:Int} (r:Rd g v (N4 x)):∃ a t n dd sl,v=.ref a∧g.get? a=some { cls:=.type "tuple",dict:=dd,data:=.seq #[.int x t] n,slots:=sl }:=by
 refine oE r fun as r=>?_
 (refine k8 (rdi r) ?_;rintro a o vs m y;refine w6 y ?_;clear y;rintro rfl h1 h2 h3 h4)
 obtain ⟨l⟩:=vs
 obtain ⟨cls,dd,data,sl⟩:=o
 obtain ⟨v1,l1,_,_,f1,q1,h4⟩:=X0 h4
 have f2:l1=[]:=X0 h4
 refine oE (rdi q1) fun t f3=>?_
 have f1:l=_:=f1
 have h2:cls=_:=h2
 have h3:data=_:=h3
 subst f2 f3 f1 h2 h3
 exact ⟨a,t,m,dd,sl,rfl,h1⟩
theorem bk4 (ks:List Int) (k:Nat):(ks.map N4).getD k (N4 0)=N4 (ks.getD k 0):=by
 refine a5 (lq4) (a5 (lq4) (a5 (jw7) ?_))
 cases ks[k]? <;> rfl
theorem All2.getD {α β:Type} {R:α→β→Prop} {l:List α} {m:List β} (h:All2 R l m) {a:α} {b:β} {i:Nat} (hi:i<l.length):R (l.getD i a) (m.getD i b):=by
 have hj:i<m.length:=by refine p8 h.length ?_;exact hi
 refine c9 (h.get' (jw0 hi)) fun y e r=>?_
 refine a5 (lq4) (a5 (lq4) (a5 e (a5 (jw0 hi) ?_)))
 exact r
theorem All2.mapI {α β:Type} {R:α→β→Prop} {f:Nat→α} {g:Nat→β} {l:List Nat}:(∀ i∈l,R (f i) (g i))→All2 R (l.map f) (l.map g):=by
 induction l with
 | nil=>exact fun u_=>.nil
 | cons _ _ ih=>exact fun h=>.cons (h _ (jv0 ..)) (ih fun i m=>h i (jv3 _ m))
theorem pw2 {α:Type} {R:α→α→Prop} {l:List α} (h:l.length<2):l.Pairwise R:=by
 induction l using Qh with
 | nil=>exact .nil
 | cons a t =>
  induction t using Qh with
  | nil=>exact lk7 ..
  | cons=>exact absurd (mk6 (mk6 h)) (lz8 _)
theorem KatTups.of {h:Heap} {vs:List Value} {ks:List Int} (r:RdL h vs (ks.map N4)):∃ fs,KatTups h vs fs∧fs.length=vs.length∧∀ v∈fs,∃ x t,v=.int x t:=by
 induction ks generalizing vs with
 | nil=>cases r;exact ⟨[],.nil,rfl,(fun _ h=>absurd h kq8)⟩
 | cons k ks ih =>
  cases r with
  | cons r rs =>
   refine o9 (ih rs) fun fs h1 h2 h3=>?_
   obtain ⟨a,t,n,dd,sl,rfl,e⟩:=bw8 r
   refine ⟨.int k t::fs,.cons e rfl rfl rfl h1,by simp [h2],fun v hv=>?_⟩
   rcases jv6.mp hv with rfl | hv
   ·exact ⟨k,t,rfl⟩
   ·exact h3 v hv
section
variable {pG:Program} {w:World} {A:Around} {E:Value→Shared→Prop} {s:Shared} {a:Addr} {vs:List Value} {ks:List Int} {g:Heap}
theorem ek4 {m:Nat} {P:PySem.Fin→Shared→Prop} (ho:s.heap.get? a=some (seqObj "list" vs.toArray m)) (hg:Sub g s.heap) (na:g.get? a=none) (hr:RdL g vs (ks.map N4)) (nd:ks.Nodup) (h64:vs.length<64)
  (h:∀ (out:Array Value) (ks':List Int),RdL g out.toList (ks'.map N4)→ks'.Perm ks→ks'.Pairwise (·<·)→P (.done (.ret .none)) { s with heap:=sortedHeap s.heap a vs out }):wpAny (model pG w) A (Builtin.«list.sort» ⟨[.ref a],[]⟩) P E s:=by
 refine a5 (list_sort_plain ..) ?_
 have ha:a<s.heap.objs.size:=Qi ho
 have hlen:vs.length=ks.length:=by have:=hr.length;simpa using this
 refine jk9 (listItems_at ho rfl ?_)
 refine jk9 (listUpdate_at ho rfl ?_)
 obtain ⟨e1,ho1⟩:∃ e1,(s.heap.update a (Obj.mapSeq fun u_=>#[])).get? a=some (seqObj "list" #[] e1):=⟨_,get?_update_seq ho (fun u_=>#[])⟩
 refine jk9 (seqEpoch_at ho1 rfl ?_)
 refine jk9 (mk5 ?_)
 refine jk9 (lj0 ?_)
 refine kx6 ?_
 have ho6:(((s.heap.update a (Obj.mapSeq fun u_=>#[])).push (seqObj "tuple" vs.toArray 0)).push (seqObj "list" #[] 0)).get? a=some (seqObj "list" #[] e1):=Qb _ (Qb _ ho1)
 have hg6:Sub g (((s.heap.update a (Obj.mapSeq fun u_=>#[])).push (seqObj "tuple" vs.toArray 0)).push (seqObj "list" #[] 0)):=fun b o e=>by
  refine Qb _ (Qb _ ((Qk _ _ fun h=>?_).trans (hg b o e)))
  rw [← h,na] at e;exact nn e
 refine (?_:wpAny (model pG w) A _ P E { s with heap:=((s.heap.update a (Obj.mapSeq fun u_=>#[])).push (seqObj "tuple" vs.toArray 0)).push (seqObj "list" #[] 0) })
 dsimp only
 by_cases h2:vs.toArray.size<2
 ·refine a5 (if_pos h2) (a5 (if_pos h2) ?_)
  refine jk9 (jv5 ?_)
  refine a5 (StateT.run_pure ..) ?_
  refine jk9 (jv5 ?_)
  dsimp only
  refine jk9 (seqEpoch_at ho6 rfl ?_)
  refine jk9 (listUpdate_at ho6 rfl ?_ (hsz2:=by refine a5 Array.size_map ?_;refine (?_:(pairsOf vs).size≤_);refine a5 (pairsOf_size ..) (a5 (sizeLine_eq ..) ?_);exact d6 [_] 1 (.add zA nA) (.num 64) zA (.num 16777217) tT h64))
  simp only [bne_self_eq_false,kk7,if_false]
  have e:((vs.toArray.zip vs.toArray).map (·.2))=vs.toArray:=nq2.mp (by simp [List.map_snd_zip])
  refine a5 (show arrOf (SortSt.mk' general' (vs.toArray.zip vs.toArray) #[] 7 none)=vs.toArray.zip vs.toArray from rfl) (a5 e ?_)
  refine jv5 (h vs.toArray ks hr (.refl _) ?_)
  have h2:ks.length<2:=by refine p8 hlen ?_;trivial
  exact pw2 h2
 ·refine a5 (if_neg h2) (a5 (if_neg h2) ?_)
  have h2:2≤vs.length:=by simpa using h2
  refine o9 (KatTups.of (hr.mono hg6)) fun fs t1 t2 t3=>?_
  refine jk9 (kat_kind (T:=.type "int") t1 (by exact i5 [_,_] 1 zA zB 1 (.num 2) zA (.add (.num 0) nA) zB tT (H6 t2) h2) (fun v hv=>by (refine oEE (t3 v hv) ?_;rintro x t rfl);exact .now) (by rfl) ?_)
  have lex:∀ i j C,i<vs.length→j<vs.length→C (ltx (fun i=>ks.getD i 0) i j) { s with heap:=((s.heap.update a (Obj.mapSeq fun u_=>#[])).push (seqObj "tuple" vs.toArray 0)).push (seqObj "list" #[] 0) } →
    kas_ask pG w A (tuples' (Value.type "int" != Value.type "tuple")) vs i j C { s with heap:=((s.heap.update a (Obj.mapSeq fun u_=>#[])).push (seqObj "tuple" vs.toArray 0)).push (seqObj "list" #[] 0) }:=fun i j C hi hj hC=>by
   have at_:∀ k,k<vs.length→Rd g (vs.getD k .none) (N4 (ks.getD k 0)):=fun k hk=>by
    have:=hr.getD (a:=Value.none) (b:=N4 0) hk
    rwa [bk4] at this
   refine k8 (bw8 (at_ i hi)) fun a1 u1 n1 d1 y=>c9 y fun l1 q1 q2=>?_
   refine k8 (bw8 (at_ j hj)) fun a2 u2 n2 d2 y=>c9 y fun l2 r1 r2=>?_
   unfold kas_ask
   refine a5 q1 (a5 r1 ?_)
   refine kat_lt (hg6 _ _ q2) rfl (hg6 _ _ r2) rfl (kat_cons (lv7 ?_))
   have hC:C (decide (ks.getD i 0<ks.getD j 0)) _:=hC
   by_cases e:ks.getD i 0=ks.getD j 0
   ·refine a5 (show (ks.getD i 0 == ks.getD j 0)=true by exact decide_eq_true e) ?_
    refine kat_yes (kat_nil ?_)
    rw [show decide (ks.getD i 0<ks.getD j 0)=false from decide_eq_false (by refine a5 e ?_;exact Int.lt_irrefl _)] at hC
    exact hC
   ·refine a5 (show (ks.getD i 0 == ks.getD j 0)=false by exact if_neg e) ?_
    exact kat_no (oneLt_int hC)
  refine jk9 (kx7 (kat_run (ks:=vs) (vs:=vs) (Q:=fun st' s'=>s'={ s with heap:=((s.heap.update a (Obj.mapSeq fun u_=>#[])).push (seqObj "tuple" vs.toArray 0)).push (seqObj "list" #[] 0) }∧failedOf st'=none∧∃ p,arrOf st'=p.map (kas_item (vs.toArray.zip vs.toArray))∧Pm vs.length p∧Asc (fun i=>ks.getD i 0) p vs.length) rfl h2 h64
   (fun p st' s' h1 h2 h3 h4=>⟨h4.1,h3,p,h2,h4.2⟩) ((hv2 (x:=fun i=>ks.getD i 0) (fun i j hi hj e=>?_) h2 |>.mono fun p hp=>⟨rfl,hp⟩).wp (Q:=fun p s'=>s'=_∧Pm vs.length p∧Asc (fun i=>ks.getD i 0) p vs.length) lex)) ?_ fun u_ u_ e=>e)
  ·have hi':i<ks.length:=by exact i5 [_,_,_] 1 (.add zA nA) zB 1 zB zC (.add zA nA) zC tT hi (o7 hlen)
   have hj':j<ks.length:=by exact i5 [_,_,_] 1 (.add zA nA) zB 1 zB zC (.add zA nA) zC tT hj (o7 hlen)
   have e:ks[i]=ks[j]:=by simpa [hi',hj'] using e
   exact (List.getElem_inj nd).mp e
  rintro ⟨⟨⟩,st'⟩ s' ⟨rfl,hf,p,hp,P1,P2⟩
  dsimp only
  refine jk9 (seqEpoch_at ho6 rfl ?_)
  refine a5 (kat_snds rfl hp) (a5 hf ?_)
  refine jk9 (listUpdate_at ho6 rfl ?_ (hsz2:=by refine a5 (lz0 ..) (a5 (jv1 ..) (a5 (jw2 ..) (a5 (P1.size ..) (a5 (sizeLine_eq ..) ?_))));exact d6 [_] 1 (.add zA nA) (.num 64) zA (.num 16777217) tT h64))
  simp only [bne_self_eq_false,kk7,if_false]
  have pl:p.toList.Perm (Qg vs.length):=lj3.mp P1.perm
  refine jv5 (h _ (p.toList.map fun i=>ks.getD i 0) ?_ ?_ ?_)
  ·refine a5 jw5 ?_
   refine All2.mapI fun i hi=>?_
   have hi:i<vs.length:=by simpa using pl.mem_iff.mp hi
   have:=hr.getD (a:=Value.none) (b:=N4 0) hi
   rwa [bk4] at this
  ·refine (pl.map _).trans (.of_eq ?_)
   apply List.ext_getElem
   ·simp [hlen]
   ·intro i h1 h2
    simp [h2]
  ·rw [lq9]
   intro i j hi hj hij
   have hj:j<vs.length:=by simpa [P1.size] using hj
   have at_:∀ k (hk:k<(p.toList.map fun i=>ks.getD i 0).length),(p.toList.map fun i=>ks.getD i 0)[k]=vx (fun i=>ks.getD i 0) p k:=fun k hk=>by
    have hk:k<p.size:=by simpa using hk
    simp [vx,hk]
   refine a5 (at_ ..) (a5 (at_ ..) ?_)
   exact P2 i j hij hj
end
end
section
noncomputable def M4 {α:Type} [DecidableEq α] (acc:List α) (k:α):List α:=if k∈acc then acc else acc++[k]
noncomputable def O4 {α:Type} [DecidableEq α] (l:List α):List α:=l.foldl M4 []
theorem dk3 {α:Type} [DecidableEq α] {l:List α} {i:Nat} {k:α} (h:l[i]?=some k):O4 (l.take (i+1))=M4 (O4 (l.take i)) k:=by
 unfold O4
 refine a5 List.take_add_one (a5 h (a5 List.foldl_append ?_));rfl
theorem hz2 {α:Type} [DecidableEq α] {acc:List α} {k x:α}:x∈M4 acc k ↔ x∈acc∨x=k:=by
 unfold M4
 split
 ·exact ⟨.inl,fun h=>h.elim id fun e=>e▸‹_›⟩
 ·simp
set_option tactic.hygienic true in
theorem dv7 {α:Type} [DecidableEq α] {acc:List α} {k:α} (h:acc.Nodup):(M4 acc k).Nodup:=by
 unfold M4
 split
 ·exact h
 ·rename_i hn
  exact kq9.mpr ⟨h,by simp,fun a ha b hb e=>hn (by refine p8 (jv4.mp hb) (p8 e ?_);exact ha)⟩
theorem ax6 {α:Type} [DecidableEq α] (l:List α):(O4 l).Nodup∧(∀ x,x∈O4 l ↔ x∈l)∧(O4 l).length≤l.length:=by
 have main:∀ (l acc:List α),acc.Nodup→(l.foldl M4 acc).Nodup∧(∀ x,x∈l.foldl M4 acc ↔ x∈acc∨x∈l)∧(l.foldl M4 acc).length≤acc.length+l.length:=by
  intro l
  induction l with
  | nil=>intro acc h;exact ⟨h,fun x=>by simp,jw4 _⟩
  | cons k l ih =>
   intro acc h
   refine J7 (ih (M4 acc k) (dv7 h)) fun h1 h2 h3=>?_
   refine ⟨h1,fun x=>(h2 x).trans ?_,jw9 h3 ?_⟩
   ·rw [hz2,jv6,or_assoc]
   ·have:(M4 acc k).length≤acc.length+1:=by unfold M4;split <;> simp
    refine a5 lq6 ?_;exact d6 [_,_,_] 1 zA (.add zB nA) (.add zA zC) (.add zB (.add zC nA)) tT this
 refine J7 (main l [] .nil) fun h1 h2 h3=>?_
 exact ⟨h1,fun x=>(h2 x).trans (by simp),jw9 h3 (by simp)⟩
noncomputable def w0 (k:List Int):PyData:=.tuple (k.map .int)
section
variable {pG:Program} {w:World} {hb:Heap} {n:Nat} {X:Xs} {H:HL}
noncomputable def TDict (pG:Program) (w:World) (ks:List (List Int)) (h:Heap) (v:Value):Prop:=∃ D xs,v=.ref D∧h.DictOfH (tupleKind (intKind pG w)) D xs∧xs.map (·.1)=ks∧(D == sysModules)=false
theorem O2 {g h:Heap} (k:Sub g h) {x:List Int} {a:Addr} (y:IsTupleKey (intKind pG w) g x a):IsTupleKey (intKind pG w) h x a:=y.elim fun o y=>⟨o,y.elim fun i y=>⟨i,y.elim fun m y=>⟨m,k _ _ y.1,y.2⟩⟩⟩
theorem TDict.mono {g h:Heap} (k:Sub g h) {ks:List (List Int)} {v:Value} (x:TDict pG w ks g v):TDict pG w ks h v:=by
 refine a8 x fun D xs e y r=>?_
 exact ⟨D,xs,e,y.elim fun o y=>⟨o,y.elim fun es y=>⟨es,y.elim fun ep y=>⟨ep,k _ _ y.1,y.2.1,y.2.2.1,y.2.2.2.1,fun x hx=>O2 k (y.2.2.2.2.1 x hx),y.2.2.2.2.2⟩⟩⟩,r⟩
theorem cj2 {Z:List Addr} {s:Shared} {v:Value} {ks:List (List Int)} (r:RepV pG w (f7 s Z) v (.any (TDict pG w ks))):TDict pG w ks (f7 s Z) v:=by
 exact c9 r.inv fun g k r=>r.mono k
theorem gj4 {h:Heap} {k:List Int} {vs:List Value} (x:ItemsAre (intKind pG w) k vs):∃ as,ReadsAll h vs (k.map .int) as:=by
 induction x with
 | nil=>exact ⟨_,.nil⟩
 | cons e _ ih =>
  (refine oE (Value.isInt_shape e) ?_;rintro u rfl)
  exact ih.elim fun as r=>⟨_,.cons (.int _ _) r⟩
theorem gq3 {h:Heap} {k:List Int}:∀ {vs:List Value} {as:List Addr},ReadsAll h vs (k.map .int) as→ItemsAre (intKind pG w) k vs:=by
 induction k with
 | nil=>exact fun {vs as} r=>(show vs=[] from X0 r)▸.nil
 | cons i k ih =>
  intro vs as r
  obtain ⟨v,us,_,_,rfl,e,t⟩:=X0 r
  (refine oE (rdi e) ?_;rintro u rfl)
  exact .cons (intKind_is ..) (ih t)
theorem jz3 {h:Heap} {k:List Int} {a:Addr} (x:IsTupleKey (intKind pG w) h k a):Rd h (.ref a) (w0 k):=by
 obtain ⟨_,_,_,h1,h2,h3,h4⟩:=x
 exact (gj4 h4).elim fun u_ r=>⟨_,.tuple h1 h2 h3 r⟩
theorem gq2 {h:Heap} {k:List Int} {v:Value} (r:Rd h v (w0 k)):∃ a,v=.ref a∧IsTupleKey (intKind pG w) h k a:=by
 refine oE r fun as r=>?_
 exact k8 (rdi r) fun a o vs m y=>w6 y fun e h1 h2 h3 r=>⟨_,e,_,_,_,h1,h2,h3,gq3 r⟩
theorem ew1 {k:List Int} {ks:List (List Int)} {Q:VP} (q:Q (.dat (.bool (!decide (k∈ks)))) H) :
  Op pG w hb n X (RepV pG w) (G0 (compareOp .NotIn)) [.dat (w0 k),.any (TDict pG w ks)] H Q:=by
 refine .grow fun A Z s vs R E rm y rl kk=>?_
 (refine a8 rl.inv2 ?_;rintro v u rfl r1 r2)
 replace r1:Rd _ _ _:=r1.inv
 obtain ⟨a,rfl,K1⟩:=gq2 (pG:=pG) (w:=w) r1
 obtain ⟨D,xs,rfl,hD,rfl,nm⟩:=(cj2 r2).mono (g6 s Z)
 refine wpAny_notIn_heap (show A.in1.units<cLine from kj8 (kw9 (by exact (jv2 tT):1≤64) _) rm.line) (O2 (g6 s Z) K1) nm hD ?_
 refine kk (h':=s.heap) (Sub.refl _) (m7 _) ?_
 refine as ?_ q
 have e:(atKey xs k).isSome=decide (k∈xs.map (·.1)):=by
  unfold atKey
  rw [Option.isSome_map,lv5,List.find?_isSome,decide_eq_true_iff,jv9]
  exact ⟨fun ⟨x,h1,h2⟩=>⟨x,h1,of_decide_eq_true h2⟩,fun ⟨x,h1,h2⟩=>⟨x,h1,decide_eq_true h2⟩⟩
 exact a5 e rfl
theorem bw1 {xs:List (List Int × Addr × Value)} {k:List Int} {a:Addr} {v:Value}:(storedH xs k a v).map (·.1)=M4 (xs.map (·.1)) k:=by
 unfold M4
 cases e:atKey xs k with
 | none =>
  rw [storedH_new e,if_neg fun h=>?_,kq0];rfl
  refine c9 (jv9.mp h) fun x h1 h2=>?_
  unfold atKey at e
  rw [Option.map_eq_none_iff,mw6] at e
  exact e x h1 (decide_eq_true h2)
 | some p =>
  rw [storedH_old e,keys_map_putAt,if_pos]
  unfold atKey at e
  refine c9 (kz0.mp e) fun x h1 h2=>?_
  have h3:=lv2 h1
  exact jv9.mpr ⟨x,kv2 h1,of_decide_eq_true h3⟩
theorem cj6 {xs:List (List Int × Addr × Value)} {k:List Int} {a:Addr} {v:Value} {P:List Int→Addr→Prop} (h:∀ x∈xs,P x.1 x.2.1) (hk:P k a):∀ x∈storedH xs k a v,P x.1 x.2.1:=by
 intro x hx
 unfold storedH at hx
 split at hx
 ·(refine c9 (jv9.mp hx) ?_;rintro y hy rfl)
  unfold putAt
  split <;> exact h y hy
 ·refine Qa (jw1.mp hx) (fun hx=>?_) fun hx=>?_
  ·exact h x hx
  ·refine a5 (jv4.mp hx) ?_;exact hk
noncomputable def ck2 (k:List Int):PyData:=.tuple [w0 k,.bool true]
theorem gq9 {g:Heap} {v:Value} {k:List Int} (r:Rd g v (ck2 k)):∃ t kt,v=.ref t∧IsTup g t #[.ref kt,.bool true]∧IsTupleKey (intKind pG w) g k kt:=by
 refine oE r fun as r=>?_
 (refine k8 (rdi r) ?_;rintro a o vs m y;refine w6 y ?_;clear y;rintro rfl h1 h2 h3 h4)
 obtain ⟨l⟩:=vs
 obtain ⟨v1,l1,_,_,f1,q1,h4⟩:=X0 h4
 obtain ⟨v2,l2,_,_,f2,q2,h4⟩:=X0 h4
 have f3:l2=[]:=X0 h4
 have f4:v2=_:=rdi q2
 obtain ⟨kt,rfl,K⟩:=gq2 (pG:=pG) (w:=w) ⟨_,q1⟩
 have f1:l=_:=f1
 subst f3 f4 f2 f1
 exact ⟨a,kt,rfl,⟨o,h1,h2,m,h3⟩,K⟩
theorem ck5 {i:Nat} {a:Addr} {ks:List (List Int)} {Q:VP} (e:H[i]?=some (a,.lst (ks.map ck2))) (hl:ks.length≤1000000) (q:Q (.any (TDict pG w (O4 ks))) H) :
  Op pG w hb n X (RepV pG w) (fun vs=>call (.type "dict") vs) [.ref a] H Q:=by
 refine .grow fun A Z s vs R E rm y rl kk=>?_
 obtain ⟨v,rfl,r1⟩:=rl.inv1
 (replace r1:=r1.inv;subst r1)
 refine y9 (y.own (a,.lst (ks.map ck2)) (kz2 e)) fun us m hx hr=>?_
 have hlen:us.size=ks.length:=by have:=hr.length;simpa using this
 have at_:∀ i v,us[i]?=some v→∃ (k:List Int) (t kt:Addr),ks[i]?=some k∧v=Value.ref t∧IsTup s.heap t #[.ref kt,.bool true]∧IsTupleKey (intKind pG w) (f7 s Z) k kt:=fun i v hv=>by
  rw [← kq7] at hv
  obtain ⟨d,e1,r⟩:=hr.get' hv
  rw [jw7] at e1
  obtain ⟨k,e2,rfl⟩:=kz0.mp e1
  obtain ⟨t,kt,h1,h2,h3⟩:=gq9 (pG:=pG) (w:=w) r
  exact ⟨k,t,kt,e2,h1,h2.keeps (g6 s Z),h3⟩
 refine M8 rm.handled hx (fun i h=>∃ xs,h.DictOfH (tupleKind (intKind pG w)) s.heap.objs.size xs∧xs.map (·.1)=O4 (ks.take i)∧∀ x∈xs,IsTupleKey (intKind pG w) (f7 s Z) x.1 x.2.1) (fun h eh=>?_) y.big (fun A' i s1 kv vv t Q E hA hu hv ht hd hk q=>?_) (fun i h h' hd hk hs=>?_) (fun i hi=>?_) fun h' t hd hk=>?_
 ·exact ⟨[],⟨_,#[],0,eh,⟨rfl,rfl,rfl⟩,rfl,rfl,(fun _ h=>absurd h kq8),kk9⟩,rfl,(fun _ h=>absurd h kq8)⟩
 ·obtain ⟨k,t',kt,e1,e2,e3,e4⟩:=at_ i _ hv
  (injection e2 with i;subst i)
  obtain ⟨o1,g1,c1,n1,d1⟩:=e3
  obtain ⟨o2,g2,c2,n2,d2⟩:=ht
  have:=hk t o1 g1
  rw [this] at g2
  (injection g2 with i;subst i)
  rw [d1] at d2
  obtain ⟨e5,_⟩:=Data.seq.inj d2
  have e6:[Value.ref kt,.bool true]=[kv,vv]:=congrArg Array.toList e5
  obtain ⟨rfl,e7⟩:=List.cons.inj e6
  obtain ⟨rfl,_⟩:=List.cons.inj e7
  refine o9 hd fun xs D1 D2 D3=>?_
  have hxs:xs.length≤1000000:=by
   have e8:=congrArg List.length D2
   have:=(ax6 (ks.take i)).2.2
   have:=List.length_take_le' i ks
   rw [jv1] at e8
   lia
  refine wpAny_dictSet_heap (k:=k) (show A'.units<cLine from by have:=rm.line;exact i5 [_,_] 1 (.add (.add zA (.num 64)) nA) (.num 9900) 1 zB (.add zA (.num 10)) (.add zB nA) (.num 9900) tT this hu) (O2 ((g6 s Z).trans hk) e4) D1 (fun h' hd' hs=>q h' _ ⟨_,hd',?_,cj6 D3 e4⟩ hs) (I3 hxs)
  exact a5 bw1 (a5 D2 (a5 (dk3 e1) rfl))
 ·(refine o9 hd ?_;rintro xs ⟨o,es,ep,h1,h2,h3,h4,h5,h6⟩ D2 D3)
  exact ⟨xs,⟨o,es,ep,hk _ h1,h2,h3,h4,fun x hx=>O2 ((g6 s Z).trans hs) (D3 x hx),h6⟩,D2,D3⟩
 ·obtain ⟨k,t,kt,e1,e2,e3,e4⟩:=at_ i _ (kx4 hi)
  exact ⟨t,_,_,by refine p8 e2 ?_;exact kx4 hi,e3⟩
 ·refine o9 hd fun xs D1 D2 D3=>?_
  rw [kw3 (by exact (H6 hlen))] at D2
  obtain ⟨o,es,ep,h1,h2,h3,h4,h5,h6⟩:=D1
  have hs:Sub (f7 s Z) (f7 { s with heap:=h',toks:=t } Z):=fun b o e=>k9 (hk b o (c7 e).1) (c7 e).2
  exact kk hk (.any (g:=f7 { s with heap:=h',toks:=t } Z) (Sub.refl _) ⟨_,xs,rfl,⟨o,es,ep,k9 h1 (T8 y (Sub.refl _)),h2,h3,h4,fun x hx=>O2 hs (D3 x hx),h6⟩,D2,y.big⟩) q
end
end
section
section
variable {pG:Program} {w:World} {hb:Heap} {n:Nat} {X:Xs} {H:HL} {Z:List Addr} {s:Shared}
theorem U3 (y:Sat pG w hb Z H s) {h' h2:Heap} {vs:List Value} {out:Array Value} {xs:List PyData} (e2:h2=sortedHeap (h'.push (seqObj "list" vs.toArray 0)) h'.objs.size vs out) (k:Sub s.heap h') (r:RdL (f7 s Z) out.toList xs) :
  Sub s.heap h2∧∀ tk:Nat,Rd (f7 { s with heap:=h2,toks:=tk } Z) (.ref h'.objs.size) (.list xs):=by
 have k2:Sub s.heap h2:=fun b o e=>by
  have hl:=Qi (k b o e)
  refine a5 e2 (a5 (sortedHeap_old (kz1 hl) (by refine a5 (size_push' ..) ?_;exact Nat.lt_succ_of_lt hl)) ?_)
  exact Qb _ (k b o e)
 refine ⟨k2,fun tk=>?_⟩
 refine oE (sortedHeap_at (h:=h'.push (seqObj "list" vs.toArray 0)) (vs:=vs) (n:=0) (out:=out) (Qc _ rfl)) fun e he=>?_
 rw [← e2] at he
 exact az3 (h:=f7 { s with heap:=h2,toks:=tk } Z) (g:=f7 s Z) (k9 he (T8 y k)) (r.mono fun b o e=>k9 (k2 b o (c7 e).1) (c7 e).2)
theorem dz4 {l:List Int} {Q:VP} (h64:l.length<64) (nd:l.Nodup) (q:∀ l':List Int,l'.Perm l→l'.Pairwise (·<·)→Q (.dat (.list (l'.map N4))) H) :
  Op pG w hb n X (RepV pG w) (fun vs=>call (.builtin "sorted") vs) [.any (TDict pG w (l.map fun x=>[x]))] H Q:=by
 refine .grow fun A Z s vs R E rm y rl kk=>?_
 obtain ⟨v,rfl,r1⟩:=rl.inv1
 (refine a8 (cj2 r1) ?_;rintro D xs rfl ⟨o,es,ep,h1,h2,h3,h4,h5,h6⟩ y;refine oA y ?_;clear y;rintro e1 nm)
 have hlen:es.size=l.length:=by exact a5 ((size_of_entries h4) ..) (p8 ((jv1 (f:=(·.1))) ..) (a5 (e1 ..) (a5 (jv1 ..) rfl)))
 refine av3 (iq9 (es:=es) (ep:=ep) nm) rm.handled ⟨o,(c7 h1).1,h2,h3⟩ (I3 (by exact i5 [_,_] 1 zA zB 1 (.add zB nA) (.num 64) zA (.num 1000000) tT (o7 hlen) h64)) fun h' tk us k hl hp=>?_
 have hr:RdL (f7 s Z) us (l.map N4):=by
  have main:∀ (us:List Value) (xs:List (List Int × Addr × Value)) (l:List Int),us=xs.map (fun x=>.ref x.2.1)→xs.map (·.1)=l.map (fun x=>[x])→(∀ x∈xs,(tupleKind (intKind pG w)).is (f7 s Z) x.1 x.2.1)→RdL (f7 s Z) us (l.map N4):=by
   intro us xs
   induction xs generalizing us with
   | nil =>
    rintro l rfl e _
    induction l using Qh with
    | nil=>exact .nil
    | cons _ _=>cases e
   | cons x xs ih =>
    rintro l rfl e hk
    induction l using Qh with
    | nil=>cases e
    | cons a l =>
     refine oA (List.cons.inj e) fun e1 e2=>?_
     have:=jz3 (hk x (jv0 ..))
     rw [show x.1=[a] from e1] at this
     exact .cons this (ih _ _ rfl e2 fun z hz=>hk z (jv3 _ hz))
  refine main us xs l ?_ e1 h5
  apply nq1
  intro j
  refine a5 (jw7) ?_
  by_cases hj:j<us.length
  ·refine c9 (hp j us[j] (jw0 hj)) fun e he e2=>?_
   rw [entry_at h4 j] at he
   (refine c9 (kz0.mp he) ?_;rintro x hx rfl)
   refine a5 (jw0 hj) (a5 hx (a5 e2 ?_));rfl
  ·refine a5 (kz3 (by exact (kx8 hj))) (a5 (kz3 (by refine p8 (size_of_entries h4) ?_;exact i5 [_,_,_] 1 zA zB 1 zC zA zC zB tT (kx8 hj) (H6 hl))) ?_);rfl
 refine ek4 (m:=0) (g:=f7 s Z) (Qc _ rfl) (fun b o e=>Qb _ (k b o (c7 e).1)) ?_ hr nd (by exact T5 [_,_,_] 1 zA zB 1 zB zC 1 (.add zC nA) (.num 64) (.add zA nA) (.num 64) tT (o7 hl) (o7 hlen) h64) fun out l' r p1 p2=>?_
 ·cases e:(f7 s Z).get? h'.objs.size with
  | none=>rfl
  | some o=>exact absurd (Qi (k _ _ (c7 e).1)) (lk6 _)
 ·obtain ⟨k2,f⟩:=U3 y rfl k r
  exact ⟨rfl,kk k2 (.dat (f tk)) (q l' p1 p2)⟩
theorem dz6 {d:V} {kvs:List (Str × PyData)} {Q:VP} (D:DctV pG w hb H d kvs) (h64:kvs.length<64) (q:∀ l:List Str,l.Perm (kvs.map (·.1))→Q (.dat (.list (l.map .str))) H) :
  Op pG w hb n X (RepV pG w) (fun vs=>call (.builtin "sorted") vs) [d] H Q:=by
 refine .grow fun A Z s vs R E rm y rl kk=>?_
 obtain ⟨v,rfl,r1⟩:=rl.inv1
 obtain ⟨a,es,rfl,h1,h2,h3⟩:=D Z s v y r1
 obtain ⟨o,es',ep,e1,e2,e3,e4,e5,e6⟩:=id h1
 have hlen:es.length=kvs.length:=h2.length
 refine av3 (kdl_dict (knd:=strKind pG w) (kvs:=es) (ep:=ep) h3) rm.handled ⟨o,es',e1,e2,e3,e4,e5,e6⟩ (I3 (by exact i5 [_,_] 1 zA zB 1 (.add zB nA) (.num 64) zA (.num 1000000) tT (o7 hlen) h64)) fun h' tk us k hl hp=>?_
 have hS:StrsAre us (kvs.map (·.1)):=by
  have main:∀ (us:List Value) (l:List Str),us.length=l.length→(∀ (j:Nat) (v:Value),us[j]?=some v→∃ (k:Str) (t:Tok),l[j]?=some k∧v=Value.str k t)→StrsAre us l:=by
   intro us
   induction us with
   | nil=>intro l e _;cases l with
    | nil=>exact .nil
    | cons _ _=>cases e
   | cons u us ih=>intro l e h;cases l with
    | nil=>cases e
    | cons x l =>
     (refine y9 (h 0 u rfl) ?_;rintro k t e1 rfl)
     (injection e1 with i;subst i)
     exact .cons x t (ih l (by simpa using e) fun j v hv=>h (j+1) v hv)
  refine main us _ (by refine a5 (jv1 ..) ?_;exact kq1 (i5 [_,_,_] 1 zA zB 1 zB zC zA zC tT (o7 hl) (o7 hlen)) (i5 [_,_,_] 1 zA zB 1 zC zA zC zB tT (H6 hl) (H6 hlen))) fun j v hv=>?_
  refine y9 (hp j v hv) fun k x hk hv=>?_
  (refine oE (Value.isStrOf_shape hv) ?_;rintro t rfl)
  refine c9 (h2.get' hk) fun q hq hr=>?_
  exact ⟨k,t,by refine a5 (jw7) (a5 hq ?_);exact congrArg some hr.1.symm,rfl⟩
 refine list_sort_treeK strKind_oneLt (n:=0) (Qc _ rfl) hS.keysOf (fun v₁ v₂ rest e=>keyKind_strs (by refine p8 e ?_;exact hS)) (by exact T5 [_,_,_] 1 zA zB 1 zB zC 1 (.add zC nA) (.num 64) (.add zA nA) (.num 64) tT (o7 hl) (o7 hlen) h64) fun st' hp hs=>?_
 refine o9 (sorted_out_str hS hp hs) fun ss' g1 g2 g3=>?_
 have rs:∀ {vs:List Value} {ss:List Str},StrsAre vs ss→RdL (f7 s Z) vs (ss.map .str):=by
  intro vs ss x
  induction x with
  | nil=>exact .nil
  | cons x t _ ih=>exact .cons ⟨_,.str _ _⟩ ih
 obtain ⟨k2,f⟩:=U3 y rfl k (rs g1)
 exact ⟨rfl,kk k2 (.dat (f tk)) (q ss' g2)⟩
end
end
section
noncomputable def dj5 (x:Int):List Int→List Int
 | []=>[x]
 | y::r=>if x<y then x::y::r else if x=y then y::r else y::dj5 x r
noncomputable def z5 (l:List Int):List Int:=l.foldr dj5 []
set_option tactic.hygienic true in
theorem bq5 {x z:Int}:∀ {l:List Int},z∈dj5 x l ↔ z=x∨z∈l
 | []=>by dsimp only [dj5];simp
 | y::r=>by
  dsimp only [dj5]
  split
  ·simp
  ·split
   ·rename_i h
    subst h
    simp
   ·rw [jv6,bq5 (l:=r),jv6,or_left_comm]
set_option tactic.hygienic true in
theorem cv3 {x:Int}:∀ {l:List Int},l.Pairwise (·<·)→(dj5 x l).Pairwise (·<·)
 | [],_=>lk7 ..
 | y::r,h=>by
  dsimp only [dj5]
  rw [kv4] at h
  split
  ·rename_i hx
   refine kv4.mpr ⟨fun z hz=>?_,kv4.mpr h⟩
   rcases jv6.mp hz with rfl | hz
   ·exact hx
   ·exact lv3 hx (h.1 z hz)
  ·split
   ·exact kv4.mpr h
   ·refine kv4.mpr ⟨fun z hz=>?_,cv3 h.2⟩
    rcases bq5.mp hz with rfl | hz
    ·lia
    ·exact h.1 z hz
theorem A0 (l:List Int):(z5 l).Pairwise (·<·):=by
 induction l with
 | nil=>exact .nil
 | cons x l ih=>exact cv3 ih
theorem x9 {l:List Int} {z:Int}:z∈z5 l ↔ z∈l:=by
 induction l with
 | nil=>exact Iff.rfl
 | cons x l ih=>exact bq5.trans ((or_congr_right ih).trans jv6.symm)
theorem Z7:∀ {a b:List Int},a.Pairwise (·<·)→b.Pairwise (·<·)→(∀ z,z∈a ↔ z∈b)→a=b
 | [],[],_,_,_=>rfl
 | [],y::b,_,_,h=>by have:=(h y).mpr (jv0 ..);cases this
 | x::a,[],_,_,h=>by have:=(h x).mp (jv0 ..);cases this
 | x::a,y::b,h1,h2,h=>by
  rw [kv4] at h1 h2
  have e:x=y:=by
   refine Qa (jv6.mp ((h x).mp (jv0 ..))) (fun e=>?_) fun m=>?_
   ·exact e
   ·refine Qa (jv6.mp ((h y).mpr (jv0 ..))) (fun e=>?_) fun m2=>?_
    ·exact e.symm
    ·have:=h2.1 x m
     have:=h1.1 y m2
     lia
  subst e
  rw [Z7 h1.2 h2.2 fun z=>?_]
  refine ⟨fun m=>?_,fun m=>?_⟩
  ·exact (jv6.mp ((h z).mp (jv3 _ m))).resolve_left fun e=>by have:=h1.1 z m;lia
  ·exact (jv6.mp ((h z).mpr (jv3 _ m))).resolve_left fun e=>by have:=h2.1 z m;lia
theorem usort_id {l:List Int} (h:l.Pairwise (·<·)):z5 l=l:=Z7 (A0 l) h fun u_=>x9
theorem fx5 {α β:Type} [DecidableEq α] [DecidableEq β] {f:α→β} (hf:∀ a b,f a=f b→a=b) (l:List α):O4 (l.map f)=(O4 l).map f:=by
 have main:∀ (l acc:List α),(l.map f).foldl M4 (acc.map f)=(l.foldl M4 acc).map f:=by
  intro l
  induction l with
  | nil=>intro acc;rfl
  | cons a l ih =>
   intro acc
   have e:M4 (acc.map f) (f a)=(M4 acc a).map f:=by
    unfold M4
    by_cases h:a∈acc
    ·exact a5 (if_pos h) (a5 (if_pos (jw3 h)) rfl)
    ·rw [if_neg h,if_neg fun m=>?_,kq0];rfl
     refine c9 (jv9.mp m) fun b hb e=>?_
     exact h (hf _ _ e▸hb)
   refine a5 (kx1 ..) (a5 (List.foldl_cons ..) (a5 (e ..) (a5 (ih ..) ?_)));rfl
 exact main l []
noncomputable def v6 (ks:List (List Int)):PyData:=.tuple (ks.map w0)
theorem dw6 (l:List Int):k7 l=v6 (l.map fun x=>[x]):=by
 delta k7 v6
 refine a5 jw5 ?_;rfl
section
variable {w:World} {hb:Heap} {n:Nat} {X:Xs} {H:HL}
theorem iz3 {l:List Int} {Q:VP} (h64:l.length<64) (q:Q (.dat (k7 (z5 l))) H) :
  Op PW w hb (n+1) X (RepV PW w) (fun vs=>call (.ref 131) vs) [.dat (k7 l)] H Q:=by
 refine h8 (g8 rfl rfl rfl (names:=[st "tuples"]) (by kernel_rfl) rfl (ar1 fun u_=>by kernel_rfl) fun gs=>?_)
 refine ⟨_,_,.same,d9 rfl,by refine a5 (jv1 ..) (a5 (jv1 ..) ?_);exact d6 [_] 1 (.add zA nA) (.num 64) zA (.num 1000000) tT h64,?_⟩
 refine d4 (fun i:Int=>V.dat (N4 i)) l (fun i=>some (ck2 [i])) (by refine a5 jw5 ?_;rfl) (by kernel_rfl) (fun i hi=>?_) ?_
 ·exact ⟨.new rfl,⟨fun u_=>⟨rfl,_,rfl,rfl⟩,nt⟩⟩
 refine ⟨rfl,.inr fun D=>?_⟩
 refine ck5 (i:=0) (ks:=l.map fun x=>[x]) (by refine a5 kx5 (a5 jw5 ?_);rfl) (by refine a5 (jv1 ..) ?_;exact d6 [_] 1 (.add zA nA) (.num 64) zA (.num 1000000) tT h64) ?_
 rw [fx5 fun a b e=>(List.cons.inj e).1]
 refine J7 (ax6 l) fun d1 d2 d3=>?_
 refine dz4 (by exact i5 [_,_] 1 zA zB 1 (.add zB nA) (.num 64) (.add zA nA) (.num 64) tT d3 h64) d1 fun l' p1 p2=>?_
 have e:l'=z5 l:=Z7 p2 (A0 l) fun z=>(p1.mem_iff.trans (d2 z)).trans x9.symm
 subst e
 refine r6 l8 (by refine a5 (jv1 ..) ?_;have:=p1.length_eq;exact T5 [_,_,_] 1 zA zB 1 zB zC 1 (.add zC nA) (.num 64) zA (.num 1000000) tT (o7 this) d3 h64) ?_
 exact ⟨[(D,.lst _)],H,_,rfl,.same,q⟩
theorem iz2 {s t:List Int} {Q:VP} (h64:s.length+t.length<64) (q:Q (.dat (k7 (z5 (s++t)))) H) :
  Op PW w hb (n+2) X (RepV PW w) (fun vs=>call (.ref 138) vs) [.dat (k7 s),.dat (k7 t)] H Q:=by
 refine g8 rfl rfl rfl (names:=[st "s",st "t"]) (by kernel_rfl) rfl (R3 fun u_ u_=>by kernel_rfl) fun gs=>?_
 refine ⟨by refine a5 (jv1 ..) (a5 (jv1 ..) ?_);exact d6 [_,_] 1 (.add (.add zA zB) nA) (.num 64) (.add zA zB) (.num 1000000) tT h64,?_⟩
 refine p8 kq0 ?_
 exact iz3 (by refine a5 jw8 ?_;exact h64) q
theorem iz5 {ks ts:List (List Int)} {Q:VP} (h1:ks.length≤1000) (h2:ts.length≤1000) (q:Q (.dat (v6 (ks.filter fun k=>decide (k∉ts)))) H) :
  Op PW w hb (n+1) X (RepV PW w) (fun vs=>call (.ref 143) vs) [.dat (v6 ks),.dat (v6 ts)] H Q:=by
 refine h8 (g8 rfl rfl rfl (names:=[st "s",st "t"]) (by kernel_rfl) rfl (R3 fun u_ u_=>by kernel_rfl) fun gs=>?_)
 refine ⟨_,_,.same,d9 rfl,by refine a5 (jv1 ..) (a5 (jv1 ..) ?_);exact ul h2 tT,?_⟩
 refine d4 (fun k:List Int=>V.dat (w0 k)) ts (fun k=>some (ck2 k)) (by refine a5 jw5 ?_;rfl) (by kernel_rfl) (fun i hi=>?_) ?_
 ·exact ⟨.new rfl,⟨fun u_=>⟨rfl,_,rfl,rfl⟩,nt⟩⟩
 refine ⟨rfl,.inr fun D=>?_⟩
 refine ck5 (i:=0) (ks:=ts) (by refine a5 kx5 ?_;rfl) (by exact ul h2 tT) ?_
 refine ⟨_,_,.same,d9 rfl,by refine a5 (jv1 ..) (a5 (jv1 ..) ?_);exact ul h1 tT,?_⟩
 refine d4 (fun k:List Int=>V.dat (w0 k)) ks (fun k=>if k∈ts then none else some (w0 k)) (by refine a5 jw5 ?_;rfl) (by kernel_rfl) (fun k hk=>?_) ?_
 ·refine ⟨.new rfl,?_⟩
  refine ew1 ?_
  have e:decide (k∈O4 ts)=decide (k∈ts):=decide_eq_decide.mpr ((ax6 ts).2.1 k)
  refine a5 e ?_
  refine ⟨fun e=>⟨rfl,_,rfl,if_neg fun h=>?_⟩,fun e=>⟨rfl,if_pos ?_⟩⟩
  ·rw [decide_eq_true h] at e;exact nb e
  ·exact of_decide_eq_true (by simpa only [lx5] using e)
 refine ⟨rfl,.inl ?_⟩
 have e:ks.filterMap (fun k=>if k∈ts then none else some (w0 k))=(ks.filter fun k=>decide (k∉ts)).map w0:=by
  clear q
  induction ks with
  | nil=>rfl
  | cons k ks ih =>
   have ih:=ih (Nat.le_of_succ_le h1)
   by_cases h:k∈ts <;> simp [h,ih]
 refine a5 e ?_
 refine r6 l8 (by refine a5 (jv1 ..) ?_;exact jw9 (kv3 _ _) (by exact ul h1 tT)) ?_
 exact ⟨[(D,.lst _)],H,_,rfl,.same,q⟩
theorem gw6 {ks ts:List (List Int)} {Q:VP} (h1:ks.length≤1000) (h2:ts.length≤1000) (h:∀ k∈ks,k∈ts) (q:Q (.dat (.bool true)) H) :
  Op PW w hb (n+2) X (RepV PW w) (fun vs=>call (.ref 150) vs) [.dat (v6 ks),.dat (v6 ts)] H Q:=by
 refine g8 rfl rfl rfl (names:=[st "s",st "t"]) (by kernel_rfl) rfl (R3 fun u_ u_=>by kernel_rfl) fun gs=>?_
 refine iz5 h1 h2 ?_
 have e:(ks.filter fun k=>decide (k∉ts))=[]:=lz1.mpr fun k hk=>by simp [h k hk]
 refine a5 e ?_
 refine az6 rfl rfl ?_
 exact q
theorem fz5 {s t:List Int} {Q:VP} (h1:s.length≤1000) (h2:t.length≤1000) (q:Q (.dat (v6 (s.flatMap fun a=>t.map fun b=>[a,b]))) H) (h3:s.length * t.length≤1000000) :
  Op PW w hb (n+1) X (RepV PW w) (fun vs=>call (.ref 155) vs) [.dat (k7 s),.dat (k7 t)] H Q:=by
 refine g8 rfl rfl rfl (names:=[st "s",st "t"]) (by kernel_rfl) rfl (R3 fun u_ u_=>by kernel_rfl) fun gs=>?_
 refine ⟨_,_,.same,d9 rfl,by refine a5 (jv1 ..) (a5 (jv1 ..) ?_);exact h1,?_⟩
 refine bj4 (fun i:Int=>V.dat (N4 i)) s (fun u_ i=>V.dat (N4 i)) (fun u_=>t) (fun a b=>w0 [a,b]) (by refine a5 jw5 ?_;rfl) (by kernel_rfl) (fun a ha=>?_) ?_
 ·refine ⟨.new rfl,⟨rfl,?_,h2,fun b hb=>?_⟩⟩
  ·have:=d9 (pG:=PW) (w:=w) (hb:=hb) (n:=n) (H:=H) (d:=.dat (k7 t)) (ds:=(t.map fun i=>PyData.tuple [.int i]).map V.dat) rfl
   rw [jw5] at this
   exact this
  ·exact ⟨.new rfl,⟨fun u_=>⟨(show 2≤1000000 by exact (jv2 tT)),rfl,_,rfl,rfl⟩,nt⟩⟩
 refine ⟨rfl,.inl ?_⟩
 have e:(s.flatMap fun a=>t.map fun b=>w0 [a,b])=(s.flatMap fun a=>t.map fun b=>[a,b]).map w0:=by
  refine a5 nx1 ?_
  simp only [jw5]
  rfl
 refine a5 e ?_
 refine r6 l8 ?_ q
 refine a5 (jv1 ..) (a5 (mv6 ..) ?_)
 simp only [jv1,nz3,mk2]
 exact h3
end
end
section
section
variable {w:World} {hb:Heap} {n:Nat} {X:Xs} {H:HL} {names:List Str}
structure RowsOk (w:World) (hb:Heap) (names:List Str) (r:Nat) (ks:List (List Int)):Prop where
 len:ks.length≤1000
 r:∀ k∈ks,k.length=r
 at_:∀ k∈ks,∀ i∈k,0≤i∧i<names.length
 lt:∀ {n:Nat} {X:Xs} {H:HL} {Q:VP} {i:Nat} {a b:List Int},ks[i]?=some a→ks[i+1]?=some b→Q (.dat (.bool true)) H→Op PW w hb n X (RepV PW w) (G0 (compareOp .Lt)) [.dat (w0 a),.dat (w0 b)] H Q
theorem RowsOk.one {l:List Int} (hl:l.length≤1000) (hi:∀ i∈l,0≤i∧i<names.length) (hs:l.Pairwise (·<·)):RowsOk w hb names 1 (l.map fun x=>[x]) where
 len:=by refine a5 (jv1 ..) ?_;exact hl
 r:=fun k hk=>by obtain ⟨x,_,rfl⟩:=jv9.mp hk;rfl
 at_:=fun k hk i hi'=>by
  (refine c9 (jv9.mp hk) ?_;rintro x hx rfl)
  refine a5 (jv4.mp hi') ?_
  exact hi x hx
 lt:=fun {n X H Q i a b} ha hb q=>by
  rw [jw7] at ha hb
  (refine c9 (kz0.mp ha) ?_;rintro x ha1 rfl)
  (refine c9 (kz0.mp hb) ?_;rintro y hb1 rfl)
  (refine oE (kk3.mp ha1) ?_;rintro i1 rfl)
  (refine oE (kk3.mp hb1) ?_;rintro i2 rfl)
  refine jq9 ?_
  refine a5 (decide_eq_true (lq9.mp hs i (i+1) i1 i2 (kv5 i))) ?_
  exact q
theorem RowsOk.pairs {l:List Int} (hl:l.length≤1000) (hi:∀ i∈l,0≤i∧i+1<names.length) (hs:l.Pairwise (·<·)):RowsOk w hb names 2 (l.map fun x=>[x,x+1]) where
 len:=by refine a5 (jv1 ..) ?_;exact hl
 r:=fun k hk=>by obtain ⟨x,_,rfl⟩:=jv9.mp hk;rfl
 at_:=fun k hk i hi'=>by
  (refine c9 (jv9.mp hk) ?_;rintro x hx rfl)
  have:=hi x hx
  rcases jv6.mp hi' with rfl | hi'
  ·exact ⟨F0 [_] 1 (.num 0) zA (.num 0) zA tT this.1,F0 [_,_] 1 (.add (.add zA nA) nA) zB (.add zA nA) zB tT this.2⟩
  ·refine a5 (jv4.mp hi') ?_;exact ⟨F0 [_] 1 (.num 0) zA (.num 0) (.add zA nA) tT this.1,F0 [_,_] 1 (.add (.add zA nA) nA) zB (.add (.add zA nA) nA) zB tT this.2⟩
 lt:=fun {n X H Q i a b} ha hb q=>by
  rw [jw7] at ha hb
  (refine c9 (kz0.mp ha) ?_;rintro x ha1 rfl)
  (refine c9 (kz0.mp hb) ?_;rintro y hb1 rfl)
  (refine oE (kk3.mp ha1) ?_;rintro i1 rfl)
  (refine oE (kk3.mp hb1) ?_;rintro i2 rfl)
  refine jq8 ?_
  refine a5 (decide_eq_true (Or.inl (lq9.mp hs i (i+1) i1 i2 (kv5 i)))) ?_
  exact q
theorem gw7 {x dx bl nb:Addr} {bs:List PyData} {ns:List (Str × PyData)} {nm:Str} {r:Nat} {ks:List (List Int)} {Q:VP} (hn:names.length≤1000) (hr:r≤1000) (K:RowsOk w hb names r ks) (q:Q (.dat .none) (M9 x dx bl nb names bs ns H)) :
  Op PW w hb (n+2) X (RepV PW w) (fun vs=>call (.ref 239) vs) [.ref x,.dat (.str nm),.dat (.int r),.dat (v6 ks)] (M9 x dx bl nb names bs ns H) Q:=by
 refine g8 rfl rfl rfl (names:=[st "self",st "name",st "arity",st "some"]) (by kernel_rfl) rfl (ar4 fun u_ u_ u_ u_=>by kernel_rfl) fun gs=>?_
 have I:OfC w hb (M9 x dx bl nb names bs ns H) (.ref x) 284 _:=j6 2 rfl (by kernel_rfl)
 refine eq2 ?_
 refine ⟨Mine.nb,fun u_=>?_⟩
 refine ⟨_,d9 rfl,?_⟩
 refine q9 gs (fun k:List Int=>V.dat (w0 k)) ks (by refine a5 jw5 ?_;rfl) (fun N hN hE k hm=>?_) (f9 gs ?_)
 ·refine eq2 ?_
  refine ⟨fun u_=>?_,Mine.nb⟩
  have e:((k.map PyData.int).map V.dat).length=r:=by refine a5 (jv1 ..) (a5 (jv1 ..) ?_);exact K.r k hm
  refine j7 (j5 rfl) (by refine a5 e ?_;exact d6 [_] 1 zA (.num 1000) (.add zA nA) (.num 4611686018427387904) tT hr) ?_
  refine a5 e ?_
  refine ⟨fun u_=>?_,fun e=>absurd e (by simp)⟩
  refine ⟨Mine.nb,fun u_=>?_⟩
  refine ⟨_,d9 rfl,?_⟩
  refine q9 gs (fun i:Int=>V.dat (.int i)) k (by refine a5 jw5 ?_;rfl) (fun N hN hE j hj=>?_) (f9 gs ?_)
  ·refine oA (K.at_ k hm j hj) fun h1 h2=>?_
   refine eq3 ?_
   refine ⟨fun u_=>?_,Mine.nb⟩
   refine eq4 ?_
   refine ⟨fun u_=>?_,Mine.nb⟩
   refine ⟨fun e=>absurd (of_decide_eq_false e) (fun h=>h h1),fun u_=>?_⟩
   refine a9 I rfl rfl ?_
   refine j0 cz9 rfl ?_
   refine bk9 hn ?_
   refine ⟨fun u_=>?_,fun e=>absurd h2 (by simpa using e)⟩
   exact ⟨Mine.nb,fun u_=>hN _ (.new rfl)⟩
  ·exact hN _ (.new rfl)
 ·have hll:((ks.map w0).map V.dat).length=ks.length:=by exact a5 (jv1 ..) (a5 (jv1 ..) rfl)
  have hl:=K.len
  refine j7 (j5 rfl) (by refine a5 hll ?_;exact d6 [_] 1 zA (.num 1000) (.add zA nA) (.num 4611686018427387904) tT hl) ?_
  refine a5 hll ?_
  refine bj7 ?_
  refine ⟨_,m6 (by lia) (by exact li0 [] nA (.num 1000000) tT) (by lia) (by exact F0 [_] 1 zA (.num 1000) zA (.num 1000000) tT (ic hl)),?_⟩
  refine q9 gs (fun k:Nat=>V.dat (.int (1+k))) (Qg ((ks.length:Int) - 1).toNat) rfl (fun N hN hE k hk=>?_) (f9 gs ?_)
  ·have hk1:k+1<ks.length:=by have:=kx9.mp hk;lia
   have hk0:k<ks.length:=Nat.lt_of_succ_lt hk1
   have e1:=jw0 hk0
   have e2:=jw0 hk1
   refine o8 (k:=k) (x:=.dat (w0 ks[k])) (j5 rfl) (by lia) (by exact i5 [_,_] 1 (.add zA nA) zB 1 zB (.num 1000) zA (.num 1000000) tT hk0 hl) (by refine a5 (jw7) (a5 (jw7) (a5 e1 ?_));rfl) ?_
   refine o8 (k:=k+1) (x:=.dat (w0 ks[k+1])) (j5 rfl) (by exact mz8 (li0 [_] (.add nA zA) (.add zA nA) tT) (li0 [_] (.add zA nA) (.add nA zA) tT)) (by exact i5 [_,_] 1 (.add zA nA) zB 1 zB (.num 1000) (.add zA nA) (.num 1000000) tT hk0 hl) (by refine a5 (jw7) (a5 (jw7) (a5 e2 ?_));rfl) ?_
   refine K.lt e1 e2 ?_
   exact ⟨Mine.nb,fun u_=>hN _ (.new rfl)⟩
  ·exact q
noncomputable def M2 (nm:Str) (r:Nat) (ks ts:List (List Int)):PyData:=.tuple [.str nm,.int r,v6 ks,v6 ts]
theorem iv4 {x dx bl nb:Addr} {bs:List PyData} {ns:List (Str × PyData)} {nm:Str} {r:Nat} {ks ts:List (List Int)} {Q:VP} (hn:names.length≤1000) (hr:r≤1000) (h1:1≤r) (K:RowsOk w hb names r ks) (T:RowsOk w hb names r ts)
  (hsub:∀ k∈ks,k∈ts) (hno:ns.lookup nm=none) (hns:ns.length≤1000) (hbs:bs.length≤1000)
  (q:Q (.dat (.int bs.length)) (M9 x dx bl nb names (bs++[M2 nm r ks ts]) (ns++[(nm,.int bs.length)]) H)) :
  Op PW w hb (n+3) X (RepV PW w) (fun vs=>call (.ref 232) vs) [.ref x,.dat (.str nm),.dat (.int r),.dat (v6 ks),.dat (v6 ts)] (M9 x dx bl nb names bs ns H) Q:=by
 refine g8 rfl rfl rfl (names:=[st "self",st "name",st "arity",st "lower",st "upper"]) (by kernel_rfl) rfl (ar5 fun u_ u_ u_ u_ u_=>by kernel_rfl) fun gs=>?_
 have I:OfC w hb (M9 x dx bl nb names bs ns H) (.ref x) 284 _:=j6 2 rfl (by kernel_rfl)
 refine a9 I rfl rfl ?_
 refine U9 (x5 0 rfl) ?_
 refine a5 hno ?_
 refine ⟨Mine.nb,fun u_=>?_⟩
 refine eq3 ?_
 refine ⟨fun u_=>?_,Mine.nb⟩
 refine eq4 ?_
 refine ⟨fun u_=>?_,Mine.nb⟩
 refine ⟨fun u_=>?_,fun e=>absurd (of_decide_eq_true e) (by exact lx8.mpr (F0 [_] 1 nA zA nA zA tT (ic h1)))⟩
 refine ⟨Mine.nb,fun u_=>?_⟩
 refine j0 I rfl ?_
 refine gw7 hn hr K ?_
 refine j0 I rfl ?_
 refine gw7 hn hr T ?_
 refine gw6 K.len T.len hsub ?_
 refine ⟨Mine.nb,fun u_=>?_⟩
 refine a9 I rfl rfl ?_
 refine j7 (x4 1 rfl) (by refine a5 (jv1 ..) ?_;exact d6 [_] 1 zA (.num 1000) (.add zA nA) (.num 4611686018427387904) tT hbs) ?_
 refine a5 (jv1 ..) ?_
 refine a9 I rfl rfl ?_
 refine u6 (i:=0) rfl (by exact ul hns tT) ?_
 refine a5 (F5 hno) ?_
 have I2:∀ {bs:List PyData} {ns:List (Str × PyData)},OfC w hb (M9 x dx bl nb names bs ns H) (.ref x) 284 _:=j6 2 rfl (by kernel_rfl)
 refine a9 I2 rfl rfl ?_
 refine i4 1 rfl ?_
 refine g5 (i:=1) rfl (by exact ul hbs tT) ?_
 refine a9 I2 rfl rfl ?_
 refine j7 (x4 1 rfl) (by refine a5 (jv1 ..) (a5 (jw8 ..) ?_);exact kj8 (lw3 hbs 1) (by exact (jv2 tT))) ?_
 refine a5 (jv1 ..) (a5 (jw8 ..) ?_)
 refine as ?_ q
 refine (?_:V.dat (.int (((bs.length+1:Nat):Int) - 1))=_)
 exact a5 (show (((bs.length+1:Nat):Int) - 1)=bs.length by lia) rfl
theorem fz7 {x dx bl nb:Addr} {bs:List PyData} {ns:List (Str × PyData)} {nm:Str} {r:Nat} {ks:List (List Int)} {Q:VP} (hn:names.length≤1000) (hr:r≤1000) (h1:1≤r) (K:RowsOk w hb names r ks) (hno:ns.lookup nm=none) (hns:ns.length≤1000) (hbs:bs.length≤1000)
  (q:Q (.dat (.int bs.length)) (M9 x dx bl nb names (bs++[M2 nm r ks ks]) (ns++[(nm,.int bs.length)]) H)) :
  Op PW w hb (n+4) X (RepV PW w) (fun vs=>call (.ref 246) vs) [.ref x,.dat (.str nm),.dat (.int r),.dat (v6 ks)] (M9 x dx bl nb names bs ns H) Q:=by
 refine g8 rfl rfl rfl (names:=[st "self",st "name",st "arity",st "some"]) (by kernel_rfl) rfl (ar4 fun u_ u_ u_ u_=>by kernel_rfl) fun gs=>?_
 refine j0 (j6 2 rfl (by kernel_rfl)) rfl ?_
 exact iv4 hn hr h1 K K (fun u_ h=>h) hno hns hbs q
end
end
section
theorem z9 {N:Nat}:∀ {l:List Int} {lo:Int},l.Pairwise (·<·)→(∀ i∈l,lo≤i∧i<lo+N)→l.length≤N:=by
 induction N with
 | zero =>
  intro l lo h hi
  induction l using Qh with
  | nil=>exact jw4 _
  | cons a l=>have:=hi a (jv0 ..);lia
 | succ N ih =>
  intro l lo h hi
  induction l using Qh with
  | nil=>exact kx0 _
  | cons a l =>
   rw [kv4] at h
   have ha:=hi a (jv0 ..)
   refine lk9 (ih (lo:=lo+1) h.2 fun i m=>?_)
   have h1:=h.1 i m
   have h2:=hi i (jv3 _ m)
   exact ⟨li2 [_,_,_] 1 (.add zA nA) zB 1 zC zA (.add zC nA) zB tT h1 ha.1,F0 [_,_,_] 1 (.add zA nA) (.add zB (.add zC nA)) (.add zA nA) (.add (.add zB nA) zC) tT h2.2⟩
structure UpW (T:List Sg) (tp:Str→Str) (lots:List (Str × List Int)) (up:Str→List Int) (rk:Str→Nat):Prop where
 top:∀ x g,c0 T x=some g→tp x≠""→(tp x,up x)∈lots∧lots.lookup (tp x)=some (up x)
 sub:∀ x g,c0 T x=some g→tp x=""→up x=z5 (g.supers.flatMap up)∧∀ o∈g.supers,rk o<rk x∧∃ g',c0 T o=some g'
 rng:∀ x g,c0 T x=some g→∀ i∈up x,0≤i∧i<20
 asc:∀ x g,c0 T x=some g→(up x).Pairwise (·<·)
theorem G2 {l:List (Str × List Int)} {x:Str}:(m8 l).lookup x=(l.lookup x).map k7:=by
 induction l with
 | nil=>rfl
 | cons p l ih =>
  unfold m8 at ih ⊢
  refine a5 kx1 (a5 kq2 (a5 kq2 ?_))
  refine (?_:(match x == p.1 with | true=>_ | false=>_)=_)
  cases x == p.1 with
  | true=>rfl
  | false=>exact ih
theorem cz7 (a b:List Int):z5 (z5 a++b)=z5 (a++b):=Z7 (A0 _) (A0 _) fun z=>by
 rw [x9,x9,jw1,jw1,x9]
section
variable {w:World} {hb:Heap} {n:Nat} {X:Xs} {H:HL} {T:List Sg} {ord:List Str} {tp:Str→Str} {ops:List PyData} {lots:List (Str × List Int)} {up:Str→List Int} {rk:Str→Nat}
theorem Op.lift {α β:Type} {rel:Heap→α→β→Prop} {f:List Value→Sem α} {ds:List V} {Q:β→HL→Prop} {m:Nat} (o:Op PW w hb m X rel f ds H Q) (h:m≤n):Op PW w hb n X rel f ds H Q :=
 fun A Z s vs R E rm fm y rl k=>o A Z s vs R E (rm.le h) fm y rl k
theorem R5 {sg:V} {lots:List (Str × PyData)}:OfC w hb H (ak7 sg lots) 371 (uppF sg lots):=⟨Q3,by kernel_rfl⟩
theorem cx7 (W:Wf T ord tp) (U:UpW T tp lots up rk):∀ (r:Nat) {n:Nat} {H:HL} {x:Str} {g:Sg} {Q:VP},c0 T x=some g→rk x≤r→Q (.dat (k7 (up x))) H →
  Op PW w hb (n+5+r) X (RepV PW w) (fun vs=>call (.ref 356) vs) [ak7 (x7 T ord ops) (m8 lots),.dat (.str x)] H Q:=by
 intro r
 induction r with
 | zero =>
  intro n H x g Q hg hr q
  refine Op.lift (m:=n+4) (g8 rfl rfl rfl (names:=[st "self",st "sig"]) (by kernel_rfl) rfl (R3 fun u_ u_=>by kernel_rfl) fun gs=>?_) (lz6 _)
  refine a9 R5 rfl rfl ?_
  refine j0 s8 rfl ?_
  refine ax8 W hg ?_
  refine ⟨fun e=>?_,fun e=>?_⟩
  ·refine a9 R5 rfl rfl ?_
   exact g9 g7 ((G2).trans (congrArg _ (U.top x g hg (G3 e)).2)) q
  ·have hs:=U.sub x g hg (I5 e)
   have h0:g.supers=[]:=by
    cases e2:g.supers with
    | nil=>rfl
    | cons o l=>have:=(hs.2 o (by refine a5 e2 ?_;exact jv0 ..)).1;lia
   refine a9 R5 rfl rfl ?_
   refine j0 s8 rfl ?_
   refine Z6 az2 hg ?_
   refine a5 h0 ?_
   refine ⟨_,d9 rfl,?_⟩
   refine q9 gs u8 [] rfl (fun N hN E d hd=>absurd hd kq8) (f9 gs ?_)
   rw [hs.1,h0] at q
   exact q
 | succ r ih =>
  intro n H x g Q hg hr q
  refine g8 (n:=n+5+r) rfl rfl rfl (names:=[st "self",st "sig"]) (by kernel_rfl) rfl (R3 fun u_ u_=>by kernel_rfl) fun gs=>?_
  refine a9 R5 rfl rfl ?_
  refine j0 s8 rfl ?_
  refine Op.lift (m:=n+3) (ax8 W hg ?_) (by exact ln0 [_,_] (.add zA (.num 3)) (.add (.add zA (.num 5)) zB) tT)
  refine ⟨fun e=>?_,fun e=>?_⟩
  ·refine a9 R5 rfl rfl ?_
   exact g9 g7 ((G2).trans (congrArg _ (U.top x g hg (G3 e)).2)) q
  have hs:=U.sub x g hg (I5 e)
  refine a9 R5 rfl rfl ?_
  refine j0 s8 rfl ?_
  refine Op.lift (m:=n+1) (Z6 az2 hg ?_) (by exact ln0 [_,_] (.add zA nA) (.add (.add zA (.num 5)) zB) tT)
  refine ⟨_,d9 rfl,?_⟩
  refine j8 gs u8 g.supers (fun l ρ H'=>∃ l1,g.supers=l1++l∧H'=H∧ρ=[(st "found",.dat (k7 (z5 (l1.flatMap up)))),(st "top",.dat (.str (tp x))),(st "self",ak7 (x7 T ord ops) (m8 lots)),(st "sig",.dat (.str x))]) i6 ?_ ?_ ?_
  ·exact ⟨[],rfl,rfl,rfl⟩
  ·(intro N hN hE o l ρ1 H1 yz;refine o9 yz ?_;clear yz;rintro l1 hl rfl rfl)
   have mo:o∈g.supers:=by refine a5 hl ?_;exact jv7 _ jv0
   refine V7 (hs.2 o mo) fun h1 g' h2=>?_
   refine j0 R5 rfl ?_
   refine Op.lift (ih (n:=n) h2 (by exact i5 [_,_,_] 1 (.add zA nA) zB 1 zB (.add zC nA) zA zC tT h1 hr) ?_) (by exact ln0 [_,_] (.add (.add zA (.num 5)) zB) (.add (.add zA (.num 5)) zB) tT)
   have len:∀ (l:List Str),(∀ y∈l,y∈g.supers)→(z5 (l.flatMap up)).length≤20:=fun l hl=>z9 (lo:=0) (A0 _) fun i m=>by
    refine c9 (nq9.mp (x9.mp m)) fun y hy m=>?_
    refine oE ((hs.2 y (hl y hy)).2) fun g2 h3=>?_
    have:=U.rng y g2 h3 i m
    exact ⟨F0 [_] 1 (.num 0) zA (.num 0) zA tT this.1,F0 [_] 1 (.add zA nA) (.num 20) (.add zA nA) (.add (.num 0) (.num 20)) tT this.2⟩
   have e1:=len l1 fun y hy=>by refine a5 hl ?_;exact jv8 _ hy
   have e2:(up o).length≤20:=z9 (lo:=0) (U.asc o g' h2) fun i m=>by have:=U.rng o g' h2 i m;exact ⟨F0 [_] 1 (.num 0) zA (.num 0) zA tT this.1,F0 [_] 1 (.add zA nA) (.num 20) (.add zA nA) (.add (.num 0) (.num 20)) tT this.2⟩
   refine Op.lift (m:=n+2) (iz2 (by exact i5 [_,_] 1 zA (.num 20) 1 zB (.num 20) (.add (.add zB zA) nA) (.num 64) tT e2 e1) ?_) (by exact ln0 [_,_] (.add zA (.num 2)) (.add (.add zA (.num 5)) zB) tT)
   refine hN _ _ _ ⟨_,.all (ρ:=[(st "found",.dat (k7 (z5 ((l1++[o]).flatMap up)))),(st "top",.dat (.str (tp x))),(st "self",ak7 (x7 T ord ops) (m8 lots)),(st "sig",.dat (.str x))]) ⟨?_,rfl,rfl,rfl,trivial⟩,l1++[o],by refine a5 hl ?_;simp,rfl,rfl⟩
   refine a5 (cz7 ..) (a5 (mv8 ..) (a5 ((show [o].flatMap up=up o by exact kq4 _) ..) ?_))
   rfl
  ·(intro ρ1 H1 yz;refine o9 yz ?_;clear yz;rintro l1 hl rfl rfl)
   refine f9 gs ?_
   rw [kq4] at hl
   rw [hs.1,hl] at q
   exact q
theorem dk6 {a b:Str} {ga gb:Sg} {r:Nat} {Q:VP} (W:Wf T ord tp) (U:UpW T tp lots up rk) (ha:c0 T a=some ga) (hb':c0 T b=some gb) (hr:rk a≤r∧rk b≤r) (q:Q (.dat (v6 ((up a).flatMap fun x=>(up b).map fun y=>[x,y]))) H) :
  Op PW w hb (n+5+r+1) X (RepV PW w) (fun vs=>call (.ref 361) vs) [ak7 (x7 T ord ops) (m8 lots),.dat (.tuple [.str a,.str b])] H Q:=by
 have la:∀ x g,c0 T x=some g→(up x).length≤20:=fun x g h=>z9 (lo:=0) (U.asc x g h) fun i m=>by have:=U.rng x g h i m;exact ⟨F0 [_] 1 (.num 0) zA (.num 0) zA tT this.1,F0 [_] 1 (.add zA nA) (.num 20) (.add zA nA) (.add (.num 0) (.num 20)) tT this.2⟩
 have l1:=la a ga ha
 have l2:=la b gb hb'
 have hm:(up a).length * (up b).length≤400:=mj5 l1 l2
 refine g8 (n:=n+5+r) rfl rfl rfl (names:=[st "self",st "column"]) (by kernel_rfl) rfl (R3 fun u_ u_=>by kernel_rfl) fun gs=>?_
 refine ⟨_,_,.same,d9 rfl,by refine (?_:2≤1000000);exact (jv2 tT),?_⟩
 refine d4 u8 [a,b] (fun x=>some (k7 (up x))) rfl (by kernel_rfl) (fun x hx=>?_) ?_
 ·refine ⟨.new rfl,⟨fun u_=>?_,nt⟩⟩
  refine j0 R5 rfl ?_
  rcases jv6.mp hx with rfl | hx
  ·exact cx7 W U r ha hr.1 ⟨rfl,_,rfl,rfl⟩
  ·refine a5 (jv4.mp hx) ?_
   exact cx7 W U r hb' hr.2 ⟨rfl,_,rfl,rfl⟩
 refine ⟨rfl,.inl ?_⟩
 refine ⟨by rfl,?_⟩
 refine ⟨_,b0,?_⟩
 refine j8 gs (fun l:List Int=>V.dat (k7 l)) [up a,up b] (fun l ρ H'=>H'=H∧∃ m:Nat,ρ=[(st "some",.dat (.list [k7 (up a),k7 (up b)])),(st "many",.dat (.int m)),(st "self",ak7 (x7 T ord ops) (m8 lots)),(st "column",.dat (.tuple [.str a,.str b]))]∧((l=[up a,up b]∧m=1)∨(l=[up b]∧m≤20)∨(l=[]∧m≤400))) rfl ?_ ?_ ?_
 ·exact ⟨rfl,1,rfl,.inl ⟨rfl,rfl⟩⟩
 ·rintro N hN hE d l ρ1 H1 ⟨rfl,m,rfl,hl⟩
  have hd:d.length≤20∧m≤20∧((l=[up b]∧m=1)∨l=[]):=by
   rcases hl with ⟨e,rfl⟩ | ⟨e,h⟩ | ⟨e,h⟩
   ·(injection e with i j;subst j;subst i);exact ⟨l1,by exact (jv2 tT),.inl ⟨rfl,rfl⟩⟩
   ·(injection e with i j;subst j;subst i);exact ⟨l2,h,.inr rfl⟩
   ·cases e
  refine j7 (j5 rfl) (by refine a5 (jv1 ..) (a5 (jv1 ..) ?_);exact d6 [_] 1 zA (.num 20) (.add zA nA) (.num 4611686018427387904) tT hd.1) ?_
  refine a5 (jv1 ..) (a5 (jv1 ..) ?_)
  refine ⟨.of_left (intBits_le_64 (by lia) (by lia)),?_⟩
  refine hN _ _ _ ⟨_,.all (ρ:=[(st "some",.dat (.list [k7 (up a),k7 (up b)])),(st "many",.dat (.int (m * d.length:Nat))),(st "self",ak7 (x7 T ord ops) (m8 lots)),(st "column",.dat (.tuple [.str a,.str b]))]) ⟨rfl,rfl,rfl,rfl,trivial⟩,rfl,m * d.length,rfl,?_⟩
  have h2:m * d.length≤400:=mj5 hd.2.1 hd.1
  (refine Qa hd.2.2 ?_ ?_;(intro yz;(refine oA yz ?_;clear yz;rintro rfl rfl));rotate_left;rintro rfl;rotate_left)
  ·exact .inr (.inl ⟨rfl,by exact d6 [_] 1 zA (.num 20) (.mulL 1 zA) (.num 20) tT hd.1⟩)
  ·exact .inr (.inr ⟨rfl,h2⟩)
 ·rintro ρ1 H1 ⟨rfl,m,rfl,hl⟩
  have hm:m≤400:=by
   rcases hl with ⟨e,_⟩ | ⟨e,_⟩ | ⟨_,h⟩
   ·cases e
   ·cases e
   ·exact h
  refine f9 gs ?_
  refine ⟨fun e=>absurd (of_decide_eq_true e) (by exact lx8.mpr (F0 [_] 1 zA (.num 400) zA (.num 100000) tT (ic hm))),fun u_=>?_⟩
  refine o8 (k:=0) (x:=.dat (k7 (up a))) d5 rfl (by exact kx0 _) rfl ?_
  refine ⟨nn,⟨(by exact (jv2 tT):2≤1000000),?_⟩⟩
  have e1:F3 [k7 (up a),k7 (up b)] (some 1) none none=[k7 (up b)]:=ev6 _ 1
  refine a5 e1 ?_
  refine ⟨_,b0,?_⟩
  refine j8 gs (fun l:List Int=>V.dat (k7 l)) [up b] (fun l ρ H'=>H'=H1∧∃ f,ρ=[(st "found",.dat f),(st "some",.dat (.list [k7 (up a),k7 (up b)])),(st "many",.dat (.int m)),(st "self",ak7 (x7 T ord ops) (m8 lots)),(st "column",.dat (.tuple [.str a,.str b]))]∧((l=[up b]∧f=k7 (up a))∨(l=[]∧f=v6 ((up a).flatMap fun x=>(up b).map fun y=>[x,y])))) rfl ?_ ?_ ?_
  ·exact ⟨rfl,_,rfl,.inl ⟨rfl,rfl⟩⟩
  ·rintro N hN hE d l ρ1 H1 ⟨rfl,f,rfl,⟨hl,rfl⟩ | ⟨hl,_⟩⟩
   ·(injection hl with i j;subst i;subst j)
    refine Op.lift (m:=n+1) (fz5 (by exact ul l1 tT) (by exact ul l2 tT) ?_ (by lia)) (by exact ln0 [_,_] (.add zA nA) (.add (.add zA (.num 5)) zB) tT)
    exact hN _ _ _ ⟨_,.all (ρ:=[(st "found",.dat (v6 ((up a).flatMap fun x=>(up b).map fun y=>[x,y]))),(st "some",.dat (.list [k7 (up a),k7 (up b)])),(st "many",.dat (.int m)),(st "self",ak7 (x7 T ord ops) (m8 lots)),(st "column",.dat (.tuple [.str a,.str b]))]) ⟨rfl,rfl,rfl,rfl,rfl,trivial⟩,rfl,_,rfl,.inr ⟨rfl,rfl⟩⟩
   ·cases hl
  ·rintro ρ1 H1 ⟨rfl,f,rfl,⟨hl,_⟩ | ⟨_,rfl⟩⟩
   ·cases hl
   ·exact f9 gs q
end
end
section
noncomputable def R2 (l:List Int):List (List Int):=l.map fun x=>[x]
theorem av7 (l:List Int):k7 l=v6 (R2 l):=dw6 l
noncomputable def R9 (l:List Int):List (List Int):=l.dropLast.map fun x=>[x,x+1]
noncomputable def q8 (low up:Str→List Int) (l:List Str):List PyData:=l.map fun x=>M2 x 1 (R2 (low x)) (R2 (up x))
noncomputable def bq2 (x:Str) (d:PyData):PyData:=.tuple [.str ("scope "++x),d]
noncomputable def t8 (tp:Str→Str) (ts:List Told) (l:List Str):List PyData:=l.zipIdx.filterMap fun p=>(p9 ts p.1).bind fun t=>if tp p.1=p.1 then none else some (bq2 p.1 (z8 t (p.2:Nat)))
noncomputable def M6 (up:Str→List Int):Option Str→List PyData
 | some x=>[M2 "o/next" 2 (R9 (up x)) (R9 (up x))]
 | none=>[]
noncomputable def ax0 (k:Nat):Option Str→List (Str × PyData)
 | some _=>[("o/next",.int k)]
 | none=>[]
theorem bk2 (tp:Str→Str) (ts:List Told) (l:List Str) (x:Str):t8 tp ts (l++[x])=t8 tp ts l++((p9 ts x).bind fun t=>if tp x=x then none else some (bq2 x (z8 t (l.length:Nat)))).toList:=by
 unfold t8
 refine a5 mw4 (a5 List.filterMap_append ?_)
 congr 1
 refine a5 (List.zipIdx_singleton ..) (a5 (kq5 ..) (a5 (List.filterMap_nil ..) (a5 (mx1 ..) ?_)))
 cases ((p9 ts x).bind fun t=>if tp x=x then none else some (bq2 x (z8 t (l.length:Nat)))) <;> rfl
structure BdW (T:List Sg) (ord:List Str) (tp:Str→Str) (df:Int) (ts:List Told) (lined:Option Str) (a:At) (low up:Str→List Int) (rk:Str→Nat):Prop where
 W:Wf T ord tp
 U:UpW T tp a.lots up rk
 at_:a=l9 T tp df ts lined ord ⟨[],[],[]⟩
 sh:∀ g∈T,Sh 0 (.str g.name)
 num:∀ t∈ts,0≤t.num∧t.num≤9
 lotE:∀ g∈T,0≤(J9 T df ts lined g).2∧(J9 T df ts lined g).2≤9
 olen:ord.length≤50
 ond:ord.Nodup
 nnd:a.names.Nodup
 nlen:a.names.length≤1000
 lowE:∀ x g,c0 T x=some g→(a.sure.lookup x).getD []=low x
 lowU:∀ x g,c0 T x=some g→(∀ i∈low x,i∈up x)∧(low x).Pairwise (·<·)
 rng:∀ x g,c0 T x=some g→∀ i∈up x,0≤i∧i<a.names.length
 nxt:∀ x,lined=some x→(∃ g,c0 T x=some g)∧(tp x=x→∃ lo m,up x=E6 lo m)
 rkE:∀ x g,c0 T x=some g→rk x≤9
 tsn:ts.length≤1000
 sg:∀ t∈ts,t.sig.length≤1000
 ono:("o/next":Str)∉ord
 nempty:∀ x∈ord,x≠""
section
variable {w:World} {hb:Heap} {n m:Nat} {X:Xs} {H:HL} {T:List Sg} {ord:List Str} {tp:Str→Str} {df0 df:Int} {ts:List Told} {lined:Option Str} {a:At} {low up:Str→List Int} {rk:Str→Nat}
noncomputable abbrev ek8 (T:List Sg) (ord:List Str) (lined:Option Str) (df0 df:Int) (ts:List Told) (a:At) (x D:Addr):c8:=[(st "bounds",.ref x),(st "uppers",ak7 (x7 T ord (m5 lined)) (m8 a.lots)),(st "sure",.dct (m8 a.sure)),(st "lots",.dct (m8 a.lots)),(st "names",.dat (.list (a6 a.names))),(st "numbers",bz2 T ord (m5 lined) df ts lined),(st "labelled",.ref D),(st "self",cj8 T ord lined),(st "scope",.dat (l5 df0 ts))]
theorem rowOk (B:BdW T ord tp df ts lined a low up rk) {x:Str} {g:Sg} (hg:c0 T x=some g):RowsOk w hb a.names 1 (R2 (low x))∧RowsOk w hb a.names 1 (R2 (up x))∧∀ k∈R2 (low x),k∈R2 (up x):=by
 have h1:=B.rng x g hg
 have h2:=B.lowU x g hg
 have l1:∀ {l:List Int},l.Pairwise (·<·)→(∀ i∈l,i∈up x)→l.length≤1000:=fun p q=>jw9 (z9 (lo:=0) (N:=a.names.length) p fun i m=>by have:=h1 i (q i m);exact ⟨F0 [_] 1 (.num 0) zA (.num 0) zA tT this.1,F0 [_,_] 1 (.add zA nA) zB (.add zA nA) (.add (.num 0) zB) tT this.2⟩) B.nlen
 refine ⟨.one (l1 h2.2 h2.1) (fun i m=>h1 i (h2.1 i m)) h2.2,.one (l1 (B.U.asc x g hg) fun u_ h=>h) h1 (B.U.asc x g hg),fun k hk=>?_⟩
 (refine c9 (jv9.mp hk) ?_;rintro i m rfl)
 exact jv9.mpr ⟨i,h2.1 i m,rfl⟩
theorem dk8 {Q:VP} (hm:20≤m) (B:BdW T ord tp df ts lined a low up rk) (hdf:df=if df0 ≥ 0 then df0 else 3) (hr:N7 T [] ts→X.ex) (hr2:∀ x,lined=some x→tp x≠x→X.ex) (hr3:cz3 T tp ts ord→X.ex)
  (q:¬N7 T [] ts→(∀ x,lined=some x→tp x=x)→¬cz3 T tp ts ord→Q (.tup [dq4 a.names (q8 low up ord++M6 up lined) (g4 ord++ax0 ord.length lined),.dct (g4 ord++ax0 ord.length lined),.dat (.list (t8 tp ts ord))]) H) :
  Op PW w hb (m+1) X (RepV PW w) (fun vs=>call (.ref 399) vs) [cj8 T ord lined,.dat (l5 df0 ts)] H Q:=by
 have W:=B.W
 refine h8 (g8 rfl rfl rfl (names:=[st "self",st "scope"]) (by kernel_rfl) rfl (R3 fun u_ u_=>by kernel_rfl) fun gs=>?_)
 refine a9 R7 rfl rfl ?_
 refine Op.lift (m:=6) (fz8 W B.tsn (fun t ht=>⟨B.sg t ht,(B.num t ht).1⟩) (fun x hx=>(B.nxt x hx).1) hr hr2 fun n1 n2=>?_) (by exact d6 [_] 1 (.num 20) zA (.num 6) zA tT hm)
 refine p8 hdf ?_
 intro D
 refine ⟨rfl,?_⟩
 refine j0 R7 rfl ?_
 refine Op.lift (m:=5) (iz8 W B.sh B.num B.lotE B.olen B.ond hr3 fun n3=>?_) (by exact d6 [_] 1 (.num 20) zA (.num 5) zA tT hm)
 refine p8 B.at_ ?_
 have q:=q n1 n2 n3
 refine Op.lift (m:=2) (dk9 B.nlen B.nnd ?_) (by exact d6 [_] 1 (.num 20) zA (.num 2) zA tT hm)
 refine Op.lift (m:=2) (hq7 fun x dx bl nb=>?_) (by exact d6 [_] 1 (.num 20) zA (.num 2) zA tT hm)
 refine a9 R7 rfl rfl ?_
 refine a9 R7 rfl rfl ?_
 refine Op.lift (m:=2) (dq3 rfl ?_) (by exact d6 [_] 1 (.num 20) zA (.num 2) zA tT hm)
 refine ⟨rfl,?_⟩
 refine a9 R7 rfl rfl ?_
 refine j0 s8 rfl ?_
 refine Op.lift (m:=1) (cx8 s8 rfl W.olen ?_) (by exact d6 [_] 1 (.num 20) zA nA zA tT hm)
 refine ⟨_,b0,?_⟩
 refine j8 gs u8 ord (fun l ρ H'=>ρ=ek8 T ord lined df0 df ts a x D∧∃ l1,ord=l1++l∧H'=M9 x dx bl nb a.names (q8 low up l1) (g4 l1) ((D,.lst (t8 tp ts l1))::H)) i6 ?_ ?_ ?_
 ·exact ⟨rfl,[],rfl,rfl⟩
 ·rintro N hN hE y l ρ1 H1 ⟨rfl,l1,hl,rfl⟩
  have hy:y∈ord:=by refine a5 hl ?_;exact jv7 _ jv0
  refine oE (W.known y hy) fun g hg=>?_
  refine J7 (rowOk (w:=w) (hb:=hb) B hg) fun K1 K2 K3=>?_
  have hl1:l1.length≤50:=by have:=B.olen;rw [hl] at this;simp at this;exact d6 [_,_] 1 (.add zA (.add zB nA)) (.num 50) zA (.num 50) tT this
  have hno:(g4 l1).lookup y=none:=s9 (by
   refine a5 (E2 ..) ?_
   intro h
   have:=B.ond
   rw [hl,kq9] at this
   exact this.2.2 y h y (jv0 ..) rfl)
  have I:∀ {bs ns Hs},OfC w hb (M9 x dx bl nb a.names bs ns Hs) (.ref x) 284 _:=fun {bs ns Hs}=>j6 2 rfl (by kernel_rfl)
  refine j0 I rfl ?_
  refine dk2 g7 ?_
  refine dz9 g7 (rv:=.dat (v6 (R2 (low y)))) ?_ ?_
  ·unfold fq9
   refine a5 G2 (p8 (B.lowE y g hg) ?_)
   cases a.sure.lookup y with
   | none=>rfl
   | some v=>exact congrArg V.dat (dw6 v)
  refine j0 R5 rfl ?_
  refine Op.lift (m:=0+5+9) (cx7 W B.U 9 hg (B.rkE y g hg) ?_) (by exact d6 [_] 1 (.num 20) zA (.num 14) zA tT hm)
  refine a5 (av7 ..) ?_
  refine Op.lift (m:=3) (iv4 (r:=1) B.nlen (by exact (jv2 tT)) (by exact jw4 _) K1 K2 K3 hno (by refine a5 (x8 ..) ?_;exact ul hl1 tT) (by unfold q8;refine a5 (jv1 ..) ?_;exact ul hl1 tT) ?_) (by exact d6 [_] 1 (.num 20) zA (.num 3) zA tT hm)
  refine j0 E3 rfl ?_
  refine Op.lift (m:=4) (fz6 W hg ?_) (by exact d6 [_] 1 (.num 20) zA (.num 4) zA tT hm)
  have eb:q8 low up l1++[M2 y 1 (R2 (low y)) (R2 (up y))]=q8 low up (l1++[y]):=by unfold q8;refine a5 kq0 ?_;rfl
  have en:g4 l1++[(y,.int ((q8 low up l1).length:Nat))]=g4 (l1++[y]):=by refine a5 (V1 ..) ?_;unfold q8;exact a5 (jv1 ..) rfl
  have el:(q8 low up l1).length=l1.length:=by unfold q8;exact a5 (jv1 ..) rfl
  refine a5 eb (a5 en (a5 el ?_))
  have done:∀ {labs:List PyData},t8 tp ts l1++((p9 ts y).bind fun t=>if tp y=y then none else some (bq2 y (z8 t (l1.length:Nat)))).toList=labs→∀ {ρ2:c8},G7 ρ2 (ek8 T ord lined df0 df ts a x D)→∃ ρ',Keeps' ρ' ρ2∧ρ'=ek8 T ord lined df0 df ts a x D∧∃ l2,ord=l2++l∧M9 x dx bl nb a.names (q8 low up (l1++[y])) (g4 (l1++[y])) ((D,.lst labs)::H)=M9 x dx bl nb a.names (q8 low up l2) (g4 l2) ((D,.lst (t8 tp ts l2))::H):=fun {labs} e {ρ2} k=>⟨_,.all k,rfl,l1++[y],by refine a5 hl ?_;simp,by exact p8 (e ..) (a5 (bk2 ..) rfl)⟩
  have fm:(cv4 tp ts y (l1.length:Nat)=.none∧((p9 ts y).bind fun t=>if tp y=y then none else some (bq2 y (z8 t (l1.length:Nat))))=none)∨∃ t,cv4 tp ts y (l1.length:Nat)=z8 t (l1.length:Nat)∧((p9 ts y).bind fun t=>if tp y=y then none else some (bq2 y (z8 t (l1.length:Nat))))=some (bq2 y (z8 t (l1.length:Nat))):=by
   unfold cv4
   cases p9 ts y with
   | none=>exact .inl ⟨rfl,rfl⟩
   | some t =>
    by_cases e:tp y=y
    ·exact .inl ⟨if_pos e,if_pos e⟩
    ·exact .inr ⟨t,if_neg e,if_neg e⟩
  (refine Qa fm ?_ ?_;(intro yz;refine oA yz fun f1 f2=>?_);rotate_left;(intro yz;refine c9 yz fun t f1 f2=>?_);rotate_left)
  ·refine a5 f1 ?_
   exact ⟨Mine.nb,fun u_=>hN _ _ _ (done (by refine a5 f2 ?_;exact kq4 _) ⟨rfl,rfl,rfl,rfl,rfl,rfl,rfl,rfl,rfl,trivial⟩)⟩
  ·refine a5 f1 ?_
   refine ⟨fun u_=>?_,nt⟩
   refine i4 3 rfl ?_
   have a1:(Str.empty++("scope ":Str)).length≤1000:=sle (by kernel_rfl)
   have a2:=W.small _ _ hg
   refine ⟨Mine.up a1,Mine.up a2,Mine.up (n9 a1 a2),Mine.up (n9 a1 a2),?_⟩
   have hlab:(t8 tp ts l1).length≤l1.length:=jw9 (mj7 ..) (by refine a5 mq2 ?_;exact jw4 _)
   refine g5 (i:=3) rfl (by exact i5 [_,_] 1 zA zB 1 zB (.num 50) zA (.num 1000000) tT hlab hl1) ?_
   exact hN _ _ _ <| done (by refine a5 (f2 ..) (a5 (Str.empty_append ..) ?_);rfl) ⟨rfl,rfl,rfl,rfl,rfl,rfl,rfl,rfl,rfl,trivial⟩
 ·rintro ρ1 H1 ⟨rfl,l1,hl,rfl⟩
  rw [kq4] at hl
  subst hl
  refine f9 gs ?_
  refine a9 R7 rfl rfl ?_
  refine j0 s8 rfl ?_
  refine Op.lift (m:=1) (hq2 s8 rfl ?_) (by exact d6 [_] 1 (.num 20) zA nA zA tT hm)
  refine ⟨_,b0,?_⟩
  refine q9 gs u8 [] rfl (fun N hN E d hd=>absurd hd kq8) (f9 gs ?_)
  refine a9 R7 rfl rfl ?_
  refine j0 s8 rfl ?_
  refine Op.lift (m:=1) (cw9 s8 rfl (by cases lined <;> simp [m5]) ?_) (by lia)
  refine ⟨_,b0,?_⟩
  have I:∀ {bs ns Hs},OfC w hb (M9 x dx bl nb a.names bs ns Hs) (.ref x) 284 _:=fun {bs ns Hs}=>j6 2 rfl (by kernel_rfl)
  have fin:∀ {bs ns},bs=q8 low up ord++M6 up lined→ns=g4 ord++ax0 ord.length lined→TS PW w hb (U6 (j9 24 2)) m X (ek8 T ord lined df0 df ts a x D) ((u7 (j9 24 2)).drop 6) (M9 x dx bl nb a.names bs ns ((D,.lst (t8 tp ts ord))::H)) (aj2 fun d H'=>∃ Hs H0 d',H'=Hs++H0∧Fz Hs d d'∧Q d' H0):=by
   rintro bs ns rfl rfl
   refine f9 gs ?_
   refine a9 I rfl rfl ?_
   refine gx3 (x5 0 rfl) ?_ fun D2=>?_
   ·have:=B.olen
    refine a5 (jw8 ..) (a5 (x8 ..) ?_)
    cases lined <;> simp [ax0] <;> exact ul this tT
   ·exact ⟨[_,_,_,_,_],H,_,rfl,.tup (.cons (.inst (jv3 _ (jv3 _ (jv3 _ (jv0 ..)))) (.cons .same (.cons (.lst (jv3 _ (jv3 _ (jv0 ..)))) (.cons (.dct (jv3 _ (jv0 ..))) .nil))))
     (.cons (.dct (jv0 ..)) (.cons (.lst (jv3 _ (jv3 _ (jv3 _ (jv3 _ (jv0 ..)))))) .nil))),q⟩
  induction lined using Qd with
  | none=>exact q9 gs u8 [] rfl (fun N hN E d hd=>absurd hd kq8) (fin (kq4 _).symm (kq4 _).symm)
  | some s =>
   obtain ⟨⟨g,hg⟩,hup⟩:=B.nxt s rfl
   have et:=n2 s rfl
   refine oEE (hup et) fun lo k hk=>?_
   have hms:=W.mem s g hg
   have hlk:=(B.U.top s g hg (by refine a5 et ?_;exact B.nempty s hms)).2
   rw [et] at hlk
   have hlen:k≤1000:=by
    have:=z9 (lo:=0) (N:=a.names.length) (B.U.asc s g hg) fun i m=>by refine a5 (kw5 _) ?_;exact B.rng s g hg i m
    rw [hk,E6,jv1,kz9] at this
    exact jw9 this B.nlen
   have enx:R9 (up s)=(Qg (k - 1)).map fun j=>[((lo+j:Nat):Int),((lo+j:Nat):Int)+1]:=by
    refine a5 hk ?_
    delta R9 E6
    refine p8 mq8 (a5 jw5 ?_)
    refine a5 (show (Qg k).dropLast=Qg (k - 1) by cases k <;> simp [kk6]) ?_
    rfl
   have hul:(up s).length=k:=by rw [hk,E6,jv1,kz9]
   have hat:∀ j,j<k→(((up s).map fun i=>PyData.tuple [.int i]).map V.dat)[j]?=some (.dat (N4 ((lo+j:Nat):Int))):=fun j hj=>by
    rw [jw7,jw7,hk,E6,jw7,mv7 hj];rfl
   refine j8 gs (fun _:Unit=>V.dat (.tuple [.str "o",.str s])) [()] (fun l ρ H'=>ρ=ek8 T ord (some s) df0 df ts a x D∧((l=[()]∧H'=M9 x dx bl nb a.names (q8 low up ord) (g4 ord) ((D,.lst (t8 tp ts ord))::H))∨(l=[]∧H'=M9 x dx bl nb a.names (q8 low up ord++M6 up (some s)) (g4 ord++ax0 ord.length (some s)) ((D,.lst (t8 tp ts ord))::H)))) rfl ?_ ?_ ?_
   ·exact ⟨rfl,.inl ⟨rfl,rfl⟩⟩
   ·rintro N hN hE u l ρ1 H1 ⟨rfl,⟨h,rfl⟩ | ⟨h,_⟩⟩
    ·(injection h with i j;subst i;subst j)
     refine g9 g7 (G2.trans (congrArg _ hlk)) ?_
     refine j0 I rfl ?_
     have a1:("o":Str).length≤1000:=sle (by kernel_rfl)
     have a2:(Str.empty++("o":Str)).length≤1000:=sle (by kernel_rfl)
     have a3:=n9 a2 (sle (s:=("/next":Str)) (by kernel_rfl))
     refine ⟨Mine.up a1,Mine.up a2,Mine.up a3,Mine.up a3,?_⟩
     refine j7 (j5 rfl) ?_ ?_
     ·refine a5 (jv1 ..) (a5 (jv1 ..) (a5 (hul ..) ?_));exact d6 [_] 1 zA (.num 1000) (.add zA nA) (.num 4611686018427387904) tT hlen
     refine a5 (jv1 ..) (a5 (jv1 ..) (a5 (hul ..) ?_))
     refine r7 ?_
     have erv:E7 0 ((k:Int) - 1)=(Qg (k - 1)).map fun (j:Nat)=>V.dat (.int (0+j)):=by
      unfold E7
      exact a5 (show (((k:Int) - 1) - 0).toNat=k - 1 by lia) rfl
     refine ⟨_,_,.same,m6 (by decide) (by exact li0 [] (.num 0) (.num 1000000) tT) (by lia) (by lia),by refine a5 (erv ..) (a5 (jv1 ..) (a5 (kz9 ..) ?_));exact i5 [_,_] 1 zA (.num 1000) 1 zB zA zB (.num 1000000) tT hlen (kj7 _ _),?_⟩
     refine d4 (fun j:Nat=>V.dat (.int (0+j))) (Qg (k - 1)) (fun j=>some (w0 [((lo+j:Nat):Int),((lo+j:Nat):Int)+1])) erv (by kernel_rfl) (fun j hj=>?_) ?_
     ·have hj:j<k - 1:=kx9.mp hj
      refine ⟨.new rfl,⟨fun u_=>?_,nt⟩⟩
      refine o8 (k:=j) (j5 rfl) (by exact mz8 (li0 [_] (.add (.num 0) zA) zA tT) (li0 [_] zA (.add (.num 0) zA) tT)) (by exact T5 [_,_,_] 1 (.add zA nA) zB 1 zC (.num 1000) 1 zB zC zA (.num 1000000) tT hj hlen (kj7 _ _)) (hat j (by exact i5 [_,_,_] 1 (.add zA nA) zB 1 zB zC (.add zA nA) zC tT hj (kj7 _ _))) ?_
      refine o8 (k:=j+1) (j5 rfl) (by exact mz8 (li0 [_] (.add (.add (.num 0) zA) nA) (.add zA nA) tT) (li0 [_] (.add zA nA) (.add (.add (.num 0) zA) nA) tT)) (by exact T5 [_,_,_] 1 (.add zA nA) zB 1 zC (.num 1000) 1 zB zC (.add zA nA) (.num 1000000) tT hj hlen (kj7 _ _)) (hat (j+1) (mv4 hj)) ?_
      exact ⟨(show 2≤1000000 by exact (jv2 tT)),rfl,_,rfl,rfl⟩
     refine ⟨rfl,.inl ?_⟩
     refine a5 kx5 (a5 (show ((Qg (k - 1)).map fun j=>w0 [((lo+j:Nat):Int),((lo+j:Nat):Int)+1])=(R9 (up s)).map w0 by refine a5 enx (a5 jw5 ?_);rfl) ?_)
     have hnl:(R9 (up s)).length≤1000:=by refine a5 (enx ..) (a5 (jv1 ..) (a5 (kz9 ..) ?_));exact i5 [_,_] 1 zA (.num 1000) 1 zB zA zB (.num 1000) tT hlen (kj7 _ _)
     refine r6 l8 (by refine a5 (jv1 ..) ?_;exact ul hnl tT) ?_
     have K:RowsOk w hb a.names 2 (R9 (up s)):=.pairs (by refine a5 lw0 ?_;exact T5 [_,_,_] 1 zA zB 1 zB (.num 1000) 1 zC zA zC (.num 1000) tT (o7 hul) hlen (kj7 _ _)) (fun i m=>?_) ((B.U.asc s g hg).sublist (List.dropLast_sublist _))
     ·have hno:(g4 ord).lookup ("o/next":Str)=none:=s9 (by refine a5 (E2 ..) ?_;exact B.ono)
      have hol:=B.olen
      refine Op.lift (m:=4) (fz7 (r:=2) B.nlen (by exact (jv2 tT)) (by exact kx3 _) K hno (by refine a5 (x8 ..) ?_;exact ul hol tT) (by unfold q8;refine a5 (jv1 ..) ?_;exact ul hol tT) ?_) (by exact d6 [_] 1 (.num 20) zA (.num 4) zA tT hm)
      refine hN _ _ _ ⟨_,.all (ρ:=ek8 T ord (some s) df0 df ts a x D) ⟨rfl,rfl,rfl,rfl,rfl,rfl,rfl,rfl,rfl,trivial⟩,rfl,.inr ⟨rfl,?_⟩⟩
      unfold q8
      refine a5 (jv1 ..) ?_;rfl
     ·have hin:∀ j,j<k→(((lo+j:Nat):Int))∈up s:=fun j hj=>by rw [hk,E6];exact jv9.mpr ⟨j,kx9.mpr hj,rfl⟩
      rw [hk,E6,← mq8,show (Qg k).dropLast=Qg (k - 1) by cases k <;> simp [kk6]] at m
      (refine c9 (jv9.mp m) ?_;rintro j hj rfl)
      have hj:=kx9.mp hj
      have h1:=B.rng s g hg _ (hin (j+1) (mv4 hj))
      exact ⟨kx2 _,h1.2⟩
    ·cases h
   ·rintro ρ1 H1 ⟨rfl,⟨h,_⟩ | ⟨_,rfl⟩⟩
    ·cases h
    ·exact fin rfl rfl
end
end
section
section
variable {w:World} {hb:Heap} {n:Nat} {X:Xs} {H:HL} {sc:Scope} {ρ:c8}
noncomputable def forT (s:Option Stmt):Expr:=match s with
 | some (.For t _ _ _ _)=>t
 | _=>default
noncomputable def forB (s:Option Stmt):List Stmt:=match s with
 | some (.For _ _ b _ _)=>b
 | _=>[]
theorem fk6 (g:i9 sc=true) {α:Type} {t:Expr} {body rest:List Stmt} {Q:Flw→c8→HL→Prop} (v:α→V) (l:List α) (I:List α→c8→HL→Prop) {ds:List V} (he:ds=l.map v) (i:∃ ρ',Keeps' ρ' ρ∧I l ρ' H)
  (hs:∀ N:List α→Flw→c8→HL→Prop,(∀ ds ρ2 H2,(∃ ρ',Keeps' ρ' ρ2∧I ds ρ' H2)→N ds .next ρ2 H2)→(∀ ds fl ρ2 H2,J1 w hb sc n X rest Q (fun u_ u_=>False) fl ρ2 H2→N ds fl ρ2 H2)→∀ d ds ρ H,I (d::ds) ρ H→wpT PW w hb sc n X ρ t (v d) H fun ρ1 H1=>wpS PW w hb sc n X 60 ρ1 body H1 (N ds))
  (hd:∀ ρ H,I [] ρ H→TS PW w hb sc n X ρ rest H Q):TFor PW w hb sc n X t body ds ρ H (U5 PW w hb sc n X rest Q):=by
 refine c9 i fun ρ' k i=>?_
 subst he
 induction l using Qh with
 | nil=>exact Tri.fewer (hd ρ' H i) k
 | cons d ds=>exact TFor.fewer k (j8 g v (d::ds) I rfl i hs hd)
variable {T:List Sg} {df0 df:Int} {ts:List Told} {lined:Option Str}
theorem Y4 {t1:List Told} {t:Told} {x:Str}:p9 (t1++[t]) x=(p9 t1 x).or (if t.sig=x then some t else none):=by
 unfold p9
 refine a5 (List.find?_append) (a5 (kw0) (a5 (List.find?_nil) ?_))
 by_cases h:t.sig=x
 ·refine a5 (if_pos h) (a5 h ?_);simp
 ·refine a5 (if_neg h) ?_
  have:(x == t.sig)=false:=beq_false_of_ne (Ne.symm h)
  exact a5 this rfl
theorem ez3 {t1:List Told} {x:Str} (h:x∉t1.map Told.sig):p9 t1 x=none:=by
 unfold p9
 rw [mw6]
 intro t ht e
 exact h (jv9.mpr ⟨t,ht,(eq_of_beq e).symm⟩)
theorem jk3 {x:Str} {g:Sg} {Q:VP} (hg:c0 T x=some g) (h64:T.length<64) (hlk:∀ g∈T,c0 T g.name=some g) (hnd:(T.map Sg.name).Nodup) (hsh:∀ g∈T,Sh 0 (.str g.mult)) (hts:(ts.map Told.sig).Nodup) (hdf:df=if df0 ≥ 0 then df0 else 3)
  (q:Q (.dat (.tuple [.bool (J9 T df ts lined g).1,.int (J9 T df ts lined g).2])) H) :
  Op PW w hb (n+1) X (RepV PW w) (fun vs=>call (.ref 621) vs) [.dct (i8 T),.dat (l5 df0 ts),.dat (.list (a6 (m4 lined))),.dat (.str x)] H Q:=by
 (refine oA (w2 hg) ?_;rintro mg rfl)
 refine g8 rfl rfl rfl (names:=[st "table",st "scope",st "lined",st "name"]) (by kernel_rfl) rfl (ar4 fun u_ u_ u_ u_=>by kernel_rfl) fun gs=>?_
 have last:∀ (pe:Bool) (pm:Int),(pe,pm)=G1 T df ts g→wpS PW w hb (U6 (j4 36)) n X 60 [(st "is_exact",.dat (.bool pe)),(st "many",.dat (.int pm)),(st "table",.dct (i8 T)),(st "scope",.dat (l5 df0 ts)),(st "lined",.dat (.list (a6 (m4 lined)))),(st "name",.dat (.str g.name))] ((u7 (j4 36)).drop 4) H (aj2 Q):=by
  intro pe pm hp
  unfold J9 at q
  rw [← hp] at q
  dsimp only at q
  refine g9 g7 (z6 hg) ?_
  refine ⟨fun e=>?_,fun e=>?_⟩
  ·rw [if_pos (p7 e)] at q
   exact q
  rw [if_neg (r8 e)] at q
  have fin:∀ (pm':Int) (b:Bool),pm'=(if g.mult="lone" then if 1<pm then 1 else pm else pm)→b=(pe||decide (lined=some g.name))→Q (.dat (.tuple [.bool b,.int pm'])) H:=by
   rintro pm' b rfl rfl
   exact q
  have el:(m4 lined).any (· == g.name)=decide (lined=some g.name):=by
   induction lined using Qd with
   | none=>rfl
   | some y =>
    refine (?_:(y == g.name||false)=_)
    refine a5 (Bool.or_false ..) ?_
    by_cases h:y=g.name <;> simp [h]
  refine g9 g7 (z6 hg) ?_
  refine ⟨fun e=>⟨fun e1=>?_,fun e1=>?_⟩,fun e=>?_⟩
  ·refine ⟨fun u_=>⟨fun e2=>fin _ _ ?_ ?_,fun e2=>aq8 (ys:=m4 lined) eq8.seq (fin _ _ ?_ ?_)⟩,nt⟩
   ·exact a5 (if_pos (p7 e)) (a5 (if_pos (of_decide_eq_true e1)) rfl)
   ·refine a5 e2 ?_;rfl
   ·exact a5 (if_pos (p7 e)) (a5 (if_pos (of_decide_eq_true e1)) rfl)
   ·refine a5 el (a5 e2 ?_);rfl
  ·refine ⟨nb,fun u_=>⟨fun e2=>fin _ _ ?_ ?_,fun e2=>aq8 (ys:=m4 lined) eq8.seq (fin _ _ ?_ ?_)⟩⟩
   ·exact a5 (if_pos (p7 e)) (a5 (if_neg (of_decide_eq_false e1)) rfl)
   ·refine a5 e2 ?_;rfl
   ·exact a5 (if_pos (p7 e)) (a5 (if_neg (of_decide_eq_false e1)) rfl)
   ·refine a5 el (a5 e2 ?_);rfl
  ·refine ⟨nb,fun u_=>⟨fun e2=>fin _ _ ?_ ?_,fun e2=>aq8 (ys:=m4 lined) eq8.seq (fin _ _ ?_ ?_)⟩⟩
   ·exact a5 (if_neg (r8 e)) rfl
   ·refine a5 e2 ?_;rfl
   ·exact a5 (if_neg (r8 e)) rfl
   ·refine a5 el (a5 e2 ?_);rfl
 have main2:∀ ρ,Keeps' [(st "is_exact",.dat (.bool false)),(st "many",.dat (.int (w7 T df g))),(st "table",.dct (i8 T)),(st "scope",.dat (l5 df0 ts)),(st "lined",.dat (.list (a6 (m4 lined)))),(st "name",.dat (.str g.name))] ρ →
   ∃ ds,R4 PW w hb n (.dat (.tuple (ts.map Told.d))) H H ds∧TFor PW w hb (U6 (j4 36)) n X (forT (u7 (j4 36))[3]?) (forB (u7 (j4 36))[3]?) ds ρ H (U5 PW w hb (U6 (j4 36)) n X ((u7 (j4 36)).drop 4) (aj2 Q)):=by
  intro ρ k
  refine ⟨_,d9 rfl,?_⟩
  refine fk6 gs (fun t:Told=>V.dat t.d) ts (fun l ρ H'=>H'=H∧∃ l1,ts=l1++l∧∃ (pe:Bool) (pm:Int),(pe,pm)=G1 T df l1 g∧ρ=[(st "is_exact",.dat (.bool pe)),(st "many",.dat (.int pm)),(st "table",.dct (i8 T)),(st "scope",.dat (l5 df0 ts)),(st "lined",.dat (.list (a6 (m4 lined)))),(st "name",.dat (.str g.name))]) (by refine a5 jw5 ?_;rfl) ⟨_,k,rfl,[],rfl,_,_,rfl,rfl⟩ ?_ ?_
  ·(intro N hN hE t l ρ1 H1 yz;(refine V7 yz ?_;clear yz;rintro rfl l1 y;refine oA y ?_;clear y;rintro hl yy;refine y9 yy ?_;clear yy;rintro pe pm hp rfl))
   have hp2:G1 T df (l1++[t]) g=if t.sig=g.name then (t.ex,t.num) else (pe,pm):=by
    have hp':=hp
    unfold G1 at hp' ⊢
    refine a5 Y4 ?_
    by_cases h:t.sig=g.name
    ·rw [if_pos h,if_pos h,ez3 fun m=>?_];rfl
     rw [hl,kq0,kq9] at hts
     exact hts.2.2 _ m t.sig (jv0 ..) h.symm
    ·refine a5 (if_neg h) (a5 (if_neg h) (a5 hp' ?_))
     cases p9 l1 g.name <;> rfl
   refine ⟨fun e=>?_,fun e=>?_⟩
   ·exact ⟨rfl,hN _ _ _ ⟨_,.all (ρ:=[(st "is_exact",.dat (.bool t.ex)),(st "many",.dat (.int t.num)),(st "table",.dct (i8 T)),(st "scope",.dat (l5 df0 ts)),(st "lined",.dat (.list (a6 (m4 lined)))),(st "name",.dat (.str g.name))]) ⟨rfl,rfl,rfl,rfl,rfl,rfl,trivial⟩,rfl,l1++[t],by refine a5 hl ?_;simp,t.ex,t.num,by exact a5 hp2 (a5 (if_pos (p7 e)) rfl),rfl⟩⟩
   ·exact hN _ _ _ ⟨_,.all (ρ:=[(st "is_exact",.dat (.bool pe)),(st "many",.dat (.int pm)),(st "table",.dct (i8 T)),(st "scope",.dat (l5 df0 ts)),(st "lined",.dat (.list (a6 (m4 lined)))),(st "name",.dat (.str g.name))]) ⟨rfl,rfl,rfl,rfl,rfl,rfl,trivial⟩,rfl,l1++[t],by refine a5 hl ?_;simp,pe,pm,by exact a5 hp2 (a5 (if_neg (r8 e)) rfl),rfl⟩
  ·(intro ρ1 H1 yz;(refine V7 yz ?_;clear yz;rintro rfl l1 y;refine V7 y ?_;clear y;rintro hl pe yy;refine c9 yy ?_;clear yy;rintro pm hp rfl))
   rw [kq4] at hl
   subst hl
   exact f9 gs (last pe pm hp)
 have main:∀ d:Int,d=df→wpS PW w hb (U6 (j4 36)) n X 59 [(st "is_exact",.dat (.bool false)),(st "many",.dat (.int d)),(st "table",.dct (i8 T)),(st "scope",.dat (l5 df0 ts)),(st "lined",.dat (.list (a6 (m4 lined)))),(st "name",.dat (.str g.name))] ((u7 (j4 36)).drop 1) H (aj2 Q):=by
  rintro d rfl
  refine dz6 g7 (by unfold i8;refine a5 (jv1 ..) ?_;exact h64) fun l hl=>?_
  have ek:(i8 T).map (·.1)=T.map Sg.name:=by unfold i8;refine a5 jw5 ?_;rfl
  rw [ek] at hl
  refine ⟨_,_,.same,b0,by refine a5 (jv1 ..) (a5 (jv1 ..) (a5 (hl.length_eq ..) (a5 (jv1 ..) ?_)));exact d6 [_] 1 (.add zA nA) (.num 64) zA (.num 1000000) tT h64,?_⟩
  refine d4 u8 l (fun late=>((c0 T late).bind fun g'=>if g'.parent=g.name then some g'.mult else none).map .str) i6 (by kernel_rfl) (fun late hlate=>?_) ?_
  ·(refine c9 (jv9.mp (hl.mem_iff.mp hlate)) ?_;rintro g' mg' rfl)
   have hg':=hlk g' mg'
   refine ⟨.new rfl,g9 g7 (z6 hg') ?_⟩
   refine ⟨fun e=>g9 g7 (z6 hg') ⟨rfl,_,rfl,?_⟩,fun e=>⟨rfl,?_⟩⟩
   ·refine a5 hg' ?_
    refine (?_:((if g'.parent=g.name then some g'.mult else none).map PyData.str)=_)
    refine a5 (if_pos (p7 e)) ?_;rfl
   ·refine a5 hg' ?_
    refine (?_:((if g'.parent=g.name then some g'.mult else none).map PyData.str)=_)
    refine a5 (if_neg (r8 e)) ?_;rfl
  refine ⟨rfl,?_⟩
  obtain ⟨bm,hbm,hpm⟩:∃ bm:List Str,(l.filterMap fun late=>((c0 T late).bind fun g'=>if g'.parent=g.name then some g'.mult else none).map PyData.str)=a6 bm∧bm.Perm ((z4 T g.name).map Sg.mult):=by
   refine ⟨l.filterMap fun late=>(c0 T late).bind fun g'=>if g'.parent=g.name then some g'.mult else none,?_,(hl.filterMap _).trans (.of_eq ?_)⟩
   ·rw [a6,lj4]
   ·refine a5 mw7 ?_
    unfold z4
    refine p8 (Q4 (p:=fun g':Sg=>g'.parent=g.name) (f:=Sg.mult)) ?_
    refine cv6 fun g' hg'=>?_
    refine (?_:(c0 T g'.name).bind _=_)
    refine a5 (hlk g' hg') ?_;rfl
  refine a5 hbm ?_
  have lbm:bm.length≤63:=by
   have:=hpm.length_eq
   rw [jv1] at this
   have:(z4 T g.name).length≤T.length:=kv3 _ _
   lia
  have shb:∀ z∈a6 bm,Sh 0 z:=fun z hz=>by
   (refine c9 (jv9.mp hz) ?_;rintro m hm rfl)
   (refine c9 (jv9.mp (hpm.mem_iff.mp hm)) ?_;rintro g' h1 rfl)
   exact hsh g' (kj0.mp h1).1
  have kp:∀ {ρ:c8} {v:Int},w7 T d g=v→G7 ρ [(st "is_exact",.dat (.bool false)),(st "many",.dat (.int v)),(st "table",.dct (i8 T)),(st "scope",.dat (l5 df0 ts)),(st "lined",.dat (.list (a6 (m4 lined)))),(st "name",.dat (.str g.name))]→Keeps' [(st "is_exact",.dat (.bool false)),(st "many",.dat (.int (w7 T d g))),(st "table",.dct (i8 T)),(st "scope",.dat (l5 df0 ts)),(st "lined",.dat (.list (a6 (m4 lined)))),(st "name",.dat (.str g.name))] ρ:=fun {ρ v} e k=>by refine a5 e ?_;exact .all k
  have enil:(a6 bm=[]) ↔ z4 T g.name=[]:=by
   rw [← kj4,← kj4,a6,jv1,hpm.length_eq,jv1]
  have no:¬(g.abs=true∧z4 T g.name≠[]∧J0 (z4 T g.name)=true)→w7 T d g=d:=fun h=>if_neg h
  refine g9 g7 (z6 hg) ?_
  refine ⟨fun ea=>?_,fun ea=>⟨nb,fun u_=>main2 _ (kp (no fun h=>by rw [h.1] at ea;exact nt ea) ⟨rfl,rfl,rfl,rfl,rfl,rfl,trivial⟩)⟩⟩
  ·refine .inl ?_
   refine X4 (Sh.list (k:=0) shb).shaped rfl ?_
   refine a5 (M1 ..) ?_
   refine ⟨fun eb=>?_,fun eb=>⟨nb,fun u_=>main2 _ (kp (no fun h=>?_) ⟨rfl,rfl,rfl,rfl,rfl,rfl,trivial⟩)⟩⟩
   ·refine ⟨_,_,.same,b0,by refine a5 (jv1 ..) ?_;show (a6 bm).length≤_;unfold a6;refine a5 (jv1 ..) ?_;exact ul lbm tT,?_⟩
    refine d4 u8 bm (fun m=>if m="one" then none else some (.str m)) i6 (by kernel_rfl) (fun m hm=>?_) ?_
    ·exact ⟨.new rfl,⟨fun e=>⟨rfl,_,rfl,if_neg (G3 e)⟩,fun e=>⟨rfl,if_pos (I5 e)⟩⟩⟩
    refine ⟨rfl,.inl ?_⟩
    refine .inl ?_
    refine az6 (Sh.list (k:=0) fun z hz=>?_).shaped rfl ?_
    ·refine c9 (lq0.mp hz) fun m h1 h2=>?_
     split at h2
     ·exact nn h2
     ·(injection h2 with i;subst i);exact shb _ (jv9.mpr ⟨m,h1,rfl⟩)
    refine a5 (M1 ..) ?_
    have ea1:(bm.filterMap fun m:Str=>if m=("one":Str) then none else some (PyData.str m))=[] ↔ J0 (z4 T g.name)=true:=by
     unfold J0
     rw [List.filterMap_eq_nil_iff,kq3]
     constructor
     ·intro h g' m
      have:=h g'.mult (hpm.mem_iff.mpr (jw3 m))
      by_cases e:g'.mult="one"
      ·exact beq_iff_eq.mpr e
      ·rw [if_neg e] at this;exact ns this
     ·intro h m hm
      (refine c9 (jv9.mp (hpm.mem_iff.mp hm)) ?_;rintro g' h1 rfl)
      exact if_pos (eq_of_beq (h g' h1))
    have eb:a6 bm≠[]:=by simpa using eb
    refine ⟨fun e1=>?_,fun e1=>⟨nb,fun u_=>main2 _ (kp (no fun h=>of_decide_eq_false e1 (ea1.mpr h.2.2)) ⟨rfl,rfl,rfl,rfl,rfl,rfl,trivial⟩)⟩⟩
    refine ⟨fun u_=>?_,nt⟩
    refine j7 d5 (by rw [jv1,a6,jv1];exact d6 [_] 1 zA (.num 63) (.add zA nA) (.num 4611686018427387904) tT lbm) ?_
    refine main2 _ (kp ?_ ⟨rfl,rfl,rfl,rfl,rfl,rfl,trivial⟩)
    unfold w7
    rw [if_pos ⟨ea,fun h=>eb (enil.mpr h),ea1.mp (of_decide_eq_true e1)⟩,jv1,a6,jv1,hpm.length_eq,jv1]
   ·exact h.2.1 (enil.mp (by simpa using eb))
 refine ⟨fun e=>?_,fun e=>?_⟩
 ·refine ⟨rfl,main _ ?_⟩
  exact a5 hdf (a5 (if_pos (of_decide_eq_true e)) rfl)
 ·refine ⟨rfl,main _ ?_⟩
  exact a5 hdf (a5 (if_neg (of_decide_eq_false e)) rfl)
end
end
section
noncomputable def Ris (xs:Array Nat):Prop:=xs.toList.Pairwise (·<·)
theorem Ris.lt {xs:Array Nat} (h:Ris xs) {i j a b:Nat} (hij:i<j) (ha:xs[i]?=some a) (hb:xs[j]?=some b):a<b:=by
 rw [← kq7] at ha hb
 (refine oE (kk3.mp ha) ?_;rintro h1 rfl)
 (refine oE (kk3.mp hb) ?_;rintro h2 rfl)
 exact lq9.mp h i j h1 h2 hij
theorem mid2 {l r:Nat} (h:l<r):l≤(l+r) / 2∧(l+r) / 2<r:=by lia
theorem hx8 {xs:Array Nat} {j:Nat} (h:Ris xs):∀ (f lo hi:Nat),lo≤hi→hi≤xs.size→hi - lo≤f→(∀ i a,i<lo→xs[i]?=some a→a<j)→(∀ i a,hi≤i→xs[i]?=some a→j≤a) →
  SetTable.below.go xs j f lo hi≤xs.size∧(∀ i a,i<SetTable.below.go xs j f lo hi→xs[i]?=some a→a<j)∧(∀ i a,SetTable.below.go xs j f lo hi≤i→xs[i]?=some a→j≤a):=by
 intro f
 induction f with
 | zero =>
  intro lo hi h1 h2 h3 h4 h5
  have e:lo=hi:=by exact kq1 (h1) (i5 [_,_,_] 1 zA (.num 0) 1 zB (.add zA zC) zB zC tT h3 sA)
  subst e
  exact ⟨h2,h4,h5⟩
 | succ f ih =>
  intro lo hi h1 h2 h3 h4 h5
  refine (?_:(if lo<hi then _ else lo)≤_∧(∀ i a,i<(if lo<hi then _ else lo)→_)∧∀ i a,(if lo<hi then _ else lo)≤i→_)
  by_cases c:lo<hi
  ·refine a5 (if_pos c) ?_
   have hm:=(mid2 c).2
   have hs:(lo+hi) / 2<xs.size:=by exact i5 [_,_,_] 1 (.add zA nA) zB 1 zB zC (.add zA nA) zC tT hm h2
   have e:xs[(lo+hi) / 2]?=some (xs.getD ((lo+hi) / 2) j):=by simp [Array.getD,hs]
   by_cases d:xs.getD ((lo+hi) / 2) j<j
   ·refine a5 (if_pos d) ?_
    refine ih _ _ (by exact hm) h2 (lz2 (kw8 (lw9 c (nq7 (mid2 c).1)) h3)) (fun i a hi' ha=>?_) h5
    refine Qa (lq7 i ((lo+hi) / 2)) (fun k=>?_) fun k=>?_
    ·exact lj2 (h.lt k ha e) d
    ·rw [show i=(lo+hi) / 2 by exact kq1 (d6 [_,_] 1 (.add zA nA) (.add zB nA) zA zB tT hi') (k),e] at ha
     (injection ha with i;subst i);exact d
   ·refine a5 (if_neg d) ?_
    refine ih _ _ (mid2 c).1 (by exact d6 [_,_] 1 (.add zA nA) zB zA zB tT hs) (lz2 (kw8 (mv2 (mid2 c).1 hm) h3)) h4 fun i a hi' ha=>?_
    refine Qa (lq7 ((lo+hi) / 2) i) (fun k=>?_) fun k=>?_
    ·exact lq8 (kj8 (nz1 d) (h.lt k e ha))
    ·rw [show i=(lo+hi) / 2 by exact kq1 (k) (hi'),e] at ha
     (injection ha with i;subst i);exact nz1 d
  ·refine a5 (if_neg c) ?_
   have e:lo=hi:=by exact kq1 (h1) ((kx8 c))
   subst e
   exact ⟨h2,h4,h5⟩
theorem bx7 {xs:Array Nat} {j:Nat} (h:Ris xs):SetTable.below xs j≤xs.size∧(∀ i a,i<SetTable.below xs j→xs[i]?=some a→a<j)∧(∀ i a,SetTable.below xs j≤i→xs[i]?=some a→j≤a) :=
 hx8 h _ _ _ (kx0 _) (jw4 _) (jw4 _) (fun u_ u_ h=>absurd h (lz8 _)) fun i a h1 h2=>by rw [kw2 h1] at h2;exact nn h2
theorem dv4 {xs:Array Nat} (h:Ris xs) {i j:Nat} (e:xs[i]?=some j):SetTable.below xs (j+1)=i+1:=by
 refine J7 (bx7 (j:=j+1) h) fun h1 h2 h3=>?_
 have hi:i<xs.size:=by
  refine Qa (lq7 i xs.size) (fun k=>?_) fun k=>?_
  ·exact k
  ·rw [kw2 k] at e;exact nn e
 rcases Nat.lt_trichotomy (SetTable.below xs (j+1)) (i+1) with k | k | k
 ·have:=h3 i j (by exact d6 [_,_] 1 (.add zA nA) (.add zB nA) zA zB tT k) e;lia
 ·exact k
 ·have hs:i+1<xs.size:=by exact i5 [_,_,_] 1 (.add (.add zA nA) nA) zB 1 zB zC (.add (.add zA nA) nA) zC tT k h1
  have:=h2 (i+1) _ k (kx4 hs)
  have:=h.lt (kv5 i) e (kx4 hs)
  lia
theorem dv3 {xs:Array Nat} (h:Ris xs):SetTable.below xs 0=0:=by
 refine J7 (bx7 (j:=0) h) fun h1 h2 h3=>?_
 refine Qa (Nat.eq_zero_or_pos (SetTable.below xs 0)) (fun k=>?_) fun k=>?_
 ·exact k
 ·exact absurd (h2 0 _ k (kx4 (by exact i5 [_,_] 1 (.add (.num 0) nA) zA 1 zA zB (.add (.num 0) nA) zB tT k h1))) (lz8 _)
theorem dj4 {xs:Array Nat} {j:Nat} (h:Ris xs) (n:xs[SetTable.below xs j]?≠some j):Ris (SetTable.insertAt xs (SetTable.below xs j) j):=by
 refine J7 (bx7 (j:=j) h) fun h1 h2 h3=>?_
 generalize SetTable.below xs j=p at *
 delta Ris SetTable.insertAt
 have e:((xs.extract 0 p).push j++xs.extract p xs.size).toList=xs.toList.take p++j::xs.toList.drop p:=by
  simp
  exact kw3 (by simp)
 refine a5 e ?_
 have lo:∀ a∈xs.toList.take p,a<j:=fun a ha=>by
  obtain ⟨i,hi,rfl⟩:=lx0 ha
  have:=nx2 (i:=p) (l:=xs.toList)
  refine a5 List.getElem_take ?_
  exact h2 i _ (by lia) (by refine p8 (kq7) ?_;exact jw0 _)
 have hi:∀ a∈xs.toList.drop p,j<a:=fun a ha=>by
  obtain ⟨i,hi,e⟩:=lx0 ha
  rw [List.getElem_drop] at e
  have e2:xs[p+i]?=some a:=by refine p8 (kq7) (p8 e ?_);exact jw0 _
  have:=h3 _ _ (kz8 p i) e2
  refine Qa (Nat.lt_or_eq_of_le this) (fun k=>?_) fun k=>?_
  ·exact k
  ·subst k
   induction i using Nat.casesOn with
   | zero=>exact absurd e2 n
   | succ i =>
    have hs:p<xs.size:=by
     refine Qa (lq7 p xs.size) (fun k=>?_) fun k=>?_
     ·exact k
     ·rw [kw2 (by exact d6 [_,_,_] 1 zA zB zA (.add zB (.add zC nA)) tT k)] at e2;exact nn e2
    have a1:=h3 p _ (jw4 _) (kx4 hs)
    have a2:=h.lt (show p<p+(i+1) by exact ln0 [_,_] (.add zA nA) (.add zA (.add zB nA)) tT) (kx4 hs) e2
    exact i5 [_,_] 1 (.add zA nA) zB 1 zB zA (.add zB nA) zB tT a2 a1
 refine List.pairwise_append.mpr ⟨h.sublist (List.take_sublist ..),kv4.mpr ⟨hi,h.sublist (List.drop_sublist ..)⟩,fun a ha b hb=>?_⟩
 rcases jv6.mp hb with rfl | hb
 ·exact lo a ha
 ·exact lj2 (lo a ha) (hi b hb)
noncomputable def bv3 (t:SetTable):Prop:=t.plain=true→Ris t.place∧t.dummies=#[]
theorem gq6 {t:SetTable} {g:Nat→Int} {h:Int} (hd:t.dummies=#[]):∀ (f:Nat) (p:SetTable.Probe) (j:Nat) (d:Option Nat),p.dummy=none→SetTable.probe.go t g h f p=some (.empty j d)→d=none∧t.slot j=.empty:=by
 intro f
 induction f with
 | zero=>intro p j d _ e;exact nn e
 | succ f ih =>
  intro p j d hp e
  have adv:(t.advance p).dummy=none:=by dsimp only [SetTable.advance];split <;> exact hp
  dsimp only [SetTable.probe.go] at e
  cases es:t.slot p.j with
  | empty=>rw [es] at e;cases e;exact ⟨hp,es⟩
  | dummy =>
   exfalso
   unfold SetTable.slot at es
   dsimp only at es
   split at es
   ·cases es
   ·replace es:=hd▸es
    rw [if_neg (by exact Bool.noConfusion)] at es
    cases es
  | live i =>
   rw [es] at e
   dsimp only at e
   split at e
   ·cases e
   ·exact ih _ _ _ adv e
set_option tactic.hygienic true in
theorem jx9 {t:SetTable} {es:Array (Int × Value)} {h:Int} {x:Value} (T:bv3 t):bv3 (layNew t es h x).2.1∧(layNew t es h x).2.1.led=t.led:=by
 dsimp only [layNew]
 cases e:t.freeSlot h with
 | none=>exact ⟨nofun,rfl⟩
 | some p =>
  obtain ⟨slot,was⟩:=p
  dsimp only
  dsimp only [SetTable.orStandIn]
  split
  ·refine ⟨fun hp=>?_,rfl⟩
   refine oA (T hp) fun r d=>?_
   have hs:t.slot slot=.empty:=by
    dsimp only [SetTable.freeSlot] at e
    split at e
    ·rename_i j dm hpr
     obtain ⟨rfl,k⟩:=gq6 d _ _ _ _ rfl hpr
     cases e
     exact k
    ·exact nn e
   have hn:¬t.place[SetTable.below t.place slot]?=some slot:=fun k=>by
    unfold SetTable.slot at hs
    dsimp only at hs
    rw [k,if_pos (by exact if_pos rfl)] at hs
    cases hs
   refine ⟨dj4 r hn,?_⟩
   refine (?_:(if SetTable.has t.dummies slot=true then _ else t.dummies)=_)
   exact a5 d (a5 (if_neg (by exact Bool.noConfusion)) rfl)
  ·exact ⟨nofun,rfl⟩
theorem gq0 {t:SetTable} {es:Array (Int × Value)} {n:Nat}:bv3 (relayAll t es n).2.1∧(relayAll t es n).2.1.led=t.led:=by
 dsimp only [relayAll]
 cases e:t.relaid (es.map (·.1)) n with
 | none=>exact ⟨nofun,rfl⟩
 | some p =>
  obtain ⟨t',order⟩:=p
  dsimp only
  split
  ·skip
   obtain ⟨owner,_,e⟩:=lk4.mp e
   cases e
   refine ⟨fun u_=>⟨?_,rfl⟩,rfl⟩
   unfold Ris
   dsimp only
   refine a5 lj4 ?_
   refine List.Pairwise.sublist (l₂:=Qg (SetTable.sizeAbove n - 1+1)) ?_ mk3
   have main:∀ l:List Nat,(l.filterMap fun j=>((owner.getD j none).map fun x=>(j,x)).map (·.1)).Sublist l:=by
    intro l
    induction l with
    | nil=>exact .slnil
    | cons a l ih =>
     refine a5 kq5 ?_
     cases owner.getD a none with
     | none=>exact .cons _ ih
     | some b=>exact .cons_cons _ ih
   exact main _
  ·exact ⟨nofun,rfl⟩
end
section
noncomputable def elV (e:Int × Value):Int:=match e.2 with
 | .int k _=>k
 | _=>0
noncomputable def ledW (w:World):Bool:=!w.params.followText "set-order"
section
variable {pG:Program} {w:World}
noncomputable def IntEl (pG:Program) (w:World) (e:Int × Value):Prop:=e.1=(intKind pG w).hash (elV e)∧∃ t,e.2=.int (elV e) t
structure SetO (pG:Program) (w:World) (o:Obj) (es:Array (Int × Value)) (ep:Nat) (t:SetTable) (l:List Int):Prop where
 ex:o.ExactSet
 data:o.data=.set es ep t
 el:∀ e∈es.toList,IntEl pG w e
 nd:l.Nodup
 vals:es.toList.map elV=l
 small:es.size<scanBound
 fits:t.fits es.size=true
 led:t.led=ledW w
 tab:bv3 t
noncomputable def SetI (pG:Program) (w:World) (h:Heap) (a:Addr) (l:List Int):Prop:=∃ o es ep t,h.get? a=some o∧SetO pG w o es ep t l
theorem SetI.keeps {h h':Heap} {a:Addr} {l:List Int} (x:SetI pG w h a l) (k:∀ o,h.get? a=some o→h'.get? a=some o):SetI pG w h' a l:=oE x fun o x=>oE x fun es x=>oE x fun ep x=>oE x fun t x=>⟨o,es,ep,t,k o x.1,x.2⟩
theorem IntEl.is {e:Int × Value} (h:IntEl pG w e):(intKind pG w).is (elV e) e.2=true:=by
 obtain ⟨_,t,e2⟩:=h
 refine a5 e2 ?_
 exact intKind_is ..
theorem jj7 {l:List (Int × Value)} (h:∀ e∈l,IntEl pG w e):ElemsOf (intKind pG w) l:=fun e he =>
 ⟨⟨elV e,(h e he).is,(h e he).1⟩,by obtain ⟨_,t,e2⟩:=h e he;refine a5 e2 ?_;rfl⟩
variable {A:Around} {E:Value→Shared→Prop} {s:Shared}
theorem av6 {h:Heap} {a:Addr} {o:Obj} {es es':Array (Int × Value)} {ep:Nat} {t t':SetTable} {l l':List Int} (ho:h.get? a=some o) (S:SetO pG w o es ep t l) (el:∀ e∈es'.toList,IntEl pG w e) (nd:l'.Nodup) (vals:es'.toList.map elV=l')
  (small:es'.size<scanBound) (fits:t'.fits es'.size=true) (led:t'.led=t.led) (tab:bv3 t') :
  (h.update a (Obj.putSet es' t')).get? a=some { o with data:=.set es' (ep+1) t' }∧SetO pG w { o with data:=.set es' (ep+1) t' } es' (ep+1) t' l':=by
 have hg:=Qj (Obj.putSet es' t') ho (by refine a5 (putSet_of es' t' S.data) ?_;rfl)
 rw [putSet_of es' t' S.data] at hg
 exact ⟨hg,S.ex,rfl,el,nd,vals,small,fits,led.trans S.led,tab⟩
theorem fw2 {g:Bool→Sem Unit} (hg:∀ (b:Bool) (s₁:Shared) (Q':Unit→Shared→Prop),Q' () s₁→wpAny (model pG w) A (g b) Q' E s₁)
  {a:Addr} {o:Obj} {es:Array (Int × Value)} {ep:Nat} {t:SetTable} {l:List Int} (ho:s.heap.get? a=some o) (S:SetO pG w o es ep t l)
  {es1:Array (Int × Value)} {t2:SetTable} {l1:List Int} (el:∀ e∈es1.toList,IntEl pG w e) (nd:l1.Nodup) (vals:es1.toList.map elV=l1)
  (small:es1.size<scanBound) (fits:t2.fits es1.size=true) (led:t2.led=t.led) (tab:bv3 t2) {wasDummy:Bool} {R:Option Bool→Shared→Prop}
  (h:∀ h' l',Heap.SameBut a s.heap h'→SetI pG w h' a l'→l'.Perm l1→R (some true) { s with heap:=h' }) :
  wpAny (model pG w) A (do
    storeSet a es1 t2
    if (!wasDummy&&t2.tooFull)=true then do
      g (relayAll t2 es1 (SetTable.grown es1.size)).2.2
      storeSet a (relayAll t2 es1 (SetTable.grown es1.size)).1 (relayAll t2 es1 (SetTable.grown es1.size)).2.1
      pure (some true)
     else pure (some true)) R E s:=by
 refine oA (av6 ho S el nd vals small fits led tab) fun ho1 S1=>?_
 have hsb:=Heap.SameBut.update s.heap a (Obj.putSet es1 t2)
 refine jk9 (wpAny_storeSet_of ho S.data ?_ (fits_of_scanBound small))
 split
 ·have hp:=relayAll_perm t2 es1 (SetTable.grown es1.size)
  have hf:=relayAll_fits t2 es1 (SetTable.grown es1.size)
  have ht:=gq0 (t:=t2) (es:=es1) (n:=SetTable.grown es1.size)
  generalize relayAll t2 es1 (SetTable.grown es1.size)=r at hp hf ht ⊢
  obtain ⟨es2,t3,b⟩:=r
  dsimp only at hp hf ht ⊢
  have hv:=hp.map elV
  rw [vals] at hv
  have hz:es2.size<scanBound:=by
   have:=hp.length_eq
   simp only [jw2] at this
   exact i5 [_,_] 1 zA zB 1 (.add zB nA) (.num 4096) (.add zA nA) (.num 4096) tT (o7 this) small
  refine oA (av6 ho1 S1 (fun e he=>el e (hp.mem_iff.mp he)) (hv.nodup_iff.mpr nd) rfl hz hf ht.2 ht.1) fun ho2 S2=>?_
  refine jk9 (hg _ _ _ (jk9 (wpAny_storeSet_of ho1 rfl (jv5 ?_) (fits_of_scanBound hz))))
  exact h _ _ (hsb.trans (Heap.SameBut.update _ a _)) ⟨_,_,_,_,ho2,S2⟩ hv
 ·exact jv5 (h _ _ hsb ⟨_,_,_,_,ho1,S1⟩ (.refl _))
theorem hv3 {a:Addr} {l:List Int} {k:Int} {tk:Tok} {Q:Bool→Shared→Prop} (hS:SetI pG w s.heap a l) (room:l.length+1<scanBound)
  (h:∀ b h' l',Heap.SameBut a s.heap h'→SetI pG w h' a l'→(∀ z,z∈l' ↔ z∈l∨z=k)→l'.length≤l.length+1→Q b { s with heap:=h' }) :
  wpAny (model pG w) A (setAddHashed a (.int k tk) ((intKind pG w).hash k)) Q E s:=by
 refine k8 hS fun o es ep t y=>oA y fun ho S=>?_
 have hel:=jj7 S.el
 have hkey:(intKind pG w).is k (.int k tk)=true:=intKind_is ..
 have hlen:es.size=l.length:=by exact p8 (S.vals ..) (a5 (jv1 ..) (a5 (jw2 ..) rfl))
 unfold setAddHashed setAddHashedIn
 refine kx6 (jk9 (lq5 ho S.data S.fits ?_))
 dsimp only
 rw [byScan_of (knd:=intKind pG w) rfl S.small hel]
 simp only [↓reduceIte]
 unfold setAddByScan
 refine jk9 (jk9 (mx6 (jk9 (wpAny_setScan_of hkey ho S.data S.fits hel ?_))))
 cases hr:List.findIdx? (fun e=>(intKind pG w).is k e.2) es.toList with
 | some j =>
  dsimp only
  obtain ⟨hj,hpj,_⟩:=mq7.mp hr
  have hm:=kw6 hj
  have ek:k=elV es.toList[j]:=(intKind pG w).inj _ _ _ hpj (S.el _ hm).is
  have hk:k∈l:=by rw [← S.vals,ek];exact jw3 hm
  have:=h false s.heap l (Heap.SameBut.refl a s.heap) ⟨o,es,ep,t,ho,S⟩ (fun z=>⟨.inl,fun e=>e.elim id fun e=>e▸hk⟩) (lz6 _)
  exact jv5 (jv5 this)
 | none =>
  dsimp only
  have hk:k∉l:=fun m=>by
   rw [← S.vals] at m
   obtain ⟨e,he,e2⟩:=jv9.mp m
   have:=mj6.mp hr e he
   rw [← e2,(S.el e he).is] at this
   cases this
  have hp:=layNew_perm t es ((intKind pG w).hash k) (.int k tk)
  have hf:=layNew_fits t es ((intKind pG w).hash k) (.int k tk)
  have ht:=jx9 (es:=es) (h:=(intKind pG w).hash k) (x:=.int k tk) S.tab
  generalize layNew t es ((intKind pG w).hash k) (.int k tk)=L at hp hf ht ⊢
  obtain ⟨es1,t1,was,gave⟩:=L
  dsimp only at hp hf ht ⊢
  rw [lk1] at hp
  have hv:=hp.map elV
  rw [kq0,S.vals] at hv
  have hv:(es1.toList.map elV).Perm (l++[k]):=hv
  have nd:(es1.toList.map elV).Nodup:=hv.nodup_iff.mpr (kq9.mpr ⟨S.nd,by simp,fun x hx y hy e=>hk (by rw [jv4.mp hy] at e;exact e▸hx)⟩)
  have el1:∀ e∈es1.toList,IntEl pG w e:=fun e he=>by
   rcases jw1.mp (hp.mem_iff.mp he) with m | m
   ·exact S.el e m
   ·rw [jv4.mp m];exact ⟨rfl,tk,rfl⟩
  have hz:es1.size=l.length+1:=by
   have:=hp.length_eq
   rw [jw8,jw2,jw2,hlen] at this
   exact this
  have fin:∀ h' l',Heap.SameBut a s.heap h'→SetI pG w h' a l'→l'.Perm (es1.toList.map elV)→Q true { s with heap:=h' }:=fun h' l' sb si pp =>
   h true h' l' sb si (fun z=>by rw [pp.mem_iff,hv.mem_iff,jw1,jv4]) (by rw [pp.length_eq,hv.length_eq,jw8];exact jw4 _)
  have hgw:∀ (b:Bool) {s₁:Shared} {Q':Unit→Shared→Prop},Q' () s₁→wpAny (model pG w) A (match b with | true=>rule "set.scan.the-table-gave-way" | false=>pure ()) Q' E s₁ :=
   fun b s₁ Q' hq=>by cases b <;> first | exact jv5 hq | exact mx6 hq
  refine jk9 (hgw _ ?_)
  have tail:=fun {R:Option Bool→Shared→Prop} (k:∀ h' l',Heap.SameBut a s.heap h'→SetI pG w h' a l'→l'.Perm (es1.toList.map elV)→R (some true) { s with heap:=h' }) =>
   fw2 (A:=A) (E:=E) (g:=fun b=>match b with | true=>rule "set.scan.the-table-gave-way" | false=>pure ()) (wasDummy:=was) (R:=R) (fun b s₁ Q' hq=>hgw b hq) ho S el1 nd rfl (by lia) hf ht.2 ht.1 k
  split
  ·refine jk9 ?_
   rw [hashByValue_scannable 8 (x:=.int k tk) rfl]
   exact jv5 (tail fun h' l' sb si pp=>jv5 (fin h' l' sb si pp))
  ·exact jk9 (jv5 (tail fun h' l' sb si pp=>jv5 (fin h' l' sb si pp)))
end
end
section
section
variable {pG:Program} {w:World} {A:Around} {E:Value→Shared→Prop} {s:Shared}
noncomputable def bw6 (w:World):Obj:={ cls:=.type "set",dict:=none,data:=.set #[] 0 (.fresh 0 0 (ledW w)) }
theorem jq2:SetO pG w (bw6 w) #[] 0 (.fresh 0 0 (ledW w)) []:=⟨⟨rfl,rfl,rfl⟩,rfl,(fun _ h=>absurd h kq8),.nil,rfl,by exact (jv2 tT),rfl,rfl,fun u_=>⟨.nil,rfl⟩⟩
theorem cx6 (a:Value) {Q₁:Value→Shared→Prop} (h:Q₁ (.ref s.heap.objs.size) { s with heap:=s.heap.push (bw6 w) }) :
  codeAny (model pG w) A (.call (.builtin "set.__new__") ⟨[.type "set",a],[]⟩) (wants Q₁ E) s:=by
 refine kk0 ?_
 refine (?_:wpAny _ A.in1 (do checkBuiltinCall "set.__new__" ⟨[.type "set",a],[]⟩;again (.builtin "set.__new__" ⟨[.type "set",a],[]⟩)) _ _ s)
 refine jk9 (mq3 (PySem.F.newCall_set_1 a) (jv5 ⟨plainId_quiet PySem.F.plain_set_new _,kw4 PySem.F.entry_set_new ?_⟩))
 refine a5 (Around.under_plainId PySem.F.plain_set_new _) ?_
 delta Builtin.«set.__new__» Builtin.Frozenset.newClass
 have hsub:=sub_set_self
 obtain ⟨hp,g,d,tk,os⟩:=s
 dsimp only
 wp_walk
 refine lq2 (jv5 ?_)
 dsimp only
 simp only [newObj]
 refine jk9 (nx8 (jv5 ?_))
 exact jv5 h
variable {I:Addr} {fp wr:List Addr} {G:Array GenState→Array GenState→Prop} {n:Nat} {P:Nat→Value→Prop} {St:Nat→Shared→Prop}
theorem fw3 (W:WalksS pG w A.in1 I fp wr G n P St) (S:Addr) (hSf:S∉fp) (val:Nat→Int) (hval:∀ i v,P i v→∃ t,v=.int (val i) t) (hb:n+1<scanBound) {R:Result→Shared→Prop} :
  ∀ (k i:Nat) (s:Shared) (l:List Int),n - i=k→i≤n→St i s→SetI pG w s.heap S l→(∀ z,z∈l ↔ ∃ j,j<i∧val j=z)→l.length≤i →
   (∀ s' l',Moved (S::wr) G s s'→SetI pG w s'.heap S l'→(∀ z,z∈l' ↔ ∃ j,j<n∧val j=z)→l'.length≤n→R (.ok (.ret .none)) s') →
   codeAny (model pG w) A (.builtin "set.update.loop" ⟨[.ref S,.ref I],[]⟩) R s:=by
 have hSw:S∉wr:=fun h=>hSf (W.sub _ h)
 have hsub:∀ b∈wr,b∈S::wr:=fun b hb=>jv3 _ hb
 intro k
 induction k with
 | zero =>
  intro i s l hk hi hst hS hm hl hR
  have hin:i=n:=by exact kq1 (hi) (i5 [_,_,_] 1 zA (.num 0) 1 zB (.add zA zC) zB zC tT (o7 hk) sA)
  (replace hin:=hin.symm;subst hin)
  refine kw4 PyProof.Rows.F.entry_set_update_loop ?_
  refine a5 (Around.under_plainId PyProof.Rows.F.plain_set_update_loop _) ?_
  refine jk9 (W.done s _ _ hst fun s' mv=>?_)
  exact jv5 (hR s' l (mv.mono hsub) (hS.keeps fun o e=>mv.heap S _ hSw e) hm hl)
 | succ k ih =>
  intro i s l hk hi hst hS hm hl hR
  have hlt:i<n:=by exact i5 [_,_,_,_] 1 (.add zA nA) zB 1 (.add zB zC) zD (.add zC nA) zD tT (H6 hk) (sC (hi))
  refine kw4 PyProof.Rows.F.entry_set_update_loop ?_
  refine a5 (Around.under_plainId PyProof.Rows.F.plain_set_update_loop _) ?_
  refine jk9 (W.item i s _ _ hlt hst fun v s' hP hst' mv=>?_)
  (refine oE (hval i v hP) ?_;rintro t rfl)
  have hS':SetI pG w s'.heap S l:=hS.keeps fun o e=>mv.heap S _ hSw e
  refine (?_:wpAny _ A.in1 (holding [Value.int (val i) t] (setAdd S (.int (val i) t)) >>= _) _ _ s')
  refine jk9 (kx6 ?_)
  unfold setAdd
  refine kx6 (jk9 ((intKind pG w).pyHash (k:=val i) (intKind_is _ _ _ _) ?_))
  refine hv3 (s:={ s' with toks:=s'.toks+1 }) hS' (by exact T5 [_,_,_] 1 (.add zA nA) zB 1 zC zA 1 (.add (.add zB nA) nA) (.num 4096) (.add (.add zC nA) nA) (.num 4096) tT hlt hl hb) fun b h' l' sb si mm ll=>?_
  refine jv5 ⟨plainId_quiet PyProof.Rows.F.plain_set_update_loop _,ih (i+1) _ l' (by exact kq1 (T5 [_,_,_,_,_] 1 zA (.add zB nA) 1 (.add zC (.add zD nA)) (.var 4) 1 (.var 4) (.add zA zD) zC zB tT (o7 hk) (sC (hlt)) sA) (T5 [_,_,_,_,_] 1 (.add zA nA) zB 1 zC (.add zD (.add (.var 4) nA)) 1 (.add zB (.var 4)) zC zA zD tT (H6 hk) sA (sC (d6 [_,_] 1 (.add zA nA) zB zA zB tT hlt)))) hlt (W.frame _ s' _ _ hst' (lz6 _) fun b hb o e=>?_) si (fun z=>?_) (by exact i5 [_,_,_] 1 zA (.add zB nA) 1 zB zC zA (.add zC nA) tT ll hl) fun s'' l'' m2 si2 mm2 ll2=>?_⟩
  ·refine a5 (sb.2 b (fun h:b=S=>hSf (by refine p8 h ?_;exact hb))) ?_;exact e
  ·rw [mm,hm]
   constructor
   ·rintro (⟨j,h1,h2⟩ | rfl)
    ·exact ⟨j,by exact d6 [_,_] 1 (.add zA nA) zB (.add zA nA) (.add zB nA) tT h1,h2⟩
    ·exact ⟨i,by exact ln0 [_] (.add zA nA) (.add zA nA) tT,rfl⟩
   ·(intro yz;refine c9 yz fun j h1 h2=>?_;clear yz)
    refine Qa (lq7 j i) (fun h=>?_) fun h=>?_
    ·exact .inl ⟨j,h,h2⟩
    ·rw [show j=i by exact kq1 (d6 [_,_] 1 (.add zA nA) (.add zB nA) zA zB tT h1) (h)] at h2;exact .inr h2.symm
  ·refine hR s'' l'' (Moved.trans W.gtrans ((mv.mono hsub).then_heap (lz6 _) fun b o hb e=>?_) m2) si2 mm2 ll2
   refine a5 (sb.2 b (fun h:b=S=>hb (by refine a5 h ?_;exact jv0))) ?_;exact e
end
end
section
section
variable {pG:Program} {w:World} {A:Around} {E:Value→Shared→Prop} {s:Shared}
theorem fw5 {S l:Addr} {items:Array Value} {ns:List Int} (hh:A.handled=none) (hl:s.heap.IsList l items) (hi:PyProof.Rows.IntsAre items.toList ns) (hb:items.size+1<scanBound) (hS:s.heap.get? S=some (bw6 w)) (hne:S≠l)
  {R:Result→Shared→Prop} (h:∀ h' tk l',(∀ b o,b≠S→s.heap.get? b=some o→h'.get? b=some o)→SetI pG w h' S l'→(∀ z,z∈l' ↔ z∈ns)→l'.length≤ns.length→R (.ok (.ret .none)) { s with heap:=h',toks:=tk }) :
  wpAny (model pG w) A.in1 (Builtin.«set.__init__» ⟨[.ref S,.ref l],[]⟩)
   (fun fin s'=>match fin with | .done f=>R (.ok f) s' | .again c'=>c'.quiet=true∧codeAny (model pG w) A c' R s') (fun e s'=>R (.error e) s') s:=by
 obtain ⟨ol,hol,hcl,nl,hdl⟩:=hl
 obtain ⟨ocls,odict,odata,oslots⟩:=ol
 simp only at hcl hdl
 subst hcl;subst hdl
 have hT:s.TypeIs (.ref S) "set":=⟨_,hS,rfl⟩
 have hS:=hS
 unfold bw6 at hS
 have hsls:=PySem.F.sub_list_set
 have hslf:=PySem.F.sub_list_frozenset
 have hne2:(Value.type "list" == Value.type "dict")=false:=by rfl
 have hl1:s.heap.IsList l items:=⟨_,hol,rfl,nl,rfl⟩
 delta Builtin.«set.__init__» noKeywords Builtin.Frozenset.updateFrom
 generalize hPI:pyIter=PI
 wp_walk
 subst hPI
 refine mz4 hl1 (jk9 (wpAny_runValue ?_))
 have hlS:=Qi hol
 have hSl:=Qi hS
 have hSf:S∉[s.heap.objs.size,l]:=by
  simp only [jv6,kq8,or_false,not_or]
  exact ⟨kz1 hSl,hne⟩
 have hn:items.size=ns.length:=by refine p8 jw2 ?_;exact PyProof.Rows.IntsAre.length hi
 refine fw3 (A:=A.in1) (Walks.list (A:=A.in1.in1) (by trivial) _ l (kz1 hlS) items).toS S hSf (fun i=>ns.getD i 0) (fun i v hv=>PyProof.Rows.IntsAre.int_at hi i v (by refine a5 (kq7) ?_;exact hv)) hb items.size 0 _ [] (by exact kq1 ((kj7 _ _)) (d6 [_,_] 1 zA (.add zB (.num 0)) zA zB tT sA)) (kx0 _)
  ⟨⟨_,Qc _ rfl,rfl,rfl⟩,hl1.push _⟩ ⟨_,_,_,_,Qb _ hS,jq2⟩ (fun z=>⟨nofun,fun ⟨j,h,_⟩=>absurd h (lz8 _)⟩) (jw4 _) fun s' l' hm si mm ll=>?_
 refine a5 (Moved.eq_with hm) ?_
 refine jv5 (jv5 (h s'.heap s'.toks l' (fun b o hb e=>hm.heap b o ?_ (Qb _ e)) si (fun z=>?_) (by exact i5 [_,_,_] 1 zA zB 1 zB zC zA zC tT ll (o7 hn))))
 ·simp only [jv6,kq8,or_false,not_or]
  exact ⟨hb,kz1 (Qi e)⟩
 ·rw [mm]
  constructor
  ·(intro yz;refine c9 yz ?_;clear yz;rintro j h1 rfl)
   have hj:j<ns.length:=by exact i5 [_,_,_] 1 (.add zA nA) zB 1 zB zC (.add zA nA) zC tT h1 (o7 hn)
   simp [List.getD,hj]
  ·intro m
   obtain ⟨j,hj,rfl⟩:=lx0 m
   exact ⟨j,by exact i5 [_,_,_] 1 (.add zA nA) zB 1 zB zC (.add zA nA) zC tT hj (H6 hn),by simp [List.getD,hj]⟩
theorem fz1 {l:Addr} {items:Array Value} {ns:List Int} {Q:Value→Shared→Prop} (hh:A.handled=none) (hl:s.heap.IsList l items) (hi:PyProof.Rows.IntsAre items.toList ns) (hb:items.size+1<scanBound)
  (h:∀ h' tk l',Sub s.heap h'→SetI pG w h' s.heap.objs.size l'→(∀ z,z∈l' ↔ z∈ns)→l'.length≤ns.length→Q (.ref s.heap.objs.size) { s with heap:=h',toks:=tk }) :
  wpAny (model pG w) A (call (.type "set") [.ref l]) Q E s:=by
 refine oEE PySem.F.called_set.mro fun c tl hmro=>?_
 have hmade:=PySem.F.called_set.made
 have hsub:=PySem.F.called_set.sub
 refine lx2 (kk0 ?_)
 refine (?_:wpAny _ _ (callAny (.type "set") _) _ _ _)
 refine jv5 ⟨Code.quiet_builtin _ (by decide +kernel),kw4 PySem.F.entry_type_call ?_⟩
 refine a5 (Around.under_plain (weight_type_call_type "set" [.ref l] []) rfl) ?_
 have h1:=PySem.F.called_set.notType
 have h2:=PySem.F.called_set.canCreate
 have hct:=PySem.F.typeCall_set_1 (.ref l)
 repeat (any_goals (first | assumption | wp_step))
 refine mz7 (cx6 (.ref l) (E:=E) (Q₁:=fun obj s₁=>obj=.ref s.heap.objs.size∧s₁={ s with heap:=s.heap.push (bw6 w) }) ⟨rfl,rfl⟩) fun r s₁ hr=>?_
 induction r using Except.casesOn with
 | error e=>exact hr
 | ok fl =>
  induction fl using PySem.Flow.casesOn with
  | ret obj =>
   (refine oA hr ?_;clear hr;rintro rfl rfl)
   have hS:(s.heap.push (bw6 w)).get? s.heap.objs.size=some (bw6 w):=Qc _ rfl
   have hT:Shared.TypeIs { s with heap:=s.heap.push (bw6 w) } (.ref s.heap.objs.size) "set":=⟨_,hS,rfl⟩
   have hli:=PySem.F.called_set.init.lookup
   have hbi:=PySem.F.called_set.init.bind (.ref s.heap.objs.size)
   repeat (any_goals (first | assumption | wp_step))
   have hlt:l<s.heap.objs.size:=let ⟨_,e,_⟩:=hl;Qi e
   refine mz7 (mq5 (R:=wants (fun r s₂=>r=.none∧∃ h' tk l',s₂={ s with heap:=h',toks:=tk }∧Sub s.heap h'∧SetI pG w h' s.heap.objs.size l'∧(∀ z,z∈l' ↔ z∈ns)∧l'.length≤ns.length) E) PySem.F.called_set.init.plain PySem.F.entry_set_init (check_set_init_1 hT ?_)) fun r₂ s₂ hr₂=>?_
   ·refine fw5 (s:={ s with heap:=s.heap.push (bw6 w) }) (by simp [hh]) (hl.push _) hi hb hS (kj2 hlt) fun h' tk l' k si mm ll=>?_
    exact ⟨rfl,h',tk,l',rfl,fun b o e=>k b o (kz1 (Qi e)) (Qb _ e),si,mm,ll⟩
   ·cases r₂ with
    | error e=>exact hr₂
    | ok fl₂ =>
     cases fl₂ with
     | ret r =>
      obtain ⟨rfl,h',tk,l',rfl,k,si,mm,ll⟩:=hr₂
      repeat (any_goals (first | assumption | wp_step))
      exact h _ _ _ k si mm ll
     | _=>exact hr₂.elim
  | _=>exact hr.elim
end
end
section
theorem az4:Manifest.owners.lookup (String.ofList ['r','o','t','a','r','e','t','i','_','t','e','s'].reverse)=some Manifest.sig_set_iterator:=by kernel_rfl
theorem w9:Slot "set_iterator" "__next__" "set_iterator.__next__" :=
 .of (owner:="set_iterator") (n:="__next__") (by refine a5 (typeLookup_type ..) (a5 (builtinLookup_eq_fast ..) ?_);kernel_rfl) (by rfl) (by rfl) (by rfl)
  (by first | exact .inl (by rfl) | exact .inr (by decide +kernel)) (by refine a5 (isSubtype_type ..) ?_;kernel_rfl)
theorem ax3:entryFor table "set_iterator.__next__"=some Builtin.«set_iterator.__next__»:=entryFor_of_tree (by kernel_rfl)
theorem aj3 (a:Value):argsOk "set_iterator.__next__" ⟨[a],[]⟩:=by
 unfold argsOk;refine a5 (signature?_of (id:="set_iterator.__next__") (n:=['_','_','t','x','e','n','_','_']) (o:=['r','o','t','a','r','e','t','i','_','t','e','s']) (by kernel_rfl) az4) ?_;kernel_rfl
theorem bx0:entryFor table "set.__iter__"=some Builtin.«frozenset.__iter__» :=
 entryFor_alias (id':="frozenset.__iter__") (by kernel_rfl) rfl (by decide +kernel) (by kernel_rfl)
section
variable {pG:Program} {w:World} {A:Around} {E:Value→Shared→Prop} {s:Shared} {I S:Addr} {i:Nat} {o oI:Obj} {es:Array (Int × Value)} {ep:Nat} {t:SetTable} {l:List Int} {first:Value}
noncomputable def IsSetIt (h:Heap) (I S:Addr) (first:Value) (i n ep:Nat):Prop:=∃ oI,h.get? I=some oI∧oI.cls=.type "set_iterator"∧oI.data=.fields #[first,.int i 0,.ref S,.int n 0,.int ep 0]
theorem IsSetIt.typeIs {n:Nat} (x:IsSetIt s.heap I S first i n ep):s.TypeIs (.ref I) "set_iterator":=let ⟨o,e,c,_⟩:=x;⟨o,e,c⟩
inductive ItMode (w:World) (h:Heap) (I S:Addr) (es:Array (Int × Value)) (ep:Nat) (t:SetTable) (i:Nat) (xs:List (Int × Value)):Value→Prop
 | text (slot:Int) (tk:Tok) (f:w.params.followText "set-order"=true) (e:xs=(pickOrder (w.params.setOrder S ep) es).toList):ItMode w h I S es ep t i xs (.int slot tk)
 | led (slot:Int) (tk:Tok) (f:w.params.followText "set-order"=false) (d:(!t.plain&&decide (es.size > 1))=false) (r:Ris t.place) (b:SetTable.below t.place slot.toNat=i) (e:xs=es.toList):ItMode w h I S es ep t i xs (.int slot tk)
 | drawn (T:Addr) (oT:Obj) (ps:List Nat) (c:Nat) (ne:T≠I) (hT:h.get? T=some oT) (d:oT.data=.seq (ps.map fun (p:Nat)=>rawInt p).toArray c) (e:xs.length=ps.length) (ae:∀ j p:Nat,ps[j]?=some p→∃ e,es[p]?=some e∧xs[j]?=some e):ItMode w h I S es ep t i xs (.ref T)
theorem Q7 {Q:Bool→Shared→Prop} (h:Q (w.params.followText "set-order") s):wpAny (model pG w) A setsByText Q E s:=by
 unfold setsByText
 exact jk9 (lq2 (jv5 h))
theorem jx8 (SO:SetO pG w o es ep t l) (f:w.params.followText "set-order"=false):t.led=true:=by rw [SO.led,ledW,f];rfl
theorem av4 {n:Nat} {x:Value} {nx:Int} {Q:Fin→Shared→Prop} (eI:s.heap.get? I=some oI) (cI:oI.cls=.type "set_iterator") (dI:oI.data=.fields #[first,.int i 0,.ref S,.int n 0,.int ep 0])
  (h:∀ h',Heap.SameBut I s.heap h'→IsSetIt h' I S (rawInt nx) (i+1) n ep→Q (.done (.ret x)) { s with heap:=h' }) :
  wpAny (model pG w) A (do setField (.ref I) 0 (rawInt nx);setField (.ref I) 1 (rawInt ((i:Int)+1));ret x) Q E s:=by
 refine jk9 (kv1 eI dI (by exact kx3 _) ?_)
 have e1:=Qj (Qn (·.setIfInBounds 0 (rawInt nx))) eI (Obj.isFreed_of_fields (Obj.data_mapFields dI _))
 have d1:=Obj.data_mapFields dI (·.setIfInBounds 0 (rawInt nx))
 refine jk9 (kv1 (s:={ s with heap:=_ }) e1 d1 (by exact (jv2 tT)) ?_)
 have e2:=Qj (Qn (·.setIfInBounds 1 (rawInt ((i:Int)+1)))) e1 (Obj.isFreed_of_fields (Obj.data_mapFields d1 _))
 refine jv5 (h _ ((Heap.SameBut.update ..).trans (Heap.SameBut.update ..)) ⟨_,e2,?_,?_⟩)
 ·exact (Obj.cls_mapFields ..).trans ((Obj.cls_mapFields ..).trans cI)
 ·rw [Obj.data_mapFields d1];rfl
theorem U4 {A':Around} {Q:Option Value→Shared→Prop} {X:Fin→Shared→Prop} (hh:A'.handled=none) {vs:Array Value} (eI:s.heap.get? I=some oI) (dI:oI.data=.fields vs) (h2:2<vs.size) (hn:∀ h',Heap.ExtBut I s.heap h'→Q none { s with heap:=h' }) :
  wpAny (model pG w) A' (do setField (.ref I) 2 .none;raiseNew (← newExc (.type "StopIteration") [])) X (fun e s'=>wpAny (model pG w) A (do if ← isInstance e (.type "StopIteration") then pure none else throw e) Q E s') s:=by
 refine jk9 (kv1 eI dI h2 ?_)
 refine dw4 hh fun a h' k ht=>?_
 refine jk9 (mj4 (T:="StopIteration") (b:=true) ht isSubtype_stop ?_)
 exact jv5 (hn _ fun b o n q=>k b o ((Heap.SameBut.update s.heap I _).extBut b o n q))
theorem av5 {Q:Option Value→Shared→Prop} (hh:A.handled=none) (hI:IsSetIt s.heap I S first i es.size ep) (ho:s.heap.get? S=some o) (SO:SetO pG w o es ep t l)
  {xs:List (Int × Value)} (M:ItMode w s.heap I S es ep t i xs first) (hi:∀ e h',xs[i]?=some e→Heap.SameBut I s.heap h'→(∃ f,IsSetIt h' I S f (i+1) es.size ep∧ItMode w h' I S es ep t (i+1) xs f∧∀ T,f=.ref T→first=.ref T)→Q (some e.2) { s with heap:=h' }) (hn:xs[i]?=none→∀ h',Heap.ExtBut I s.heap h'→Q none { s with heap:=h' }) :
  wpAny (model pG w) A (pyNext (.ref I)) Q E s:=by
 have hT:=hI.typeIs
 refine o9 hI fun oI eI cI dI=>?_
 unfold pyNext
 refine jk9 (mv1 (lv8 (name:=Str.ofString "__next__") hT w9
  (kv6 w9 hT ax3 ?_ (aj3 _))))
 delta Builtin.«set_iterator.__next__» slotArgs
 refine jk9 (jv5 ?_)
 refine jk9 (wpAny_fieldsOf eI dI ?_)
 dsimp only
 refine jk9 (nz6 ho SO.data SO.fits ?_)
 refine a5 (if_neg (by simp)) ?_
 cases M with
 | text slot tk f e =>
  dsimp only
  unfold setNext
  refine jk9 (jk9 (lq5 ho SO.data SO.fits ?_))
  dsimp only
  refine jk9 (Q7 ?_)
  refine a5 f ?_
  simp only [↓reduceIte]
  refine a5 (if_neg (by simp)) ?_
  unfold setWalk
  refine jk9 (jk9 (lq5 ho SO.data SO.fits (jk9 (Q7 ?_))))
  refine a5 f ?_
  simp only [↓reduceIte]
  refine jk9 (lq2 (jv5 (jv5 ?_)))
  dsimp only
  refine a5 (show ((i:Int).toNat)=i by lia) (p8 (kq7) ?_)
  refine (?_:wpAny _ _ (match Option.map (fun e:Int × Value=>(e.2,slot.toNat)) (pickOrder (w.params.setOrder S ep) es).toList[i]? with | some (x,next)=>_ | none=>_) _ _ _)
  refine p8 e ?_
  cases ex:xs[i]? with
  | none=>exact U4 hh eI dI (by exact (jv2 tT)) (hn ex)
  | some x=>exact av4 (A:=A.in1) eI cI dI fun h' sb it=>⟨_,rfl,jv5 (hi x h' ex sb ⟨_,it,.text _ _ f e,nofun⟩)⟩
 | led slot tk f d r b e =>
  dsimp only
  unfold setNext
  refine jk9 (jk9 (lq5 ho SO.data SO.fits ?_))
  dsimp only
  refine jk9 (Q7 ?_)
  refine a5 f ?_
  simp only [kk7,↓reduceIte]
  refine lx9 (fun h=>absurd (show (!t.plain&&decide (es.size > 1))=true from h) (by refine a5 d ?_;exact lx6)) fun u_=>?_
  refine jk9 (m:=_) (lx9 (fun h=>absurd h (by refine a5 (jx8 SO f) ?_;exact lx6)) fun u_=>jv5 (jv5 ?_))
  refine a5 b ?_
  have hsz:t.place.size=es.size:=by
   have:=SO.fits
   simp only [SetTable.fits,kz7,beq_iff_eq] at this
   exact this.1
  have ex':xs[i]?=es[i]?:=by exact a5 e (a5 (kq7) rfl)
  refine Qa (lq7 i es.size) (fun k=>?_) fun k=>?_
  ·have e1:=kx4 k
   have k2:i<t.place.size:=by exact i5 [_,_,_] 1 (.add zA nA) zB 1 zB zC (.add zA nA) zC tT k (H6 hsz)
   have e2:=kx4 k2
   refine a5 e1 (a5 e2 ?_)
   refine av4 (A:=A.in1) eI cI dI fun h' sb it=>⟨_,rfl,jv5 (hi _ h' (ex'.trans e1) sb ⟨_,it,.led _ _ f d r ?_ e,nofun⟩)⟩
   refine a5 (show (((t.place[i]+1:Nat):Int)).toNat=t.place[i]+1 by lia) ?_
   exact dv4 r e2
  ·have e1:es[i]?=none:=kw2 k
   refine a5 e1 ?_
   exact U4 hh eI dI (by exact (jv2 tT)) (hn (ex'.trans e1))
 | drawn T oT ps c ne hT d e ae =>
  dsimp only
  refine jk9 (wpAny_seqItems hT d ?_)
  dsimp only
  refine a5 (show ((i:Int).toNat)=i by lia) ?_
  have eg:((ps.map fun (p:Nat)=>rawInt p).toArray)[i]?=(ps[i]?).map fun (p:Nat)=>rawInt p:=by simp
  refine a5 eg ?_
  cases ep':ps[i]? with
  | none =>
   have e0:xs[i]?=none:=by
    rw [lj9] at ep' ⊢
    exact i5 [_,_,_] 1 zA zB 1 zC zA zC zB tT ep' (o7 e)
   dsimp only [Option.map]
   refine jk9 (kv1 eI dI (by exact kx3 _) ?_)
   have e1:=Qj (Qn (·.setIfInBounds 0 (rawInt 0))) eI (Obj.isFreed_of_fields (Obj.data_mapFields dI _))
   have d1:=Obj.data_mapFields dI (·.setIfInBounds 0 (rawInt 0))
   refine U4 (s:={ s with heap:=s.heap.update I _ }) hh e1 d1 (by exact (jv2 tT)) fun h' x=>hn e0 h' fun b o n q=>x b o n ((Heap.SameBut.update s.heap I _).extBut b o n q)
  | some p =>
   refine c9 (ae i p ep') fun y y1 y2=>?_
   dsimp only [Option.map,rawInt]
   unfold setNextDrawn
   refine jk9 (jk9 (lq5 ho SO.data SO.fits ?_))
   dsimp only
   refine a5 (if_neg (by simp)) (a5 (show ((p:Int).toNat)=p by lia) (a5 y1 ?_))
   refine jv5 ?_
   refine jk9 (kv1 eI dI (by exact (jv2 tT)) ?_)
   have e1:=Qj (Qn (·.setIfInBounds 1 (rawInt ((i:Int)+1)))) eI (Obj.isFreed_of_fields (Obj.data_mapFields dI _))
   have sb:=Heap.SameBut.update s.heap I (Qn (·.setIfInBounds 1 (rawInt ((i:Int)+1))))
   refine jv5 ⟨_,rfl,jv5 (hi y _ y2 sb ⟨.ref T,⟨_,e1,(Obj.cls_mapFields ..).trans cI,by rw [Obj.data_mapFields dI];rfl⟩,.drawn T oT ps c ne (sb.extBut T oT ne hT) d e ae,fun u_ h=>h⟩)⟩
end
end
section
theorem bq9 {α:Type} {l:List α}:∀ {i:Nat} {x:α},l[i]?=some x→(x::l.eraseIdx i).Perm l:=by
 induction l with
 | nil=>intro i x h;exact nn h
 | cons a l ih =>
  intro i x h
  induction i using Nat.casesOn with
  | zero=>(injection h with i;subst i);exact .refl _
  | succ i=>exact (List.Perm.swap ..).trans (.cons a (ih h))
theorem hv7 {α:Type} (next:Nat→Nat):∀ (f k:Nat) (cq8:List α) (out:Array α),cq8.length=f→(pickOrder.go next f k cq8 out).toList.Perm (out.toList++cq8):=by
 intro f
 induction f with
 | zero=>intro k cq8 out h;refine a5 ((kj4.mp h) ..) (a5 (kq4 ..) ?_);exact .refl _
 | succ f ih =>
  intro k cq8 out h
  have hl:next k % cq8.length<cq8.length:=mq6 _ (by exact d6 [_,_] 1 (.add zA nA) zB (.add (.num 0) nA) zB tT (H6 h))
  dsimp only [pickOrder.go]
  have e:=jw0 hl
  refine a5 e ?_
  refine (ih (k+1) _ _ (by refine a5 (mz9 hl) ?_;exact kq1 (i5 [_,_,_] 1 zA (.add zB nA) 1 (.add zC nA) zA zC zB tT (o7 h) (sC (d6 [_,_] 1 (.add zA nA) zB nA zB tT hl))) (i5 [_,_,_] 1 (.add zA nA) zB 1 zB (.add zC nA) zA zC tT (H6 h) sA))).trans ?_
  refine a5 (lk1 ..) (a5 (kk4 ..) ?_)
  exact List.Perm.append_left _ (bq9 e)
theorem ev4 {α:Type} (next:Nat→Nat) (xs:Array α):(pickOrder next xs).toList.Perm xs.toList:=hv7 next _ 0 _ #[] (jw2 ..)
section
variable {pG:Program} {w:World} {A:Around} {E:Value→Shared→Prop} {s:Shared} {I S:Addr} {i:Nat} {o oI:Obj} {es:Array (Int × Value)} {ep:Nat} {t:SetTable} {l:List Int} {first:Value}
theorem fx9 {src:Source} {n:Nat} {Q:Nat→Shared→Prop} (hn:n≠0) (h:∀ k d,k<n→Q k { s with drawn:=d }):wpAny (model pG w) A (choose src n) Q E s :=
 fun Γ p hΓ=>⟨hn,h _ _ (mq6 _ (Nat.pos_of_ne_zero hn))⟩
theorem cx3 {α:Type} (n:Nat):∀ (xs:List α) {s:Shared} {Q:List α→Shared→Prop},xs.length=n→(∀ ys d,ys.Perm xs→Q ys { s with drawn:=d })→wpAny (model pG w) A (drawOrder n xs) Q E s:=by
 induction n with
 | zero =>
  intro xs s Q hl h
  induction xs using Qh with
  | cons _ _=>cases hl
  | nil=>exact jv5 (h [] s.drawn (.refl _))
 | succ n ih =>
  intro xs s Q hl h
  induction xs using Qh with
  | nil=>cases hl
  | cons x xs =>
   refine jk9 (m:=choose .order (x::xs).length) (fx9 (kw7 _) fun k d hk=>?_)
   have e:=jw0 hk
   refine a5 e ?_
   refine jk9 (ih _ (by refine a5 (mz9 hk) (a5 hl ?_);rfl) fun ys d2 p=>jv5 ?_)
   exact h _ d2 ((List.Perm.cons _ p).trans (bq9 e))
theorem fw4 {Q:Value→Shared→Prop} (ho:s.heap.get? S=some o) (SO:SetO pG w o es ep t l)
  (h:∀ h' d I f xs,Sub s.heap h'→s.heap.get? I=none→IsSetIt h' I S f 0 es.size ep→ItMode w h' I S es ep t 0 xs f→xs.Perm es.toList→(∀ T,f=.ref T→s.heap.get? T=none)→Q (.ref I) { s with heap:=h',drawn:=d }):wpAny (model pG w) A (pyIter (.ref S)) Q E s:=by
 have hT:s.TypeIs (.ref S) "set":=⟨o,ho,SO.ex.1⟩
 have hsz:t.place.size=es.size:=by
  have:=SO.fits
  simp only [SetTable.fits,kz7,beq_iff_eq] at this
  exact this.1
 refine mz3 hT PySem.F.slot_set_iter (kv6 PySem.F.slot_set_iter hT bx0 ?_ (PySem.F.args_set_iter_1 _))
 delta Builtin.«frozenset.__iter__» Builtin.Frozenset.slot0 slotArgs
 simp only [List.isEmpty_nil,mq0,kk7,↓reduceIte,List.length_nil,bne_self_eq_false]
 delta Builtin.Frozenset.addrOf Builtin.Frozenset.sizeOf
 refine jk9 (jk9 (jv5 (jv5 ?_)))
 refine jk9 (jk9 (nz6 ho SO.data SO.fits (jv5 ?_)))
 unfold setDrawn
 refine jk9 (jk9 (lq5 ho SO.data SO.fits (jk9 (Q7 (jv5 ?_)))))
 have fin:∀ {f:Value} {h1:Heap} {d:Drawn} {xs:List (Int × Value)},Sub s.heap h1→(∀ h' I,Sub h1 h'→h1.get? I=none→ItMode w h' I S es ep t 0 xs f)→xs.Perm es.toList→(∀ T,f=.ref T→s.heap.get? T=none) →
   wpAny (model pG w) A.in1 (do
    let epoch ← setEpoch S
    let it ← newFields "set_iterator" [f,rawInt 0,.ref S,rawInt es.size,rawInt epoch]
    ret it) (fun fin s'=>∃ v,fin=Fin.done (Flow.ret v)∧∃ T' r,s'.TypeIs v T'∧typeLookup (Value.type T') (Str.ofString "__next__")=pure (some r)∧Q v s') E { s with heap:=h1,drawn:=d }:=by
  intro f h1 d xs k m p nf
  have hn:=Qf (h:=h1) (jw4 _)
  refine jk9 (wpAny_setEpoch_of (k S o ho) SO.data SO.fits ?_)
  unfold newFields
  refine jk9 (kj5 (jv5 ⟨_,rfl,"set_iterator",_,⟨_,Qc _ rfl,rfl⟩,w9.lookup,?_⟩))
  have n0:s.heap.get? h1.objs.size=none:=by
   cases e:s.heap.get? h1.objs.size with
   | none=>rfl
   | some q=>exact absurd (Qi (k _ _ e)) (lk6 _)
  exact h _ d _ f xs (fun b o e=>Qb _ (k b o e)) n0 ⟨_,Qc _ rfl,rfl,rfl⟩ (m _ _ (t7 _ _) hn) p nf
 refine lx9 (fun hd=>?_) fun hd=>?_
 ·refine jk9 (cx3 _ _ (kz9) fun ps d pp=>?_)
  refine jk9 (kj5 ?_ ?_)
  ·have at_:∀ p,p∈ps→es[p]?=some (es.getD p (0,.none)):=fun p m=>by
    have h2:p<es.size:=kx9.mp (pp.mem_iff.mp m)
    simp [Array.getD,h2]
   refine fin (xs:=ps.map fun p=>es.getD p (0,.none)) (fun b o e=>Qb _ e) (fun h' I k hn=>.drawn _ _ ps 0 (fun e=>?_) (k _ _ (Qc _ rfl)) rfl (jv1 ..) fun j p hp=>⟨_,at_ p (kz2 hp),by refine a5 (jw7) (a5 hp ?_);rfl⟩) ?_ fun T e=>by (injection e with i;subst i);exact Qf (jw4 _)
   ·rw [← e,Qc _ rfl] at hn
    exact ns hn
   ·refine (pp.map _).trans ?_
    have e:(Qg es.size).map (fun p=>es.getD p (0,.none))=es.toList:=by
     apply nq1
     intro j
     refine a5 (jw7) (a5 (show es.toList[j]?=es[j]? from kq7) ?_)
     by_cases hj:j<es.size
     ·refine a5 (mv7 hj) ?_;simp [Array.getD,hj]
     ·refine a5 (kw2 (xs:=es) (by exact (kx8 hj))) (a5 (kz3 (l:=Qg es.size) (by refine a5 kz9 ?_;exact (kx8 hj))) ?_);rfl
    rw [e]
  ·refine (?_:(List.map (fun (i:Nat)=>rawInt i) ps).toArray.size≤sizeLine)
   refine a5 (lz0 ..) (a5 (jv1 ..) (a5 (pp.length_eq ..) (a5 (kz9 ..) ?_)))
   exact fits_of_scanBound SO.small
 ·refine jk9 (jv5 ?_)
  by_cases f:w.params.followText "set-order"=true
  ·exact fin (Sub.refl _) (fun h' I u_ u_=>.text _ _ f rfl) (ev4 _ _) nofun
  ·have f:w.params.followText "set-order"=false:=by simpa using f
   have hd2:(!t.plain&&decide (es.size > 1))=false:=by
    have:¬((!w.params.followText "set-order"&&(!t.plain&&decide (es.size > 1)))=true):=hd
    rw [f] at this
    simpa using this
   have r:Ris t.place:=by
    cases hp:t.plain with
    | true=>exact (SO.tab hp).1
    | false =>
     rw [hp] at hd2
     have:es.size≤1:=by simpa using hd2
     unfold Ris
     have h2:t.place.toList.length≤1:=by refine a5 jw2 ?_;exact i5 [_,_] 1 zA nA 1 zB zA zB nA tT this (o7 hsz)
     cases e:t.place.toList with
     | nil=>exact .nil
     | cons x l =>
      rw [e] at h2
      induction l using Qh with
      | nil=>exact lk7 ..
      | cons _ _=>simp at h2
   exact fin (Sub.refl _) (fun h' I u_ u_=>.led _ _ f hd2 r (dv3 r) rfl) (.refl _) nofun
end
end
section
theorem M5:Slot "set_iterator" "__iter__" "set_iterator.__iter__" :=
 .of (owner:="set_iterator") (n:="__iter__") (by refine a5 (typeLookup_type ..) (a5 (builtinLookup_eq_fast ..) ?_);kernel_rfl) (by rfl) (by rfl) (by rfl)
  (by first | exact .inl (by rfl) | exact .inr (by decide +kernel)) (by refine a5 (isSubtype_type ..) ?_;kernel_rfl)
theorem ax4:entryFor table "set_iterator.__iter__"=some Builtin.«dict_keyiterator.__iter__» :=
 entryFor_alias (id':="dict_keyiterator.__iter__") (by kernel_rfl) rfl (by decide +kernel) (by kernel_rfl)
theorem aj4 (a:Value):argsOk "set_iterator.__iter__" ⟨[a],[]⟩:=by
 unfold argsOk;refine a5 (signature?_of (id:="set_iterator.__iter__") (n:=['_','_','r','e','t','i','_','_']) (o:=['r','o','t','a','r','e','t','i','_','t','e','s']) (by kernel_rfl) az4) ?_;kernel_rfl
section
variable {pG:Program} {w:World} {A:Around} {E:Value→Shared→Prop} {s:Shared} {I S:Addr} {o:Obj} {es:Array (Int × Value)} {ep:Nat} {t:SetTable} {l:List Int} {xs:List (Int × Value)}
noncomputable def hz6 (w:World) (o:Obj) (I S:Addr) (es:Array (Int × Value)) (ep:Nat) (t:SetTable) (xs:List (Int × Value)) (tl:List Addr) (i:Nat) (h:Heap):Prop :=
 h.get? S=some o∧∃ f,IsSetIt h I S f i es.size ep∧ItMode w h I S es ep t i xs f∧∀ T,f=.ref T→T∈tl
theorem ek7 (hh:A.handled=none) (hne:S≠I) (SO:SetO pG w o es ep t l) (hl:xs.length=es.size) (tl:List Addr) :
  Walks pG w A I (I::S::tl) [I] es.size (fun i v=>∃ e,xs[i]?=some e∧v=e.2) (hz6 w o I S es ep t xs tl) where
 sub:=fun b hb=>by refine a5 (jv4.mp hb) ?_;exact jv0 ..
 frame:=by
  rintro i h h' ⟨a,f,⟨oI,b1,b2,b3⟩,m,k⟩ hk
  refine ⟨hk S (by simp) o a,f,⟨oI,hk I (by exact jv0) oI b1,b2,b3⟩,?_,k⟩
  cases m with
  | text slot tk f e=>exact .text slot tk f e
  | led slot tk f d r b e=>exact .led slot tk f d r b e
  | drawn T oT ps c ne hT d e ae=>exact .drawn T oT ps c ne (hk T (jv3 _ (jv3 _ (k T rfl))) oT hT) d e ae
 item:=by
  rintro i s Q E hi ⟨a,f,it,m,k⟩ hQ
  refine av5 hh it a SO m (fun e h' he sb ⟨f',it',m',k'⟩=>hQ _ h' s.toks ⟨e,he,rfl⟩ ⟨sb.extBut S o hne a,f',it',m',fun T q=>k T (k' T q)⟩ fun b o hb q=>sb.extBut b o (fun h=>hb (by refine a5 h ?_;exact jv0 ..)) q) fun h=>?_
  rw [lj9] at h
  lia
 done:=by
  rintro s Q E ⟨a,f,it,m,k⟩ hQ
  refine av5 hh it a SO m (fun e h' he u_ u_=>?_) fun u_ h' x=>hQ h' s.toks fun b o hb q=>x b o (fun h=>hb (by refine a5 h ?_;exact jv0 ..)) q
  rw [kz3 (by exact (o7 hl))] at he
  exact nn he
 self:=by
  rintro i s Q E ⟨a,f,it,m,k⟩ hQ
  refine mz3 it.typeIs M5 (kv6 M5 it.typeIs ax4 ?_ (aj4 _))
  refine (?_:wpAny _ _ (ret (.ref I)) _ _ s)
  exact jv5 ⟨_,rfl,"set_iterator",_,it.typeIs,w9.lookup,hQ⟩
theorem gk1 {Q:Bool→Shared→Prop} {r:Addr} (hT:s.TypeIs (.ref r) "set") (h:Q false s):wpAny (model pG w) A (Builtin.List.listLengthHint (.ref r)) Q E s:=by
 unfold Builtin.List.listLengthHint
 refine jk9 (wpAny_specialOf hT PySem.F.slot_set_len.lookup ?_)
 generalize f7:("set.__len__":String)=id0
 wp_delta
 refine a5 (show splitId id0=some ("set","__len__") from by subst f7;rfl) ?_
 subst f7
 refine jk9 (mj4 (T:="set") (b:=true) hT (by refine a5 (isSubtype_type ..) ?_;kernel_rfl) ?_)
 refine lx9 (fun hab=>absurd hab (by exact Bool.noConfusion)) (fun u_=>?_)
 refine lx9 (fun u_=>?_) (fun hab=>absurd (by rfl) hab)
 refine jk9 (lz3 hT ?_)
 exact jv5 h
end
end
section
section
variable {pG:Program} {w:World} {A:Around} {E:Value→Shared→Prop} {s:Shared} {S:Addr} {o:Obj} {es:Array (Int × Value)} {ep:Nat} {t:SetTable} {l:List Int}
theorem dz1 {R:Result→Shared→Prop} (hh:A.handled=none) (ho:s.heap.get? S=some o) (SO:SetO pG w o es ep t l) (L:Addr) (hne:L≠S) (res:Value) (hL:s.heap.get? L=some { cls:=.type "list",data:=.seq #[] 0 })
  (hR:∀ (h':Heap) (tk:Nat) (d:Drawn) (acc:Array Value) (c:Nat) (xs:List (Int × Value)),(∀ b o,b≠L→s.heap.get? b=some o→h'.get? b=some o)→h'.get? L=some { cls:=.type "list",dict:=none,data:=.seq acc c,slots:=#[] }→xs.Perm es.toList→ItemsOf (fun i v=>∃ e,xs[i]?=some e∧v=e.2) acc es.size→R (.ok (.ret res)) { s with heap:=h',toks:=tk,drawn:=d }) :
  wpAny (model pG w) A.in1 (Builtin.List.listExtendWith (.ref L) (.ref S) res)
   (fun fin s'=>match fin with | .done f=>R (.ok f) s' | .again c'=>c'.quiet=true∧codeAny (model pG w) A c' R s') (fun e s'=>R (.error e) s') s:=by
 have hT:s.TypeIs (.ref S) "set":=⟨o,ho,SO.ex.1⟩
 dsimp only [Builtin.List.listExtendWith]
 refine jk9 (lz3 (T:="set") hT ?_)
 have h1:Builtin.List.listSameRef (.ref L) (.ref S)=false:=by exact if_neg hne
 have h2:(Value.type "set" == Value.type "list")=false:=by rfl
 have h3:(Value.type "set" == Value.type "tuple")=false:=by rfl
 simp only [h1,h2,h3,Bool.or_false,kk7,if_false]
 refine jk9 (fw4 ho SO fun h' d I f xs k hI it m p nf=>?_)
 have hl:xs.length=es.size:=by exact a5 p.length_eq (a5 jw2 rfl)
 have hLI:L≠I:=fun h=>by rw [← h,hL] at hI;exact ns hI
 have hSI:S≠I:=fun h=>by rw [← h,ho] at hI;exact ns hI
 obtain ⟨tl,ht,hLt⟩:∃ tl:List Addr,(∀ T,f=.ref T→T∈tl)∧L∉tl:=by
  cases m with
  | text=>exact ⟨[],nofun,nofun⟩
  | led=>exact ⟨[],nofun,nofun⟩
  | drawn T oT ps c ne hT d e ae =>
   refine ⟨[T],fun u_ h=>by (injection h with i;subst i);exact jv0 ..,fun h=>?_⟩
   have:=nf T rfl
   replace this:=hL▸(jv4.mp h).symm▸this
   exact ns this
 have st:hz6 w o I S es ep t xs tl 0 h':=⟨k S o ho,f,it,m,ht⟩
 have W:=ek7 (A:=A.in1) hh hSI SO hl tl
 have hLf:L∉I::S::tl:=by simp only [jv6,not_or];exact ⟨hLI,hne,hLt⟩
 have key:∀ (h2:Heap) (c tk:Nat),hz6 w o I S es ep t xs tl 0 h2→(∀ b o,b≠L→s.heap.get? b=some o→h2.get? b=some o)→h2.get? L=some { cls:=.type "list",data:=.seq #[] c } →
   codeAny (model pG w) A (.builtin "list.extend.loop" ⟨[.ref L,.ref I,res],[]⟩) R { s with heap:=h2,toks:=tk,drawn:=d }:=by
  intro h2 c tk hst hk hL2
  refine codeAny_extend_loopS W.toS (fits_of_scanBound SO.small) L hLf res es.size 0 _ #[] c rfl (kx0 _) hst hL2 (ItemsOf.nil _) fun s' acc c' hm hS' hacc=>?_
  refine a5 (Moved.eq_with hm) ?_
  refine hR s'.heap s'.toks d acc c' xs (fun b o hb e=>hm.heap b o (fun hmem=>?_) (hk b o hb e)) hS' p hacc
  refine Qa (jv6.mp hmem) (fun e'=>?_) fun hmem=>?_
  ·exact hb e'
  ·rw [jv4.mp hmem,hI] at e;exact nn e
 have hL1:=k L _ hL
 refine jk9 (kx6 (gk1 ⟨o,k S o ho,SO.ex.1⟩ ?_))
 refine lx9 (fun u_=>?_) (fun u_=>jv5 ⟨plainId_quiet PySem.F.plain_extend_loop _,key _ 0 _ st (fun b o u_ e=>k b o e) hL1⟩)
 refine jk9 (mx6 (jk9 ?_))
 refine (?_:wpAny _ _ (updateSeq L (·.push .none) >>= fun u_=>updateSeq L (·.pop)) _ _ _)
 refine jk9 (mk0 hL1 rfl ?_)
 have hL2:=Qj (Obj.mapSeq (·.push Value.none)) hL1 rfl
 refine mk0 (hz:=by seq_fits) hL2 rfl ?_
 have hL3:=Qj (Obj.mapSeq (·.pop)) hL2 rfl
 have oth:∀ b o,b≠L→h'.get? b=some o→((h'.update L (Obj.mapSeq (·.push Value.none))).update L (Obj.mapSeq (·.pop))).get? b=some o:=fun b o hb e =>
  (Qk _ _ (Ne.symm hb)).trans ((Qk _ _ (Ne.symm hb)).trans e)
 exact jv5 ⟨plainId_quiet PySem.F.plain_extend_loop _,key _ _ _ (W.frame 0 _ _ st fun b hb o e=>oth b o (fun h=>hLf (h▸hb)) e) (fun b o hb e=>oth b o hb (k b o e)) hL3⟩
theorem cj7 {R:List Value→Shared→Prop} (hh:A.handled=none) (ho:s.heap.get? S=some o) (SO:SetO pG w o es ep t l)
  (h:∀ (h':Heap) (tk:Nat) (d:Drawn) (acc:Array Value) (xs:List (Int × Value)),Sub s.heap h'→xs.Perm es.toList→ItemsOf (fun i v=>∃ e,xs[i]?=some e∧v=e.2) acc es.size→R acc.toList { s with heap:=h',toks:=tk,drawn:=d }) :
  wpAny (model pG w) A (collect (.ref S)) R E s:=by
 have hlt:=Qi ho
 dsimp only [collect]
 refine jk9 (wpAny_runValue (kw4 entry_proto_collect' ?_))
 refine a5 (Around.under_plainId PySem.F.plain_proto_collect _) ?_
 refine (?_:wpAny _ A.in1 (newList [] >>= fun l=>again (.builtin "list.__iadd__" ⟨[l,.ref S],[]⟩)) _ _ s)
 refine jk9 (kj5 ?_)
 refine jv5 ⟨plainId_quiet PySem.F.plain_list_iadd _,kw4 entry_list_iadd' ?_⟩
 refine a5 (Around.under_plainId PySem.F.plain_list_iadd _) ?_
 have hL:(s.heap.push { cls:=.type "list",data:=.seq ([]:List Value).toArray }).get? s.heap.objs.size=some { cls:=.type "list",data:=.seq #[] }:=Qc _ rfl
 refine (?_:wpAny _ A.in1 (Builtin.List.listExtendWith (.ref s.heap.objs.size) (.ref S) (.ref s.heap.objs.size)) _ _ _)
 have key:=dz1 (A:=A) (s:={ s with heap:=s.heap.push { cls:=.type "list",data:=.seq ([]:List Value).toArray } })
  (R:=fun (q:Result) (s':Shared)=>∃ (h':Heap) (tk:Nat) (d:Drawn) (acc:Array Value) (c:Nat) (xs:List (Int × Value)),q=.ok (.ret (.ref s.heap.objs.size))∧s'={ s with heap:=h',toks:=tk,drawn:=d } ∧
   Sub s.heap h'∧h'.get? s.heap.objs.size=some { cls:=.type "list",dict:=none,data:=.seq acc c,slots:=#[] }∧xs.Perm es.toList∧ItemsOf (fun i v=>∃ e,xs[i]?=some e∧v=e.2) acc es.size)
  hh (Qb _ ho) SO s.heap.objs.size (kj2 hlt) (.ref s.heap.objs.size) hL
  (fun h' tk d acc c xs k e p i=>⟨h',tk,d,acc,c,xs,rfl,rfl,fun b o e=>k b o (kz1 (Qi e)) (Qb _ e),e,p,i⟩)
 refine kx7 key (fun fin s' x=>?_) fun e s' x=>?_
 ·induction fin using PySem.Fin.casesOn with
  | done f =>
   (refine k8 x ?_;clear x;rintro h' tk d acc y;refine a8 y ?_;clear y;rintro c xs e rfl yy;refine G9 yy ?_;clear yy;rintro k e2 p i)
   (injection e with i;subst i)
   refine (?_:wpAny _ A (load s.heap.objs.size >>= _) _ _ _)
   exact jk9 (lx1 e2 (jv5 (h h' tk d acc xs k p i)))
  | again c₁ =>
   refine ⟨x.1,mz7 x.2 fun q s₂ y=>?_⟩
   (refine k8 y ?_;clear y;rintro h' tk d acc y;refine a8 y ?_;clear y;rintro c xs rfl rfl yy;refine G9 yy ?_;clear yy;rintro k e2 p i)
   refine (?_:wpAny _ A (load s.heap.objs.size >>= _) _ _ _)
   exact jk9 (lx1 e2 (jv5 (h h' tk d acc xs k p i)))
 ·obtain ⟨_,_,_,_,_,_,e',_⟩:=x
  cases e'
end
end
section
noncomputable def ISet (pG:Program) (w:World) (l:List Int) (h:Heap) (v:Value):Prop:=∃ a l',v=.ref a∧SetI pG w h a l'∧(∀ z,z∈l' ↔ z∈l)∧l'.length≤l.length
section
variable {pG:Program} {w:World} {hb:Heap} {n:Nat} {X:Xs} {H:HL}
theorem ix0 {h:Heap} {l:List Int}:∀ {vs:List Value},RdL h vs (l.map .int)→PyProof.Rows.IntsAre vs l:=by
 induction l with
 | nil=>intro vs r;cases r;exact .nil
 | cons k l ih =>
  intro vs r
  cases r with
  | cons r1 r2=>exact oE r1 fun as r1=>oE (rdi r1) fun t e=>e▸.cons _ _ (ih r2)
theorem hv5 {h:Heap} {vs:List Value} {l:List Int} (x:PyProof.Rows.IntsAre vs l):RdL h vs (l.map .int):=by
 induction x with
 | nil=>exact .nil
 | cons k t _ ih=>exact .cons ⟨_,.int _ _⟩ ih
theorem eq0 {i:Nat} {a:Addr} {l:List Int} {Q:VP} (e:H[i]?=some (a,.lst (l.map .int))) (hl:l.length≤1000) (q:Q (.any (ISet pG w l)) H) :
  Op pG w hb n X (RepV pG w) (fun vs=>call (.type "set") vs) [.ref a] H Q:=by
 refine .grow fun A Z s vs R E rm y rl kk=>?_
 obtain ⟨v,rfl,r1⟩:=rl.inv1
 (replace r1:=r1.inv;subst r1)
 refine y9 (y.own (a,.lst (l.map .int)) (kz2 e)) fun us m hx hr=>?_
 have hi:=ix0 hr
 have hlen:=PyProof.Rows.IntsAre.length hi
 rw [jw2] at hlen
 refine fz1 rm.handled ⟨_,hx,rfl,m,rfl⟩ hi (by unfold scanBound;exact i5 [_,_] 1 zA zB 1 zB (.num 1000) (.add (.add zA nA) nA) (.num 4096) tT (o7 hlen) hl) fun h' tk l' k si mm ll=>?_
 refine kk k (.any (g:=f7 { s with heap:=h',toks:=tk } Z) (Sub.refl _) ⟨_,l',rfl,?_,mm,ll⟩) q
 obtain ⟨o,es,ep,t,e1,S⟩:=si
 exact ⟨o,es,ep,t,k9 e1 (T8 y (Sub.refl _)),S⟩
theorem Sat.drawn {Z:List Addr} {s:Shared} {d:Drawn} (x:Sat pG w hb Z H s):Sat pG w hb Z H { s with drawn:=d }:=⟨x.bs,x.base,x.zlt,x.sub,x.nd,x.own,x.gens⟩
theorem aw6 {l:List Int} {Q:VP} (h64:l.length<64) (q:Q (.dat (.list ((z5 l).map .int))) H) :
  Op pG w hb n X (RepV pG w) (fun vs=>call (.builtin "sorted") vs) [.any (ISet pG w l)] H Q:=by
 intro A Z s vs R E rm fm y rl kk
 obtain ⟨v,rfl,r1⟩:=rl.inv1
 obtain ⟨S,l',rfl,⟨o,es,ep,t,e1,SO⟩,mm,ll⟩:ISet pG w l (f7 s Z) v:=by
  refine c9 r1.inv fun g k y=>a8 y fun S l' e si yy=>oA yy fun mm ll=>?_
  exact ⟨S,l',e,si.keeps fun o=>k S o,mm,ll⟩
 refine call_function_entry kind_sorted plain_sorted entry_sorted (args_sorted1 _) ?_
 unfold Builtin.«sorted»
 refine jk9 (m:=checkCount "sorted" 1 1 _) (jv5 ?_)
 refine jk9 (cj7 (A:=A.in1) (by simp [rm.handled]) (c7 e1).1 SO fun h' tk d acc xs k p hi=>?_)
 have hz:es.size=l'.length:=by exact p8 (SO.vals ..) (a5 (jv1 ..) (a5 (jw2 ..) rfl))
 have hal:acc.toList.length=es.size:=by refine a5 jw2 ?_;exact hi.1
 refine jk9 (lj0 ?_ (by refine a5 hal ?_;exact fits_of_scanBound SO.small))
 have hI:PyProof.Rows.IntsAre acc.toList (xs.map elV):=by
  have main:∀ (us:List Value) (ys:List (Int × Value)),us.length=ys.length→(∀ e∈ys,IntEl pG w e)→(∀ (j:Nat) v,us[j]?=some v→∃ e:Int × Value,ys[j]?=some e∧v=e.2)→PyProof.Rows.IntsAre us (ys.map elV):=by
   intro us
   induction us with
   | nil=>intro ys e _ _;induction ys using Qh with
    | nil=>exact .nil
    | cons _ _=>cases e
   | cons u us ih=>intro ys e hy h;induction ys using Qh with
    | nil=>cases e
    | cons x ys =>
     obtain ⟨_,h1,h2⟩:=h 0 u rfl
     (injection h1 with i;subst i)
     obtain ⟨_,t,h3⟩:=hy x (jv0 ..)
     refine a5 h2 (a5 h3 ?_)
     exact .cons _ t (ih ys (by simpa using e) (fun e he=>hy e (jv3 _ he)) fun j v hv=>h (j+1) v hv)
  refine main _ _ (by exact a5 hal (a5 p.length_eq (a5 jw2 rfl))) (fun e he=>SO.el e (p.mem_iff.mp he)) fun j v hv=>hi.2 j v (by refine p8 (kq7) ?_;exact hv)
 refine jk9 (kx6 (kv6 slot_list_sort ⟨_,Qc _ rfl,rfl⟩ entry_list_sort ?_ (args_list_sort _)))
 refine list_sort_tree (n:=0) (Qc _ rfl) hI (by exact ln4 [_,_,_,_] 1 zA zB 1 zB zC 1 zC zD 1 (.add zD nA) (.num 64) (.add zA nA) (.num 64) tT (o7 hal) (o7 hz) ll h64) fun out ns g1 g2 g3=>?_
 have hp:ns.Perm l':=by refine p8 SO.vals ?_;exact g2.trans (p.map elV)
 have hu:ns=z5 l:=by
  have nd:ns.Nodup:=hp.nodup_iff.mpr SO.nd
  refine Z7 ?_ (A0 l) fun z=>(hp.mem_iff.trans (mm z)).trans x9.symm
  exact List.Pairwise.imp₂ (fun a b h1 h2=>by lia) g3 nd
 subst hu
 have y':Sat pG w hb Z H { s with drawn:=d }:=y.drawn
 obtain ⟨k2,f⟩:=U3 y' rfl k (hv5 (h:=f7 s Z) g1)
 refine ⟨_,rfl,jv5 ⟨_,rfl,?_⟩⟩
 exact kk.ok (s':=_) ⟨fun b o e n1 n2=>k2 b o e,fun u_ h=>.inl h,fun u_ h=>.inl h,fun u_ h=>.inl h,rfl⟩ (y'.grow k2) (.dat (f tk)) q
end
end
section
noncomputable def K0 (l:List Int):PyData:=.list (l.map .int)
noncomputable def f6 (l:List (Str × List Int)):List (Str × PyData):=l.map fun p=>(p.1,K0 p.2)
theorem I1 {l:List (Str × List Int)} {x:Str}:(f6 l).lookup x=(l.lookup x).map K0:=by
 induction l with
 | nil=>rfl
 | cons p l ih =>
  unfold f6 at ih ⊢
  refine a5 kx1 (a5 kq2 (a5 kq2 ?_))
  refine (?_:(match x == p.1 with | true=>_ | false=>_)=_)
  cases x == p.1 with
  | true=>rfl
  | false=>exact ih
section
variable {w:World} {hb:Heap} {n:Nat} {X:Xs} {T:List Sg} {ord:List Str} {tp:Str→Str} {lots:List (Str × List Int)} {up:Str→List Int} {rk:Str→Nat}
theorem bx5 (W:Wf T ord tp) (U:UpW T tp lots up rk) (h2:∀ x g,c0 T x=some g→g.supers.length≤2):∀ (r:Nat) {n:Nat} {H:HL} {x:Str} {g:Sg} {Q:VP},c0 T x=some g→rk x≤r→Q (.dat (K0 (up x))) H →
  Op PW w hb (n+5+r) X (RepV PW w) (fun vs=>call (.ref 628) vs) [.dct (i8 T),.dct (f6 lots),.dat (.str x)] H Q:=by
 intro r
 induction r with
 | zero =>
  intro n H x g Q hg hr q
  refine Op.lift (m:=n+4) (h8 (g8 rfl rfl rfl (names:=[st "table",st "lots",st "name"]) (by kernel_rfl) rfl (ar3 fun u_ u_ u_=>by kernel_rfl) fun gs=>?_)) (lz6 _)
  refine Op.lift (m:=n+1) (I7 W hg ?_) (by exact ln0 [_] (.add zA nA) (.add zA (.num 3)) tT)
  refine ⟨fun e=>?_,fun e=>?_⟩
  ·exact g9 g7 ((I1).trans (congrArg _ (U.top x g hg (G3 e)).2)) ⟨[],H,_,rfl,.same,q⟩
  ·have hs:=U.sub x g hg (I5 e)
   have h0:g.supers=[]:=by
    cases e2:g.supers with
    | nil=>rfl
    | cons o l=>have:=(hs.2 o (by refine a5 e2 ?_;exact jv0 ..)).1;lia
   intro D
   refine g9 g7 (z6 hg) ?_
   refine ⟨_,d9 rfl,?_⟩
   refine q9 gs u8 [] (by refine a5 h0 ?_;rfl) nofun (f9 gs ?_)
   refine eq0 (i:=0) (l:=[]) rfl (kx0 _) (aw6 (by exact kx3 _) ?_)
   rw [hs.1,h0] at q
   exact ⟨[(D,.lst [])],H,_,rfl,.same,q⟩
 | succ r ih =>
  intro n H x g Q hg hr q
  refine h8 (g8 (n:=n+5+r) rfl rfl rfl (names:=[st "table",st "lots",st "name"]) (by kernel_rfl) rfl (ar3 fun u_ u_ u_=>by kernel_rfl) fun gs=>?_)
  refine Op.lift (m:=n+1) (I7 W hg ?_) (by exact ln0 [_,_] (.add zA nA) (.add (.add zA (.num 5)) zB) tT)
  refine ⟨fun e=>?_,fun e=>?_⟩
  ·exact g9 g7 ((I1).trans (congrArg _ (U.top x g hg (G3 e)).2)) ⟨[],H,_,rfl,.same,q⟩
  have hs:=U.sub x g hg (I5 e)
  intro D
  refine g9 g7 (z6 hg) ?_
  refine ⟨_,d9 rfl,?_⟩
  have len:∀ (l:List Str),(∀ y∈l,y∈g.supers)→(l.flatMap up).length≤20 * l.length:=by
   intro l hl
   induction l with
   | nil=>exact kx0 _
   | cons y l ih2 =>
    refine oE ((hs.2 y (hl y (jv0 ..))).2) fun g2 h3=>?_
    have h4:(up y).length≤20:=z9 (lo:=0) (U.asc y g2 h3) fun i m=>by have:=U.rng y g2 h3 i m;exact ⟨F0 [_] 1 (.num 0) zA (.num 0) zA tT this.1,F0 [_] 1 (.add zA nA) (.num 20) (.add zA nA) (.add (.num 0) (.num 20)) tT this.2⟩
    have h5:=ih2 fun z hz=>hl z (jv3 _ hz)
    refine a5 lk2 (a5 jw8 (a5 lq6 ?_))
    exact i5 [_,_,_] 1 zA (.mulL 20 zB) 1 zC (.num 20) (.add zC zA) (.mulL 20 (.add zB nA)) tT h5 h4
  have hn2:=h2 x g hg
  refine j8 gs u8 g.supers (fun l ρ H'=>∃ l1,g.supers=l1++l∧H'=(D,.lst ((l1.flatMap up).map .int))::H∧ρ=[(st "found",.ref D),(st "top",.dat (.str (tp x))),(st "table",.dct (i8 T)),(st "lots",.dct (f6 lots)),(st "name",.dat (.str x))]) i6 ?_ ?_ ?_
  ·exact ⟨[],rfl,rfl,rfl⟩
  ·(intro N hN hE o l ρ1 H1 yz;refine o9 yz ?_;clear yz;rintro l1 hl rfl rfl)
   have mo:o∈g.supers:=by refine a5 hl ?_;exact jv7 _ jv0
   refine V7 (hs.2 o mo) fun h1 g' h2=>?_
   have e1:=len l1 fun y hy=>by refine a5 hl ?_;exact jv8 _ hy
   have e2:(up o).length≤20:=z9 (lo:=0) (U.asc o g' h2) fun i m=>by have:=U.rng o g' h2 i m;exact ⟨F0 [_] 1 (.num 0) zA (.num 0) zA tT this.1,F0 [_] 1 (.add zA nA) (.num 20) (.add zA nA) (.add (.num 0) (.num 20)) tT this.2⟩
   have e3:l1.length≤2:=by rw [hl,jw8] at hn2;exact d6 [_,_] 1 (.add zA zB) (.num 2) zA (.num 2) tT hn2
   refine ax5 0 rfl ?_
   refine Op.lift (ih (n:=n) h2 (by exact i5 [_,_,_] 1 (.add zA nA) zB 1 zB (.add zC nA) zA zC tT h1 hr) ?_) (by exact ln0 [_,_] (.add (.add zA (.num 5)) zB) (.add (.add zA (.num 5)) zB) tT)
   refine aq9 (i:=0) rfl (by refine a5 (jv1 ..) (a5 (jv1 ..) ?_);exact T5 [_,_,_] 20 zA (.num 2) 1 zB (.num 20) 1 zC (.mulL 20 zA) (.add zC zB) (.num 1000000) tT e3 e2 e1) ?_
   refine hN _ _ _ ⟨_,.all (ρ:=[(st "found",.ref D),(st "top",.dat (.str (tp x))),(st "table",.dct (i8 T)),(st "lots",.dct (f6 lots)),(st "name",.dat (.str x))]) ⟨rfl,rfl,rfl,rfl,rfl,trivial⟩,l1++[o],by refine a5 hl ?_;simp,?_,rfl⟩
   refine a5 mv8 (a5 (show [o].flatMap up=up o by exact kq4 _) (a5 kq0 ?_))
   rfl
  ·(intro ρ1 H1 yz;refine o9 yz ?_;clear yz;rintro l1 hl rfl rfl)
   refine f9 gs ?_
   rw [kq4] at hl
   refine p8 hl ?_
   have e1:=len g.supers fun y hy=>hy
   refine eq0 (i:=0) (l:=g.supers.flatMap up) rfl (by exact i5 [_,_] 1 zA (.mulL 20 zB) 20 zB (.num 2) zA (.num 1000) tT e1 hn2) (aw6 (by exact i5 [_,_] 1 zA (.mulL 20 zB) 20 zB (.num 2) (.add zA nA) (.num 64) tT e1 hn2) ?_)
   rw [hs.1] at q
   exact ⟨[(D,.lst _)],H,_,rfl,.same,q⟩
end
end
section
theorem Q2 {kvs:List (Str × PyData)} (h:(kvs.map (·.1)).Nodup):bq0 [] kvs=kvs:=by
 have main:∀ (kvs acc:List (Str × PyData)),((acc++kvs).map (·.1)).Nodup→bq0 acc kvs=acc++kvs:=by
  intro kvs
  induction kvs with
  | nil=>intro acc _;exact (kq4 _).symm
  | cons p kvs ih =>
   intro acc h
   have e:X3 p.1 p.2 acc=acc++[p]:=F5 (s9 fun m=>by
    rw [kq0,kq9] at h
    exact h.2.2 _ m p.1 (jv0 ..) rfl)
   refine (?_:bq0 (X3 p.1 p.2 acc) kvs=_)
   refine a5 (e ..) (a5 ((ih _ (by refine a5 (kk4 ..) ?_;exact h)) ..) (a5 (kk4 ..) ?_));rfl
 exact main kvs [] h
theorem eq7 {kvs:List (Str × PyData)} (h:(kvs.map (·.1)).Nodup) {p:Str × PyData} (m:p∈kvs):kvs.lookup p.1=some p.2:=i7 h m
section
variable {pG:Program} {w:World} {hb:Heap} {n:Nat} {X:Xs} {H:HL}
set_option tactic.hygienic true in
theorem jq6 {d1 d2:V} {kvs:List (Str × PyData)} {Q:VP} (hi:∀ p∈kvs,∃ i,p.2=.int i) (hn:(kvs.map (·.1)).Nodup) (D1:DctV pG w hb H d1 kvs) (D2:DctV pG w hb H d2 kvs) (q:Q (.dat (.bool false)) H) :
  Op pG w hb n X (RepV pG w) (G0 (compareOp .NotEq)) [d1,d2] H Q:=by
 refine .grow fun A Z s vs R E rm y rl kk=>?_
 (refine a8 rl.inv2 ?_;rintro v u rfl r1 r2)
 (refine a8 (D1 Z s v y r1) ?_;rintro a e1 rfl x1 y;refine oA y ?_;clear y;rintro x2 x3)
 (refine a8 (D2 Z s u y r2) ?_;rintro b e2 rfl y1 y;refine oA y ?_;clear y;rintro y2 y3)
 have hits:∀ (es:List (Str × Value)) (l:List (Str × PyData)),RdD (f7 s Z) es l→(∀ p∈l,p∈kvs)→KeqHits A.in1 s e2 es true:=by
  intro es l h
  induction h with
  | nil=>intro _;exact .nil
  | cons r t ih =>
   rename_i p q es l
   intro hm
   refine oE (hi q (hm q (jv0 ..))) fun i hi=>?_
   refine V7 r fun hk as r=>?_
   refine c9 ((u9 y2).1 q.2 (eq7 hn (hm q (jv0 ..)))) fun yv h1 h2=>?_
   rw [hi] at r h2
   refine oE h2 fun bs h2=>?_
   obtain ⟨k,v⟩:=p
   refine oE (rdi r) fun t1 f1=>?_
   refine oE (rdi h2) fun t2 f2=>?_
   have f1:v=_:=f1
   subst f1 f2
   have:=KeqHits.hit (A:=A.in1) (s:=s) (kb:=e2) (k:=k) (v:=.int i t1) (y:=.int i t2) (r:=es) (e:=(i == i)) (b:=true) (by refine a5 (show k=q.1 from hk) ?_;exact h1) (SeqAt.EqAt.int_int _ _ _ _) (ih fun p hp=>hm p (jv3 _ hp))
   rwa [beq_self_eq_true,Bool.true_and] at this
 have e:(e1.length == e2.length)=true:=by refine a5 x2.length (a5 y2.length ?_);exact beq_self_eq_true _
 refine keq_ne x3 y3 x1 y1 (kj8 (kz8 _ _) rm.line) (fun u_=>hits e1 kvs x2 fun u_ h=>h) (kk (h':=s.heap) (t:=s.toks) (Sub.refl _) (m7 _) ?_)
 refine a5 e ?_
 exact q
end
end
section
section
variable {w:World} {hb:Heap} {n m:Nat} {X:Xs} {H:HL} {T:List Sg} {ord:List Str} {tp:Str→Str} {df0 df:Int} {ts:List Told} {lined:Option Str} {a:At} {low up:Str→List Int} {rk:Str→Nat}
structure BrW (T:List Sg) (ord:List Str) (tp:Str→Str) (df:Int) (ts:List Told) (lined:Option Str) (a:At) (low up:Str→List Int) (rk:Str→Nat):Prop extends BdW T ord tp df ts lined a low up rk where
 h64:T.length<64
 tnd:(T.map Sg.name).Nodup
 lk:∀ g∈T,c0 T g.name=some g
 shm:∀ g∈T,Sh 0 (.str g.mult)
 sup:∀ x g,c0 T x=some g→g.supers.length≤2
 tsd:(ts.map Told.sig).Nodup
 shn:∀ x∈a.names,Sh 0 (.str x)
 shl:∀ x∈ord,Sh 0 (.str x)∧Sh 0 (.str ("scope "++x))
noncomputable abbrev bz8 (a:At) (low up:Str→List Int) (ord:List Str) (tp:Str→Str) (ts:List Told) (lined:Option Str):V:=.tup [dq4 a.names (q8 low up ord++M6 up lined) (g4 ord++ax0 ord.length lined),.dct (g4 ord++ax0 ord.length lined),.dat (.list (t8 tp ts ord))]
noncomputable abbrev at5 (D1 D2 D3 D4 D5:Addr) (a:At) (due labs:List PyData) (H:HL):HL:=(D5,.lst labs)::(D4,.lst due)::(D3,.dct (f6 a.sure))::(D2,.dct (f6 a.lots))::(D1,.lst (a6 a.names))::H
noncomputable abbrev aq6 (T:List Sg) (ord:List Str) (tp:Str→Str) (df0:Int) (ts:List Told) (lined:Option Str) (a:At) (low up:Str→List Int) (d1 d2 d3:V) (D4 D5:Addr):c8:=[(st "formulas",.ref D5),(st "due",.ref D4),(st "sure",d3),(st "lots",d2),(st "atoms",d1),(st "labelled",.dat (.list (t8 tp ts ord))),(st "numbers",.dct (g4 ord++ax0 ord.length lined)),(st "bounds",dq4 a.names (q8 low up ord++M6 up lined) (g4 ord++ax0 ord.length lined)),(st "told",bz8 a low up ord tp ts lined),(st "table",.dct (i8 T)),(st "names",.dat (.list (a6 ord))),(st "scope",.dat (l5 df0 ts)),(st "lined",.dat (.list (a6 (m4 lined))))]
theorem P7 {α:Type}:∀ l:List α,((Qg l.length).filterMap fun j=>l[j]?)=l
 | []=>rfl
 | a::l=>by
  refine a5 lq6 (a5 List.range_succ_eq_map (a5 kq5 ?_))
  refine (?_:a::((Qg l.length).map Nat.succ).filterMap _=_)
  refine a5 mw7 ?_
  exact congrArg _ (P7 l)
theorem ev1 {α β:Type} (l:List α) (f:α→Nat→β):((Qg l.length).filterMap fun j=>(l[j]?).map fun x=>f x j)=l.zipIdx.map fun p=>f p.1 p.2:=by
 have h:=congrArg (List.map fun p:α × Nat=>f p.1 p.2) (P7 l.zipIdx)
 rw [lj4,mq2] at h
 refine p8 h ?_
 refine cv6 fun j u_=>?_
 refine a5 ((List.getElem?_zipIdx) ..) (a5 (mx1 ..) ?_)
 cases l[j]? <;> rfl
noncomputable def V0:Option Str→List Str
 | some _=>["o/next"]
 | none=>[]
theorem gx8 (l:List Str) (o:Option Str):g4 (l++V0 o)=g4 l++ax0 l.length o:=by
 induction o using Qd with
 | none=>refine (?_:g4 (l++[])=g4 l++[]);exact a5 (kq4 ..) (a5 (kq4 ..) rfl)
 | some x=>exact V1 l _
theorem iv5 (low up:Str→List Int) (l:List Str) (o:Option Str) {j:Nat} {x:Str} (h:(l++V0 o)[j]?=some x):∃ r ks ts,(q8 low up l++M6 up o)[j]?=some (M2 x r ks ts):=by
 unfold q8
 by_cases hj:j<l.length
 ·rw [lk0 hj] at h
  refine a5 (lk0 (by refine a5 (jv1 ..) ?_;exact hj)) (a5 (jw7) (a5 h ?_))
  exact ⟨_,_,_,rfl⟩
 ·rw [mj0 (by exact (kx8 hj))] at h
  refine a5 ((mj0 (by refine a5 (jv1 ..) ?_;exact (kx8 hj))) ..) (a5 (jv1 ..) ?_)
  induction o using Qd with
  | none=>exact nn h
  | some s =>
   cases e:j - l.length with
   | zero=>rw [e] at h;(injection h with i;subst i);exact ⟨_,_,_,rfl⟩
   | succ k=>rw [e] at h;exact nn h
theorem hq9 (low up:Str→List Int) (l:List Str) (o:Option Str):(q8 low up l++M6 up o).length=(l++V0 o).length:=by
 rw [jw8,jw8,q8,jv1]
 cases o <;> rfl
theorem shI (i:Int):Sh 0 (.int i):=⟨rfl,jw4 _⟩
theorem fw0 (k:List Int):Sh 1 (w0 k):=Sh.tuple fun z hz=>by obtain ⟨i,_,rfl⟩:=jv9.mp hz;exact shI i
theorem Sh.le {k j:Nat} {x:PyData} (h:Sh k x) (hk:k≤j):Sh j x:=⟨h.1,jw9 h.2 hk⟩
theorem fc {P:PyData→Prop} {a:PyData} {l:List PyData} (h:P a) (t:∀ x∈l,P x):∀ x∈a::l,P x:=List.forall_mem_cons.mpr ⟨h,t⟩
theorem dj8 {P:PyData→Prop}:∀ x∈([]:List PyData),P x:=fun u_ h=>nomatch h
theorem fw1 {x:Str} {r:Nat} {ks ts:List (List Int)} (h:Sh 0 (.str x)):Sh 3 (M2 x r ks ts):=by
 have rows:∀ ks:List (List Int),Sh 2 (v6 ks):=fun ks=>Sh.tuple fun z hz=>by obtain ⟨k,_,rfl⟩:=jv9.mp hz;exact fw0 k
 exact Sh.tuple (k:=2) (fc (h.le (kx0 _)) (fc ((shI _).le (kx0 _)) (fc (rows ks) (fc (rows ts) dj8))))
theorem jq1 {x:Str} {t:Told} {r:Nat} (h:Sh 0 (.str ("scope "++x))):Sh 4 (bq2 x (z8 t r)):=by
 have se:∀ b:Bool,Sh 0 (.str (if b=true then ("eq":Str) else ("le":Str))):=fun b=>by cases b <;> exact ⟨by kernel_rfl,jw4 0⟩
 have hn:Sh 1 (.tuple [.str "num",.int t.num]):=Sh.tuple (k:=0) (fc ⟨by kernel_rfl,jw4 0⟩ (fc (shI _) dj8))
 have hf:Sh 3 (z8 t r):=by
  unfold z8
  exact Sh.tuple (k:=2) (fc ((se t.ex).le (kx0 _)) (fc (Sh.tuple (k:=1) (fc ⟨by kernel_rfl,kx0 _⟩ (fc (Sh.tuple (k:=0) (fc ⟨by kernel_rfl,jw4 0⟩ (fc (shI _) dj8))) dj8))) (fc (hn.le (by exact kx3 _)) dj8)))
 exact Sh.tuple (k:=3) (fc (h.le (kx0 _)) (fc hf dj8))
noncomputable def cx0 (tp:Str→Str) (ts:List Told) (y:Str) (r:Nat):List PyData:=((p9 ts y).bind fun t=>if tp y=y then none else some (bq2 y (z8 t (r:Nat)))).toList
noncomputable abbrev rhoU (up low:Str→List Int) (y:Str) (ρ:c8):c8:=(st "upper",.dat (K0 (up y)))::(st "lower",.dat (K0 (low y)))::(st "name",.dat (.str y))::ρ
theorem hq3 {Q:VP} (hm:20≤m) (B:BrW T ord tp df ts lined a low up rk) (hdf:df=if df0 ≥ 0 then df0 else 3) (hl2:∀ x,lined=some x→tp x=x) (q:Q (.dat (.bool true)) H) :
  Op PW w hb (m+1) X (RepV PW w) (fun vs=>call (.ref 640) vs) [bz8 a low up ord tp ts lined,.dct (i8 T),.dat (.list (a6 ord)),.dat (l5 df0 ts),.dat (.list (a6 (m4 lined)))] H Q:=by
 have W:=B.W
 refine h8 (g8 rfl rfl rfl (names:=[st "told",st "table",st "names",st "scope",st "lined"]) (by kernel_rfl) rfl (ar5 fun u_ u_ u_ u_ u_=>by kernel_rfl) fun gs=>?_)
 intro D1
 intro D2 D3
 intro D4
 intro D5
 refine ⟨_,b0,?_⟩
 refine j8 gs u8 ord (fun l ρ H'=>ρ=aq6 T ord tp df0 ts lined a low up (.ref D1) (.ref D2) (.ref D3) D4 D5 ∧
  ∃ l1 b,ord=l1++l∧H'=at5 D1 D2 D3 D4 D5 b [] [] H∧l9 T tp df ts lined l b=a∧b.names.length≤9 * l1.length∧(∀ x∈b.lots.map (·.1),x∈l1)∧b.lots.length≤l1.length∧b.sure.map (·.1)=b.lots.map (·.1)) i6 ?_ ?_ ?_
 ·exact ⟨rfl,[],⟨[],[],[]⟩,rfl,rfl,B.at_.symm,jw4 _,nofun,jw4 _,rfl⟩
 ·rintro N hN hE x l ρ1 H1 ⟨rfl,l1,b,hord,rfl,hat,hlen,hlk,hll,hsk⟩
  have mx:x∈ord:=by refine a5 hord ?_;exact jv7 _ jv0
  refine oE (W.known x mx) fun g hg=>?_
  refine oA (w2 hg) fun mg hgx=>?_
  refine Op.lift (m:=1) (I7 W hg ?_) (by exact d6 [_] 1 (.num 20) zA nA zA tT hm)
  refine ⟨fun e=>?_,fun e=>?_⟩
  ·have e:=p7 e
   refine Op.lift (m:=1) (jk3 hg B.h64 B.lk B.tnd B.shm B.tsd hdf ?_) (by exact d6 [_] 1 (.num 20) zA nA zA tT hm)
   obtain ⟨pe,pm,hp⟩:∃ pe pm,J9 T df ts lined g=(pe,pm):=⟨_,_,rfl⟩
   have hpm:=B.lotE g mg
   rw [hp] at hpm ⊢
   obtain ⟨k,rfl⟩:∃ k:Nat,pm=k:=⟨pm.toNat,by lia⟩
   have ho1:l1.length≤50:=by have:=B.olen;rw [hord] at this;simp at this;exact d6 [_,_] 1 (.add zA (.add zB nA)) (.num 50) zA (.num 50) tT this
   have hln:((a6 b.names).map V.dat).length=b.names.length:=by rw [jv1,a6,jv1]
   refine j7 (x4 4 rfl) (by refine a5 hln ?_;exact i5 [_,_] 9 zA (.num 50) 1 zB (.mulL 9 zA) (.add zB nA) (.num 4611686018427387904) tT ho1 hlen) ?_
   refine j7 (x4 4 rfl) (by refine a5 hln ?_;exact i5 [_,_] 9 zA (.num 50) 1 zB (.mulL 9 zA) (.add zB nA) (.num 4611686018427387904) tT ho1 hlen) ?_
   refine a5 hln ?_
   refine bj7 ?_
   refine gx2 (by lia) (by exact li2 [_,_] 9 zA (.num 50) 1 zB (.mulL 9 zA) zB (.num 1000000) tT (ic ho1) (ic hlen)) (by lia) (by exact li3 [_,_,_] 9 zA (.num 50) 1 zB (.num 9) 1 zC (.mulL 9 zA) (.add zC zB) (.num 1000000) tT (ic ho1) hpm.2 (ic hlen)) ?_
   have er:PyData.list ((Qg (((b.names.length:Nat):Int)+(k:Int) - ((b.names.length:Nat):Int)).toNat).map fun (i:Nat)=>.int (((b.names.length:Nat):Int)+i))=K0 (E6 b.names.length k):=by
    delta K0 E6
    refine a5 (show (((b.names.length:Nat):Int)+(k:Int) - ((b.names.length:Nat):Int)).toNat=k by lia) (a5 jw5 ?_)
    congr 1
   refine a5 er ?_
   have hlo:J8 T df ts lined x=(pe,(k:Int)):=by unfold J8;refine a5 hg ?_;exact hp
   have hnl:x∉l1:=fun h=>by
    have:=B.ond
    rw [hord,kq9] at this
    exact this.2.2 x h x (jv0 ..) rfl
   have ek:∀ l:List (Str × List Int),(f6 l).map (·.1)=l.map (·.1):=fun l=>by unfold f6;refine a5 jw5 ?_;rfl
   have hl0:(f6 b.lots).lookup x=none:=s9 (by refine a5 (ek ..) ?_;exact fun h=>hnl (hlk x h))
   have hs0:(f6 b.sure).lookup x=none:=s9 (by refine a5 (ek ..) (a5 (hsk ..) ?_);exact fun h=>hnl (hlk x h))
   have hsl:b.sure.length=b.lots.length:=by have:=congrArg List.length hsk;rwa [jv1,jv1] at this
   have hel:∀ l:List (Str × List Int),(f6 l).length=l.length:=fun l=>by unfold f6;exact a5 (jv1 ..) rfl
   refine u6 (i:=3) rfl (by refine a5 (hel ..) ?_;exact i5 [_,_] 1 zA (.num 50) 1 zB zA zB (.num 1000000) tT ho1 hll) ?_
   refine a5 (F5 hl0) ?_
   have fin:∀ {H2:HL} {ρ2:c8},H2=at5 D1 D2 D3 D4 D5 (b.put x (pe,k)) [] [] H→G7 ρ2 (aq6 T ord tp df0 ts lined a low up (.ref D1) (.ref D2) (.ref D3) D4 D5)→∃ ρ',Keeps' ρ' ρ2∧ρ'=aq6 T ord tp df0 ts lined a low up (.ref D1) (.ref D2) (.ref D3) D4 D5 ∧
     ∃ l2 b',ord=l2++l∧H2=at5 D1 D2 D3 D4 D5 b' [] [] H∧l9 T tp df ts lined l b'=a∧b'.names.length≤9 * l2.length∧(∀ x∈b'.lots.map (·.1),x∈l2)∧b'.lots.length≤l2.length∧b'.sure.map (·.1)=b'.lots.map (·.1):=fun {H2 ρ2} eh kk=>by
    refine ⟨_,.all kk,rfl,l1++[x],b.put x (pe,k),by refine a5 hord ?_;simp,eh,?_,?_,?_,?_,?_⟩
    ·rw [← hat];dsimp only [l9];rw [if_pos e,hlo]
    ·simp [At.put];lia
    ·intro y hy
     simp only [At.put,kq0,jw1,kx1,List.map_nil,jv4] at hy
     rcases hy with hy | rfl
     ·exact jv8 _ (hlk y hy)
     ·exact jv7 _ jv0
    ·simp [At.put];exact hll
    ·simp [At.put,hsk]
   refine ⟨fun e3=>g9 (x5 3 rfl) (x:=K0 (E6 b.names.length k)) ?_ ?_,fun e3=>.inl ?_⟩
   ·show (f6 b.lots++[(x,K0 (E6 b.names.length k))]).lookup x=_
    refine a5 mq1 (a5 hl0 ?_)
    simp
   all_goals
    refine u6 (i:=2) rfl (by refine a5 (hel ..) ?_;exact T5 [_,_,_] 1 zA zB 1 zC (.num 50) 1 zB zC zA (.num 1000000) tT (o7 hsl) ho1 hll) ?_
    refine a5 (F5 hs0) ?_
    refine ax5 4 rfl ?_
    refine r7 ?_
    refine ⟨_,_,.same,m6 (by lia) (by exact li0 [] (.num 0) (.num 1000000) tT) (by lia) (by refine (?_:(k:Int)≤_);lia),by simp [E7];lia,?_⟩
    refine d4 (fun j:Nat=>V.dat (.int (0+j))) (Qg k) (fun j=>some (.str (T6 x j))) (by rfl) (by kernel_rfl) (fun j hj=>?_) ?_
    ·refine ⟨.new rfl,⟨fun u_=>?_,nt⟩⟩
     have hj':j<k:=kx9.mp hj
     have hs:=W.small _ _ hg
     have a1:=n9 hs (sle (s:=("$":Str)) (by kernel_rfl))
     have a2:=n9 a1 (J4 (i:=0+(j:Int)) (by exact F0 [_] 1 (.num 0) zA (.num 0) (.add (.num 0) zA) tT (kx2 _)) (by lia))
     rw [Str.length_append] at a1 a2
     refine ⟨jw9 a1 (by exact (jv2 tT)),cq0 (by lia) ?_⟩
     refine ⟨jw9 a2 (by exact (jv2 tT)),rfl,_,rfl,?_⟩
     refine a5 (kw5 ..) ?_;rfl
    refine ⟨rfl,.inl ?_⟩
    refine aq9 (i:=4) rfl (by simp [a6];lia) ?_
    have e3:pe=_:=e3
    exact hN _ _ _ <| fin (by simp [at5,At.put,e3,f6,a6,K0];try rfl) ⟨rfl,rfl,rfl,rfl,rfl,rfl,rfl,rfl,rfl,rfl,rfl,rfl,rfl,trivial⟩
  ·exact hN _ _ _ ⟨_,.all (ρ:=aq6 T ord tp df0 ts lined a low up (.ref D1) (.ref D2) (.ref D3) D4 D5) ⟨rfl,rfl,rfl,rfl,rfl,rfl,rfl,rfl,rfl,rfl,rfl,rfl,rfl,trivial⟩,rfl,l1++[x],b,by refine a5 hord ?_;simp,rfl,by rw [← hat];dsimp only [l9];rw [if_neg (r8 e)],by refine a5 jw8 ?_;exact d6 [_,_,_] 1 zA (.mulL 9 zB) zA (.mulL 9 (.add zB zC)) tT hlen,fun y hy=>jv8 _ (hlk y hy),by refine a5 jw8 ?_;exact d6 [_,_,_] 1 zA zB zA (.add zB zC) tT hll,hsk⟩
 ·rintro ρ1 H1 ⟨rfl,l1,b,hord,rfl,hat,_⟩
  have e:b=a:=hat
  subst e
  have hpm:(at5 D1 D2 D3 D4 D5 b [] [] H).Perm ([(D3,.dct (f6 b.sure)),(D2,.dct (f6 b.lots)),(D1,.lst (a6 b.names))]++((D5,.lst [])::(D4,.lst [])::H)):=by
   refine (?_:([(D5,O.lst []),(D4,O.lst [])]++[(D3,O.dct (f6 b.sure)),(D2,O.dct (f6 b.lots)),(D1,O.lst (a6 b.names))]++H).Perm ([(D3,O.dct (f6 b.sure)),(D2,O.dct (f6 b.lots)),(D1,O.lst (a6 b.names))]++[(D5,O.lst []),(D4,O.lst [])]++H))
   exact mk7.append_right H
  refine W0 hpm (ak8 (ρ1:=aq6 T ord tp df0 ts lined b low up (.dat (.list (a6 b.names))) (.dct (f6 b.lots)) (.dct (f6 b.sure)) D4 D5)
   (bq6 ⟨⟨_,rfl,.same⟩,⟨_,rfl,.same⟩,⟨_,rfl,.dct (jv0 ..)⟩,⟨_,rfl,.dct (jv3 _ (jv0 ..))⟩,⟨_,rfl,.lst (jv3 _ (jv3 _ (jv0 ..)))⟩,⟨_,rfl,.same⟩,⟨_,rfl,.same⟩,⟨_,rfl,.same⟩,⟨_,rfl,.same⟩,⟨_,rfl,.same⟩,⟨_,rfl,.same⟩,⟨_,rfl,.same⟩,⟨_,rfl,.same⟩,trivial⟩) (f9 gs ?_))
  refine ⟨_,b0,?_⟩
  refine j8 gs u8 ord (fun l ρ H'=>ρ=aq6 T ord tp df0 ts lined b low up (.dat (.list (a6 b.names))) (.dct (f6 b.lots)) (.dct (f6 b.sure)) D4 D5∧∃ l1,ord=l1++l∧H'=(D5,.lst (t8 tp ts l1))::(D4,.lst (q8 low up l1))::H) i6 ?_ ?_ ?_
  ·exact ⟨rfl,[],rfl,rfl⟩
  ·rintro N hN hE y l ρ1 H1 ⟨rfl,l1,hord,rfl⟩
   have my:y∈ord:=by refine a5 hord ?_;exact jv7 _ jv0
   refine oE (W.known y my) fun g hg=>?_
   refine Op.lift (m:=0+5+9) (bx5 W B.U B.sup 9 hg (B.rkE y g hg) ?_) (by exact d6 [_] 1 (.num 20) zA (.num 14) zA tT hm)
   refine dk2 g7 ?_
   refine .inl ?_
   refine dz9 g7 (rv:=.dat (K0 (low y))) ?_ ?_
   ·unfold fq9
    refine a5 I1 (p8 (B.lowE y g hg) ?_)
    cases b.sure.lookup y <;> rfl
   refine ⟨rfl,?_⟩
   refine i4 1 rfl ?_
   have lu:(up y).length≤20:=z9 (lo:=0) (B.U.asc y g hg) fun i m=>by have:=B.U.rng y g hg i m;exact ⟨F0 [_] 1 (.num 0) zA (.num 0) zA tT this.1,F0 [_] 1 (.add zA nA) (.num 20) (.add zA nA) (.add (.num 0) (.num 20)) tT this.2⟩
   have ll:(low y).length≤20:=z9 (lo:=0) (B.lowU y g hg).2 fun i m=>by have:=B.U.rng y g hg i ((B.lowU y g hg).1 i m);exact ⟨F0 [_] 1 (.num 0) zA (.num 0) zA tT this.1,F0 [_] 1 (.add zA nA) (.num 20) (.add zA nA) (.add (.num 0) (.num 20)) tT this.2⟩
   refine ⟨_,_,.same,b0,by refine a5 (jv1 ..) (a5 (jv1 ..) ?_);exact ul ll tT,?_⟩
   refine d4 (fun i:Int=>V.dat (.int i)) (low y) (fun i=>some (w0 [i])) (by refine a5 jw5 ?_;rfl) (by kernel_rfl) (fun i hi=>⟨.new rfl,⟨fun u_=>⟨rfl,_,rfl,rfl⟩,nt⟩⟩) ?_
   refine ⟨rfl,.inl ?_⟩
   refine r6 l8 (by refine a5 (kx5 ..) (a5 (jv1 ..) ?_);exact ul ll tT) ?_
   refine ⟨_,_,.same,b0,by refine a5 (jv1 ..) (a5 (jv1 ..) ?_);exact ul lu tT,?_⟩
   refine d4 (fun i:Int=>V.dat (.int i)) (up y) (fun i=>some (w0 [i])) (by refine a5 jw5 ?_;rfl) (by kernel_rfl) (fun i hi=>⟨.new rfl,⟨fun u_=>⟨rfl,_,rfl,rfl⟩,nt⟩⟩) ?_
   refine ⟨rfl,.inl ?_⟩
   refine r6 l8 (by refine a5 (kx5 ..) (a5 (jv1 ..) ?_);exact ul lu tT) ?_
   have eo:∀ l:List Int,(l.filterMap fun i=>some (w0 [i]))=(R2 l).map w0:=fun l=>by rw [kx5,R2,jw5];rfl
   refine a5 (eo ..) (a5 (eo ..) ?_)
   have hl1:l1.length≤50:=by have:=B.olen;rw [hord] at this;simp at this;exact d6 [_,_] 1 (.add zA (.add zB nA)) (.num 50) zA (.num 50) tT this
   refine g5 (i:=1) rfl (by unfold q8;refine a5 (jv1 ..) ?_;exact ul hl1 tT) ?_
   have eb:q8 low up l1++[M2 y 1 (R2 (low y)) (R2 (up y))]=q8 low up (l1++[y]):=by unfold q8;refine a5 kq0 ?_;rfl
   have elb:(q8 low up (l1++[y])).length=l1.length+1:=by unfold q8;refine a5 (jv1 ..) (a5 (jw8 ..) ?_);rfl
   refine ⟨_,d9 rfl,?_⟩
   refine j8 gs (fun t:Told=>V.dat t.d) ts (fun l' ρ H'=>ρ=rhoU up low y (aq6 T ord tp df0 ts lined b low up (.dat (.list (a6 b.names))) (.dct (f6 b.lots)) (.dct (f6 b.sure)) D4 D5) ∧
    ∃ t1,ts=t1++l'∧H'=(D5,.lst (t8 tp ts l1++cx0 tp t1 y l1.length))::(D4,.lst (q8 low up (l1++[y])))::H) (by refine a5 jw5 ?_;rfl) ?_ ?_ ?_
   ·exact ⟨rfl,[],rfl,by refine p8 eb ?_;exact congrArg (fun z=>(D5,O.lst z)::_) (kq4 _).symm⟩
   ·rintro N2 hN2 hE2 t l' ρ2 H2 ⟨rfl,t1,hts,rfl⟩
    have keep:∀ {ρ3:c8} {labs:List PyData},cx0 tp (t1++[t]) y l1.length=labs→G7 ρ3 (rhoU up low y (aq6 T ord tp df0 ts lined b low up (.dat (.list (a6 b.names))) (.dct (f6 b.lots)) (.dct (f6 b.sure)) D4 D5))→∃ ρ',Keeps' ρ' ρ3∧ρ'=rhoU up low y (aq6 T ord tp df0 ts lined b low up (.dat (.list (a6 b.names))) (.dct (f6 b.lots)) (.dct (f6 b.sure)) D4 D5) ∧
      ∃ t2,ts=t2++l'∧((D5,O.lst (t8 tp ts l1++labs))::(D4,O.lst (q8 low up (l1++[y])))::H)=(D5,.lst (t8 tp ts l1++cx0 tp t2 y l1.length))::(D4,.lst (q8 low up (l1++[y])))::H :=
     fun {ρ3 labs} e k=>⟨_,.all k,rfl,t1++[t],by refine a5 hts ?_;simp,by exact a5 e rfl⟩
    have hno:t.sig=y→p9 t1 y=none:=fun e=>ez3 fun mm=>by
     have:=B.tsd
     rw [hts,kq0,kq9] at this
     exact this.2.2 _ mm t.sig (jv0 ..) e.symm
    refine ⟨fun e1=>Op.lift (m:=1) (I7 W hg ⟨fun e2=>⟨fun u_=>?_,nt⟩,fun e2=>⟨nb,fun u_=>hN2 _ _ _ <| keep ?_ ⟨rfl,rfl,rfl,rfl,rfl,rfl,rfl,rfl,rfl,rfl,rfl,rfl,rfl,rfl,rfl,rfl,trivial⟩⟩⟩) (by exact d6 [_] 1 (.num 20) zA nA zA tT hm),fun e1=>⟨nb,fun u_=>hN2 _ _ _ <| keep ?_ ⟨rfl,rfl,rfl,rfl,rfl,rfl,rfl,rfl,rfl,rfl,rfl,rfl,rfl,rfl,rfl,rfl,trivial⟩⟩⟩
    ·have e1:=p7 e1
     have e2:=G3 e2
     have e0:cx0 tp t1 y l1.length=[]:=by unfold cx0;refine a5 (hno e1) ?_;rfl
     have e9:cx0 tp (t1++[t]) y l1.length=[bq2 y (z8 t (l1.length:Nat))]:=by
      unfold cx0
      refine a5 Y4 (a5 (hno e1) (a5 (if_pos e1) ?_))
      refine (?_:((if tp y=y then none else some (bq2 y (z8 t (l1.length:Nat)))):Option PyData).toList=_)
      refine a5 (if_neg e2) ?_;rfl
     refine a5 (e0 ..) (a5 (kq4 ..) ?_)
     have hlab:(t8 tp ts l1).length≤l1.length:=jw9 (mj7 ..) (by refine a5 mq2 ?_;exact jw4 _)
     have hs:=W.small _ _ hg
     have a1:=n9 (sle (s:=("scope ":Str)) (by kernel_rfl)) hs
     rw [Str.length_append] at a1
     have fin:∀ op:Str,op=(if t.ex=true then ("eq":Str) else ("le":Str))→z8 t (l1.length:Nat)=.tuple [.str op,.tuple [.str "count",.tuple [.str "rel",.int ((((q8 low up (l1++[y])).map V.dat).length:Int) - 1)]],.tuple [.str "num",.int t.num]]:=by
      rintro op rfl
      refine a5 (jv1 ..) (a5 (elb ..) ?_)
      unfold z8
      exact a5 (show (((l1.length+1:Nat):Int) - 1)=(l1.length:Nat) by lia) rfl
     refine ⟨fun e3=>?_,fun e3=>?_⟩
     all_goals
      refine i4 0 rfl ?_
      refine ⟨jw9 a1 (by exact (jv2 tT)),?_⟩
      refine j7 (x4 1 rfl) (by refine a5 (jv1 ..) (a5 (elb ..) ?_);exact d6 [_] 1 zA (.num 50) (.add (.add zA nA) nA) (.num 4611686018427387904) tT hl1) ?_
      refine g5 (i:=0) rfl (by exact i5 [_,_] 1 zA zB 1 zB (.num 50) zA (.num 1000000) tT hlab hl1) ?_
      refine hN2 _ _ _ <| keep (e9.trans ?_) ⟨rfl,rfl,rfl,rfl,rfl,rfl,rfl,rfl,rfl,rfl,rfl,rfl,rfl,rfl,rfl,rfl,trivial⟩
      refine a5 (fin _ (by exact a5 e3 rfl)) ?_;rfl
    ·unfold cx0
     have e2:=I5 e2
     refine a5 Y4 ?_
     cases p9 t1 y <;> cases (if t.sig=y then some t else none) <;> simp [e2]
    ·unfold cx0
     exact a5 Y4 (a5 (if_neg (r8 e1)) (a5 Option.or_none rfl))
   ·rintro ρ2 H2 ⟨rfl,t1,hts,rfl⟩
    rw [kq4] at hts
    subst hts
    refine f9 gs ?_
    exact hN _ _ _ ⟨_,.all (ρ:=aq6 T ord tp df0 ts lined b low up (.dat (.list (a6 b.names))) (.dct (f6 b.lots)) (.dct (f6 b.sure)) D4 D5) ⟨rfl,rfl,rfl,rfl,rfl,rfl,rfl,rfl,rfl,rfl,rfl,rfl,rfl,trivial⟩,rfl,l1++[y],by refine a5 hord ?_;simp,by refine a5 (bk2 ..) ?_;rfl⟩
  ·rintro ρ1 H1 ⟨rfl,l1,hord,rfl⟩
   rw [kq4] at hord
   subst hord
   refine f9 gs ?_
   have fin:∀ {bs},bs=q8 low up ord++M6 up lined→TS PW w hb (U6 (j4 39)) m X (aq6 T ord tp df0 ts lined b low up (.dat (.list (a6 b.names))) (.dct (f6 b.lots)) (.dct (f6 b.sure)) D4 D5) ((u7 (j4 39)).drop 5) ((D5,.lst (t8 tp ts ord))::(D4,.lst bs)::H) (aj2 fun d H'=>∃ Hs H0 d',H'=Hs++H0∧Fz Hs d d'∧Q d' H0):=by
    intro bs hbs
    refine ak8 (Hs:=[(D5,O.lst (t8 tp ts ord)),(D4,O.lst bs)]) (H0:=H) (ρ1:=[(st "formulas",.dat (.list (t8 tp ts ord))),(st "due",.dat (.list bs)),(st "atoms",.dat (.list (a6 b.names))),(st "labelled",.dat (.list (t8 tp ts ord))),(st "numbers",.dct (g4 ord++ax0 ord.length lined)),(st "bounds",dq4 b.names (q8 low up ord++M6 up lined) (g4 ord++ax0 ord.length lined))])
     (bq6 ⟨⟨_,rfl,.lst (jv0 ..)⟩,⟨_,rfl,.lst (jv3 _ (jv0 ..))⟩,⟨_,rfl,.same⟩,⟨_,rfl,.same⟩,⟨_,rfl,.same⟩,⟨_,rfl,.same⟩,trivial⟩) (f9 gs ?_)
    refine p8 (hbs ..) (p8 (gx8 ..) ?_)
    have hlen:bs.length=(ord++V0 lined).length:=by exact a5 (hbs ..) (a5 (hq9 ..) rfl)
    have hl51:(ord++V0 lined).length≤51:=by
     have:=B.olen
     refine a5 jw8 ?_
     cases lined <;> simp [V0] <;> lia
    have rg:∀ k:Nat,E7 0 (k:Int)=(Qg k).map fun (j:Nat)=>V.dat (.int (0+j)):=fun k=>by rfl
    refine j0 aj1 rfl ?_
    refine Op.lift (m:=1) (iz7 (by exact i5 [_,_] 1 zA (.num 51) 1 zB zA zB (.num 1000) tT hl51 (o7 hlen)) ?_) (by exact d6 [_] 1 (.num 20) zA nA zA tT hm)
    refine r7 ?_
    refine ⟨_,_,.same,m6 (by lia) (by exact li0 [] (.num 0) (.num 1000000) tT) (by lia) (by exact li2 [_,_] 1 zA (.num 51) 1 zB zA zB (.num 1000000) tT (ic hl51) (ic (o7 hlen))),by refine a5 (rg ..) (a5 (jv1 ..) (a5 (kz9 ..) ?_));exact i5 [_,_] 1 zA (.num 51) 1 zB zA zB (.num 1000000) tT hl51 (o7 hlen),?_⟩
    refine d4 (fun j:Nat=>V.dat (.int (0+j))) (Qg bs.length) (fun j=>bs[j]?) (rg _) (by kernel_rfl) (fun j hj=>?_) ?_
    ·refine ⟨.new rfl,⟨fun u_=>?_,nt⟩⟩
     refine a5 (kw5 ..) ?_
     have e:=jw0 (kx9.mp hj)
     refine j0 aj1 rfl ?_
     exact Op.lift (m:=1) (hq5 (by exact i5 [_,_] 1 zA (.num 51) 1 zB zA zB (.num 1000) tT hl51 (o7 hlen)) e ⟨rfl,_,rfl,e⟩) (by exact d6 [_] 1 (.num 20) zA nA zA tT hm)
    refine ⟨rfl,.inl ?_⟩
    refine a5 (P7 ..) ?_
    have same:∀ {k:Nat} {x:PyData} {Q':VP} {H':HL},Sh k x→(k≤64)→Q' (.dat (.bool false)) H'→Op PW w hb m X (RepV PW w) (G0 (compareOp .NotEq)) [.dat x,.dat x] H' Q':=fun {k x Q' H'} s hk q'=>by
     refine X4 (s.shaped hk) (s.shaped hk) ?_
     refine a5 (SeqAt.eqv_refl _ s.1) ?_
     exact q'
    have shE:∀ z∈bs,Sh 3 z:=fun z hz=>by
     obtain ⟨j,hj,e⟩:=lx0 hz
     have h1:j<(ord++V0 lined).length:=by refine p8 hlen ?_;exact hj
     refine ck6 (iv5 low up ord lined (jw0 h1)) fun r ks ts' h2=>?_
     rw [← hbs,jw0 hj,e] at h2
     (injection h2 with i;subst i)
     refine fw1 ?_
     have:=kw6 h1
     refine Qa (jw1.mp this) (fun m=>?_) fun m=>?_
     ·exact (B.shl _ m).1
     ·induction lined using Qd with
      | none=>exact nomatch (show _∈([]:List Str) from m)
      | some s=>refine a5 (jv4.mp m) ?_;exact ⟨by kernel_rfl,jw4 0⟩
    refine same (Sh.list shE) (by exact (jv2 tT)) ?_
    refine ⟨fun u_=>?_,nb⟩
    have shL:∀ z∈t8 tp ts ord,Sh 4 z:=fun z hz=>by
     refine c9 (lq0.mp hz) fun p hp e=>?_
     obtain ⟨t,_,e⟩:=lk4.mp e
     split at e
     ·exact nn e
     ·(injection e with i;subst i)
      exact jq1 (B.shl _ (kz2 (mx2.mp hp))).2
    refine same (Sh.list shL) (by exact (jv2 tT)) ?_
    refine ⟨fun u_=>?_,nb⟩
    refine ⟨nb,fun u_=>?_⟩
    have ebl:((bs.map V.dat).length)=bs.length:=jv1 ..
    refine j7 d5 (by refine a5 ebl ?_;exact i5 [_,_] 1 zA (.num 51) 1 zB zA (.add zB nA) (.num 4611686018427387904) tT hl51 (o7 hlen)) ?_
    refine a5 ebl ?_
    refine r7 ?_
    refine ⟨_,_,.same,m6 (by lia) (by exact li0 [] (.num 0) (.num 1000000) tT) (by lia) (by exact li2 [_,_] 1 zA (.num 51) 1 zB zA zB (.num 1000000) tT (ic hl51) (ic (o7 hlen))),by refine a5 (rg ..) (a5 (jv1 ..) (a5 (kz9 ..) ?_));exact i5 [_,_] 1 zA (.num 51) 1 zB zA zB (.num 1000000) tT hl51 (o7 hlen),?_⟩
    refine d4 (fun j:Nat=>V.dat (.int (0+j))) (Qg bs.length) (fun j=>((ord++V0 lined)[j]?).map fun x=>.tuple [.str x,.int (j:Nat)]) (rg _) (by kernel_rfl) (fun j hj=>?_) ?_
    ·have hj:=kx9.mp hj
     have h1:j<(ord++V0 lined).length:=by refine p8 hlen ?_;exact hj
     refine ck6 (iv5 low up ord lined (jw0 h1)) fun r ks ts' h2=>?_
     rw [← hbs] at h2
     refine ⟨.new rfl,⟨fun u_=>?_,nt⟩⟩
     refine a5 (kw5 ..) ?_
     refine o8 (k:=j) (d5) rfl (by exact i5 [_,_] 1 (.add zA nA) zB 1 zB (.num 51) zA (.num 1000000) tT h1 hl51) (by refine a5 (jw7) (a5 h2 ?_);rfl) ?_
     refine ⟨rfl,_,rfl,?_⟩
     refine a5 (jw0 h1) ?_;rfl
    refine ⟨rfl,.inr fun D6=>?_⟩
    have ekv:((Qg bs.length).filterMap fun j=>((ord++V0 lined)[j]?).map fun x=>PyData.tuple [.str x,.int (j:Nat)])=(g4 (ord++V0 lined)).map fun p=>.tuple [.str p.1,p.2]:=by
     rw [hlen,ev1 _ fun x j=>PyData.tuple [.str x,.int (j:Nat)],g4,jw5]
     rfl
    have hnd:((g4 (ord++V0 lined)).map (·.1)).Nodup:=by
     refine a5 (E2 ..) ?_
     induction lined using Qd with
     | none=>refine (?_:(ord++[]).Nodup);refine a5 (kq4 ..) ?_;exact B.ond
     | some s=>exact kq9.mpr ⟨B.ond,by simp [V0],fun x hx y hy e=>B.ono (by refine p8 (jv4.mp hy) (p8 e ?_);exact hx)⟩
    refine X5 (i:=0) (kvs:=g4 (ord++V0 lined)) (by refine p8 ekv ?_;rfl) (by refine a5 (x8 ..) ?_;exact ul hl51 tT) ?_
    refine a5 (Q2 hnd) ?_
    refine jq6 (fun p hp=>?_) hnd g7 g7 ?_
    ·obtain ⟨q,_,rfl⟩:=jv9.mp hp
     exact ⟨_,rfl⟩
    refine ⟨nb,fun u_=>?_⟩
    refine a9 aj1 rfl rfl ?_
    refine j0 cz9 rfl ?_
    refine Op.lift (m:=1) (bk9 B.nlen ?_) (by exact d6 [_] 1 (.num 20) zA nA zA tT hm)
    refine r7 ?_
    have hnl:=B.nlen
    refine ⟨_,_,.same,m6 (by lia) (by exact li0 [] (.num 0) (.num 1000000) tT) (by lia) (by exact F0 [_] 1 zA (.num 1000) zA (.num 1000000) tT (ic hnl)),by refine a5 (rg ..) (a5 (jv1 ..) (a5 (kz9 ..) ?_));exact ul hnl tT,?_⟩
    refine d4 (fun j:Nat=>V.dat (.int (0+j))) (Qg b.names.length) (fun j=>(b.names[j]?).map fun x=>.str x) (rg _) (by kernel_rfl) (fun j hj=>?_) ?_
    ·refine ⟨.new rfl,⟨fun u_=>?_,nt⟩⟩
     refine a5 (kw5 ..) ?_
     have e:=jw0 (kx9.mp hj)
     refine a9 aj1 rfl rfl ?_
     refine j0 cz9 rfl ?_
     exact Op.lift (m:=1) (fz3 B.nlen e ⟨rfl,_,rfl,by refine a5 e ?_;rfl⟩) (by exact d6 [_] 1 (.num 20) zA nA zA tT hm)
    refine ⟨rfl,.inl ?_⟩
    have enm:((Qg b.names.length).filterMap fun j=>(b.names[j]?).map fun x=>PyData.str x)=a6 b.names:=by
     have h:=congrArg (List.map PyData.str) (P7 b.names)
     rw [lj4] at h
     exact h
    refine a5 enm ?_
    have shN:Sh 1 (.list (a6 b.names)):=Sh.list fun z hz=>by
     (refine c9 (jv9.mp hz) ?_;rintro x hx rfl)
     exact B.shn x hx
    refine az6 shN.shaped shN.shaped ?_
    refine a5 (SeqAt.eqv_refl _ shN.1) ?_
    exact ⟨[_],H,_,rfl,.same,q⟩
   refine ⟨_,b0,?_⟩
   induction lined using Qd with
   | none=>exact q9 gs u8 [] rfl (fun N hN E d hd=>absurd hd kq8) (fin (kq4 _).symm)
   | some s =>
    obtain ⟨⟨g,hg⟩,hup⟩:=B.nxt s rfl
    have et:=hl2 s rfl
    have hms:=W.mem s g hg
    have hlk:=(B.U.top s g hg (by refine a5 et ?_;exact B.nempty s hms)).2
    rw [et] at hlk
    have lu:(up s).length≤20:=z9 (lo:=0) (B.U.asc s g hg) fun i m=>by have:=B.U.rng s g hg i m;exact ⟨F0 [_] 1 (.num 0) zA (.num 0) zA tT this.1,F0 [_] 1 (.add zA nA) (.num 20) (.add zA nA) (.add (.num 0) (.num 20)) tT this.2⟩
    refine j8 gs u8 [s] (fun l ρ H'=>ρ=aq6 T ord tp df0 ts (some s) b low up (.dat (.list (a6 b.names))) (.dct (f6 b.lots)) (.dct (f6 b.sure)) D4 D5∧((l=[s]∧H'=(D5,.lst (t8 tp ts ord))::(D4,.lst (q8 low up ord))::H)∨(l=[]∧H'=(D5,.lst (t8 tp ts ord))::(D4,.lst (q8 low up ord++M6 up (some s)))::H))) rfl ?_ ?_ ?_
    ·exact ⟨rfl,.inl ⟨rfl,rfl⟩⟩
    ·rintro N hN hE y l ρ1 H1 ⟨rfl,⟨h,rfl⟩ | ⟨h,_⟩⟩
     ·cases h
      refine g9 g7 (I1.trans (congrArg _ hlk)) ?_
      refine ⟨nn,⟨by refine a5 (jv1 ..) ?_;exact ul lu tT,?_⟩⟩
      have epk:F3 ((up s).map PyData.int) none (some (-1)) none=(up s).dropLast.map .int:=(ev5 _).trans mq8.symm
      refine a5 epk ?_
      refine ⟨_,_,.same,b0,by refine a5 (jv1 ..) (a5 (jv1 ..) (a5 (lw0 ..) ?_));exact i5 [_,_] 1 zA (.num 20) 1 zB zA zB (.num 1000000) tT lu (kj7 _ _),?_⟩
      refine d4 (fun i:Int=>V.dat (.int i)) (up s).dropLast (fun i=>some (w0 [i,i+1])) (by refine a5 jw5 ?_;rfl) (by kernel_rfl) (fun i hi=>⟨.new rfl,⟨fun u_=>⟨rfl,_,rfl,rfl⟩,nt⟩⟩) ?_
      refine ⟨rfl,.inl ?_⟩
      refine a5 kx5 (a5 (show ((up s).dropLast.map fun i=>w0 [i,i+1])=(R9 (up s)).map w0 by rw [R9,jw5];rfl) ?_)
      refine r6 l8 (by rw [jv1,R9,jv1,lw0];exact i5 [_,_] 1 zA (.num 20) 1 zB zA zB (.num 1000000) tT lu (kj7 _ _)) ?_
      refine i4 1 rfl ?_
      have hol:=B.olen
      refine g5 (i:=1) rfl (by unfold q8;refine a5 (jv1 ..) ?_;exact ul hol tT) ?_
      exact hN _ _ _ ⟨_,.all (ρ:=aq6 T ord tp df0 ts (some s) b low up (.dat (.list (a6 b.names))) (.dct (f6 b.lots)) (.dct (f6 b.sure)) D4 D5) ⟨rfl,rfl,rfl,rfl,rfl,rfl,rfl,rfl,rfl,rfl,rfl,rfl,rfl,trivial⟩,rfl,.inr ⟨rfl,rfl⟩⟩
     ·cases h
    ·rintro ρ1 H1 ⟨rfl,⟨h,_⟩ | ⟨_,rfl⟩⟩
     ·cases h
     ·exact fin rfl
end
end
section
section
variable {pG:Program} {w:World} {hb:Heap} {n m:Nat} {X:Xs} {H:HL}
set_option tactic.hygienic true in
theorem gj3 {kvs:List (Str × PyData)}:R4 pG w hb n (.dct kvs) H H (kvs.map fun p=>.dat (.str p.1)):=by
 intro A Z s xv R E rm y r k
 obtain ⟨a,es,rfl,h1,h2,h3⟩:=r.inv
 obtain ⟨o,es',ep,e1,e2,e3,e4,e5,e6⟩:=h1
 refine oA (c7 e1) fun g1 nz=>?_
 have D:s.heap.DictAt (strKind pG w) a es ep:=⟨o,es',g1,e2,e3,e4,e5,e6⟩
 have hne:a≠s.heap.objs.size:=kz1 (Qi g1)
 have len:(kvs.map fun p=>V.dat (.str p.1)).length=es.length:=by refine a5 (jv1 ..) ?_;exact h2.length.symm
 refine wpAny_pyIter_dict h3 D (k s.heap.objs.size _ _ [a] _ (t7 _ _) (Qf (jw4 _)) ⟨_,Qc _ rfl⟩ ⟨⟨_,len▸Walks.dictKeys rm.handled _ _ hne es ep,fun j v hv=>?_⟩,fun i h hs=>?_⟩ ⟨⟨_,Qc _ rfl,rfl,by refine a5 len ?_;rfl⟩,D.push _⟩ fun b hb=>?_)
 ·refine y9 hv fun kk x hk hv=>?_
  (refine oE (Value.isStrOf_shape hv) ?_;rintro t rfl)
  refine c9 (h2.get' hk) fun q hq hr=>?_
  exact ⟨.dat (.str kk),by refine a5 (jw7) (a5 hq ?_);exact congrArg (fun z=>some (V.dat (.str z))) hr.1.symm,N5 _ _⟩
 ·obtain ⟨⟨o,ho,hc,_⟩,_⟩:=hs
  exact ⟨o,"dict_keyiterator",ho,hc,by rfl⟩
 ·have:b=a:=by simpa using hb
  subst this
  exact ⟨fun q=>nz (y.sub _ q),.inl nz,_,g1⟩
variable {T:List Sg} {ord:List Str} {tp:Str→Str} {df0 df:Int} {ts:List Told} {lined:Option Str} {a:At} {low up:Str→List Int} {rk:Str→Nat} {ops:List PyData}
noncomputable def J3 (tp:Str→Str) (up:Str→List Int) (ord:List Str):List (Str × List Int):=(ord.filter fun x=>decide (tp x=x)).map fun x=>(x,up x)
theorem hj2 (h:ord.Nodup):((J3 tp up ord).map (·.1)).Nodup:=by
 unfold J3
 refine a5 jw5 ?_
 refine (?_:((ord.filter fun x=>decide (tp x=x)).map id).Nodup)
 refine a5 (List.map_id ..) ?_
 exact h.sublist List.filter_sublist
theorem gx9 {l:List Str} {o:Option Str} (hn:l.Nodup) (ho:("o/next":Str)∉l) {x:Str} (hx:x∈l):∃ j:Nat,l[j]?=some x∧(g4 l++ax0 l.length o).lookup x=some (.int (j:Nat)):=by
 obtain ⟨j,hj,e⟩:=lx0 hx
 have e:=(jw0 hj).trans (congrArg some e)
 refine ⟨j,e,?_⟩
 refine a5 mq1 ?_
 have h:(g4 l).lookup x=some (.int (j:Nat)):=eq7 (kvs:=g4 l) (by refine a5 (E2 ..) ?_;exact hn) (p:=(x,.int (j:Nat))) (by
  unfold g4
  exact jv9.mpr ⟨(x,j),mx2.mpr e,rfl⟩)
 refine a5 h ?_;rfl
theorem bs_up {j:Nat} {x:Str} (h:ord[j]?=some x) (o:Option Str):(q8 low up ord++M6 up o)[j]?=some (M2 x 1 (R2 (low x)) (R2 (up x))):=by
 have hj:j<ord.length:=by
  refine Qa (lq7 j ord.length) (fun k=>?_) fun k=>?_
  ·exact k
  ·rw [kz3 k] at h;exact nn h
 unfold q8
 refine a5 (lk0 (by refine a5 (jv1 ..) ?_;exact hj)) (a5 (jw7) (a5 h ?_));rfl
theorem ij0 (h:ord.length≤50):(q8 low up ord++M6 up lined).length≤1000:=by
 refine a5 (hq9 ..) (a5 (jw8 ..) ?_)
 have h2:(V0 lined).length≤1:=by
  induction lined using Qd with
  | none=>exact kx0 _
  | some x=>exact jw4 1
 exact i5 [_,_] 1 zA nA 1 zB (.num 50) (.add zB zA) (.num 1000) tT h2 h
theorem gz6 {kvs:List (Str × List Int)} (h:(kvs.map (·.1)).Nodup) {p:Str × List Int} (m:p∈kvs):kvs.lookup p.1=some p.2:=i7 h m
theorem gw8 {T2:List Sg} {t:Addr} {i k:Nat} {cells:List Nat} {Q:VP} (hm:20≤m) (B:BrW T2 ord tp df ts lined a low up rk) (W1:Wf T ord tp) (U1:UpW T tp (J3 tp up ord) up rk) (U2:UpW T2 tp (J3 tp up ord) up rk) (e:H[i]?=some (t,.dct (k6 cells k))) (hc:cells.length≤1000) (hk:k≤900) (hn:0<ord.length)
  (q:Q (.dat (.bool true)) (H.set i (t,.dct (k6 cells (k+2))))) :
  Op PW w hb (m+1) X (RepV PW w) (fun vs=>call (.ref 645) vs) [.ref t,x7 T ord ops,.dct (i8 T2),.dat (.list (a6 ord)),bz8 a low up ord tp ts lined] H Q:=by
 refine h8 (g8 rfl rfl rfl (names:=[st "tape",st "signatures",st "table",st "names",st "told"]) (by kernel_rfl) rfl (ar5 fun u_ u_ u_ u_ u_=>by kernel_rfl) fun gs=>?_)
 refine ⟨_,_,.same,b0,by rw [jv1,a6,jv1];have:=B.olen;exact ul this tT,?_⟩
 refine d4 u8 ord (fun x=>if tp x=x then some (.tuple [.str x,k7 (up x)]) else none) i6 (by kernel_rfl) (fun x hx=>?_) ?_
 ·refine oE (B.W.known x hx) fun g hg=>?_
  refine c9 (gx9 (o:=lined) B.ond B.ono hx) fun j hj hl=>?_
  refine ⟨.new rfl,Op.lift (m:=1) (I7 B.W hg ?_) (by exact d6 [_] 1 (.num 20) zA nA zA tT hm)⟩
  refine ⟨fun e1=>?_,fun e1=>⟨rfl,if_neg (r8 e1)⟩⟩
  refine j0 aj1 rfl ?_
  refine g9 g7 hl ?_
  refine Op.lift (m:=1) (hq4 (ij0 B.olen) (bs_up hj lined) ?_) (by exact d6 [_] 1 (.num 20) zA nA zA tT hm)
  exact ⟨rfl,_,rfl,(if_pos (p7 e1)).trans (by exact a5 (av7 ..) rfl)⟩
 refine ⟨rfl,.inr fun D=>?_⟩
 have e1:(ord.filterMap fun x=>if tp x=x then some (PyData.tuple [.str x,k7 (up x)]) else none)=(m8 (J3 tp up ord)).map fun p=>.tuple [.str p.1,p.2]:=by
  delta m8 J3
  refine a5 jw5 (a5 jw5 ?_)
  exact Q4
 refine a5 e1 ?_
 have et:(J3 tp up ord).length≤50:=by
  unfold J3
  refine a5 (jv1 ..) ?_
  exact jw9 (kv3 ..) B.olen
 have eN:((J3 tp up ord).map (·.1)).Nodup:=hj2 B.ond
 refine X5 (i:=0) rfl (by rw [m8,jv1];exact ul et tT) ?_
 refine a5 (Q2 (by rw [m8,jw5];exact eN)) ?_
 have q2:0=0:=rfl
 have e2:((D,O.lst ((m8 (J3 tp up ord)).map fun p=>PyData.tuple [.str p.1,p.2]))::H)[i+1]?=some (t,.dct (k6 cells k)):=e
 have lu:∀ x g,c0 T2 x=some g→(up x).length≤20:=fun x g h=>z9 (lo:=0) (B.U.asc x g h) fun i m=>by have:=B.U.rng x g h i m;exact ⟨F0 [_] 1 (.num 0) zA (.num 0) zA tT this.1,F0 [_] 1 (.add zA nA) (.num 20) (.add zA nA) (.add (.num 0) (.num 20)) tT this.2⟩
 have lo:((a6 ord).map V.dat).length=ord.length:=by rw [jv1,a6,jv1]
 have hol:=B.olen
 refine j7 d5 (by refine a5 lo ?_;exact d6 [_] 1 zA (.num 50) (.add zA nA) (.num 4611686018427387904) tT hol) ?_
 refine a5 lo ?_
 refine Op.lift (m:=1) (t6 (i:=i+1) e2 hc (by exact ul hk tT) hn ?_) (by exact d6 [_] 1 (.num 20) zA nA zA tT hm)
 have at1:∀ k:Nat,∃ x g,((a6 ord).map V.dat)[d7 cells k ord.length]?=some (.dat (.str x))∧c0 T x=some g∧rk x≤9∧∃ g2,c0 T2 x=some g2:=fun k=>by
  have h:=o6 (cells:=cells) (k:=k) hn
  refine oE (W1.known _ (kw6 h)) fun g hg=>?_
  refine oE (B.W.known _ (kw6 h)) fun g2 hg2=>?_
  exact ⟨_,g,by rw [jw7,a6,jw7,jw0 h];rfl,hg,B.rkE _ _ hg2,g2,hg2⟩
 refine a8 (at1 k) fun x1 g1 hx1 hg1 y=>V7 y fun hr1 f1 hf1=>?_
 refine a8 (at1 (k+1)) fun x2 g2 hx2 hg2 y=>V7 y fun hr2 f2 hf2=>?_
 refine o8 d5 rfl (by have:=o6 (cells:=cells) (k:=k) hn;exact i5 [_,_] 1 (.add zA nA) zB 1 zB (.num 50) zA (.num 1000000) tT this hol) hx1 ?_
 refine j7 d5 (by refine a5 lo ?_;exact d6 [_] 1 zA (.num 50) (.add zA nA) (.num 4611686018427387904) tT hol) ?_
 refine a5 lo ?_
 refine Op.lift (m:=1) (t6 (i:=i+1) (o0 e2) hc (by exact d6 [_] 1 zA (.num 900) (.add zA nA) (.num 1000) tT hk) hn ?_) (by exact d6 [_] 1 (.num 20) zA nA zA tT hm)
 refine o8 d5 rfl (by have:=o6 (cells:=cells) (k:=k+1) hn;exact i5 [_,_] 1 (.add zA nA) zB 1 zB (.num 50) zA (.num 1000000) tT this hol) hx2 ?_
 refine ⟨_,_,.same,gj3,by rw [jv1,m8,jv1];exact ul et tT,?_⟩
 refine d4 (fun p:Str × List Int=>V.dat (.str p.1)) (J3 tp up ord) (fun p=>some (.tuple [.str p.1,K0 p.2])) (by rw [m8,jw5];rfl) (by kernel_rfl) (fun p hp=>?_) ?_
 ·have hl:=(G2 (l:=J3 tp up ord) (x:=p.1)).trans (congrArg (Option.map k7) (gz6 eN hp))
  refine ⟨.new rfl,⟨fun u_=>?_,nt⟩⟩
  refine g9 g7 hl ?_
  have lp:p.2.length≤1000000:=by
   unfold J3 at hp
   (refine c9 (jv9.mp hp) ?_;rintro x hx rfl)
   refine oE (B.W.known x (kj0.mp hx).1) fun g hg=>?_
   have:=lu x g hg
   refine (?_:(up x).length≤_)
   exact ul this tT
  refine ⟨_,_,.same,d9 rfl,by refine a5 (jv1 ..) (a5 (jv1 ..) ?_);exact lp,?_⟩
  refine d4 (fun i:Int=>V.dat (w0 [i])) p.2 (fun i=>some (.int i)) (by refine a5 jw5 ?_;rfl) (by kernel_rfl) (fun i hi=>⟨.new rfl,⟨fun u_=>⟨rfl,_,rfl,rfl⟩,nt⟩⟩) ?_
  refine ⟨rfl,.inl ?_⟩
  exact ⟨rfl,_,rfl,by refine a5 kx5 ?_;rfl⟩
 refine ⟨rfl,.inr fun D2=>?_⟩
 have e3:((J3 tp up ord).filterMap fun p=>some (PyData.tuple [.str p.1,K0 p.2]))=(f6 (J3 tp up ord)).map fun p=>.tuple [.str p.1,p.2]:=by
  rw [kx5,f6,jw5];rfl
 refine a5 e3 ?_
 refine X5 (i:=0) rfl (by rw [f6,jv1];exact ul et tT) ?_
 refine a5 (Q2 (by rw [f6,jw5];exact eN)) ?_
 refine Op.lift (m:=0+5+9) (bx5 B.W U2 B.sup 9 hf1 hr1 ?_) (by exact d6 [_] 1 (.num 20) zA (.num 14) zA tT hm)
 have l1:=lu x1 f1 hf1
 have l2:=lu x2 f2 hf2
 have l12:(up x1).length * (up x2).length≤400:=mj5 l1 l2
 refine ⟨_,_,.same,b0,by refine a5 (jv1 ..) (a5 (jv1 ..) ?_);exact ul l1 tT,?_⟩
 refine bj4 (fun i:Int=>V.dat (.int i)) (up x1) (fun u_ i=>V.dat (.int i)) (fun u_=>up x2) (fun a b=>w0 [a,b]) (by refine a5 jw5 ?_;rfl) (by kernel_rfl) (fun a ha=>?_) ?_
 ·refine ⟨.new rfl,Op.lift (m:=0+5+9) (bx5 B.W U2 B.sup 9 hf2 hr2 ?_) (by exact d6 [_] 1 (.num 20) zA (.num 14) zA tT hm)⟩
  refine ⟨rfl,?_,by exact ul l2 tT,fun b hb=>⟨.new rfl,⟨fun u_=>⟨rfl,_,rfl,rfl⟩,nt⟩⟩⟩
  have:=fun H=>b0 (pG:=PW) (w:=w) (hb:=hb) (n:=m) (H:=H) (xs:=(up x2).map PyData.int)
  simp only [jw5] at this
  exact this _
 refine ⟨rfl,?_⟩
 refine Op.lift (m:=2) (dq3 rfl ?_) (by exact d6 [_] 1 (.num 20) zA (.num 2) zA tT hm)
 refine j0 R5 rfl ?_
 refine Op.lift (m:=0+5+9+1) (dk6 (r:=9) W1 U1 hg1 hg2 ⟨hr1,hr2⟩ ?_) (by exact d6 [_] 1 (.num 20) zA (.num 15) zA tT hm)
 have ef:PyData.tuple ((up x1).flatMap fun a=>(up x2).map fun b=>w0 [a,b])=v6 ((up x1).flatMap fun a=>(up x2).map fun b=>[a,b]):=by
  unfold v6
  refine a5 nx1 ?_
  simp only [jw5]
  rfl
 have el:((up x1).flatMap fun a=>(up x2).map fun b=>w0 [a,b]).length=(up x1).length * (up x2).length:=by
  refine a5 mv6 ?_
  simp only [jv1,nz3,mk2]
 refine r6 l8 (by refine a5 el ?_;exact ul l12 tT) ?_
 refine a5 ef ?_
 have sh:Sh 2 (v6 ((up x1).flatMap fun a=>(up x2).map fun b=>[a,b])):=Sh.tuple fun z hz=>by obtain ⟨i,_,rfl⟩:=jv9.mp hz;exact fw0 i
 refine az6 (sh.shaped (by exact (jv2 tT))) (sh.shaped (by exact (jv2 tT))) ?_
 refine a5 (SeqAt.eqv_refl _ sh.1) ?_
 exact ⟨[_,_],_,_,rfl,.same,by refine a5 (kz4 ..) ?_;exact q⟩
end
end
section
noncomputable def tN (j:Nat):Str:=("T":Str)++Str.ofString (toString ((0:Int)+(j:Nat)))
noncomputable def bN (j:Nat):Str:=("B":Str)++Str.ofString (toString ((0:Int)+(j:Nat)))
inductive Gen:List Sg→List Str→Nat→Nat→Prop
 | nil:Gen [] [] 0 0
 | top {F ls m} (ab:Bool) (mu:Str):Gen F ls m 0→mu∈(["","one","lone","some"]:List Str)→Gen (F++[⟨tN m,ab,mu,"",[]⟩]) (ls++[tN m]) (m+1) 0
 | line {F ls m j} (mu p:Str):Gen F ls m j→mu∈(["","one","lone","some"]:List Str)→p∈ls→Gen (F++[⟨bN j,false,mu,p,[]⟩]) (ls++[bN j]) m (j+1)
 | part {F ls m j} (mu:Str) (sup:List Str):Gen F ls m j→mu∈(["","one","lone","some"]:List Str)→sup≠[]→sup.length≤2→sup.Nodup→(∀ o∈sup,o∈F.map Sg.name)→Gen (F++[⟨bN j,false,mu,"",sup⟩]) ls m (j+1)
theorem Gen.len {F ls m j} (g:Gen F ls m j):F.length=m+j∧ls.length≤m+j:=by
 induction g with
 | nil=>exact ⟨rfl,jw4 _⟩
 | top _ _ _ _ ih=>simp;exact ⟨kq1 (d6 [_,_] 1 zA (.add zB (.num 0)) zA zB tT (o7 ih.1)) (d6 [_,_] 1 (.add zA (.num 0)) zB zA zB tT (H6 ih.1)),d6 [_,_] 1 zA (.add zB (.num 0)) zA zB tT ih.2⟩
 | line _ _ _ _ _ ih=>simp;exact ⟨kq1 (d6 [_,_,_] 1 zA (.add zB zC) (.add zA nA) (.add zB (.add zC nA)) tT (o7 ih.1)) (d6 [_,_,_] 1 (.add zA zB) zC (.add zA (.add zB nA)) (.add zC nA) tT (H6 ih.1)),d6 [_,_,_] 1 zA (.add zB zC) (.add zA nA) (.add zB (.add zC nA)) tT ih.2⟩
 | part _ _ _ _ _ _ _ _ ih=>simp;exact ⟨kq1 (d6 [_,_,_] 1 zA (.add zB zC) (.add zA nA) (.add zB (.add zC nA)) tT (o7 ih.1)) (d6 [_,_,_] 1 (.add zA zB) zC (.add zA (.add zB nA)) (.add zC nA) tT (H6 ih.1)),d6 [_,_,_] 1 zA (.add zB zC) zA (.add zB (.add zC nA)) tT ih.2⟩
theorem Gen.tops {F ls m} (g:Gen F ls m 0):ls=F.map Sg.name:=by
 generalize hj:0=j at g
 induction g with
 | nil=>rfl
 | top _ _ _ _ ih=>refine a5 (ih rfl) ?_;simp
 | line _ _ _ _ _ ih=>cases hj
 | part _ _ _ _ _ _ _ _ ih=>cases hj
theorem aw4 {l:List Str} {d:Nat} (h:d<l.length):∃ x,x∈l∧((a6 l).map V.dat)[d]?=some (.dat (.str x)) :=
 ⟨l[d],kw6 h,by rw [jw7,a6,jw7,jw0 h];rfl⟩
theorem ck1 (d:Nat):E7 0 (1+(d:Int))=(Qg (1+d)).map fun (j:Nat)=>V.dat (.int (0+j)):=by
 unfold E7
 exact a5 (show (1+(d:Int) - 0).toNat=1+d by lia) rfl
theorem mu3 {mu:Str} (h:mu∈(["","one","lone"]:List Str)):mu∈(["","one","lone","some"]:List Str):=by
 rcases jv6.mp h with rfl | h
 ·exact jv0
 rcases jv6.mp h with rfl | h
 ·trivial
 refine a5 (jv4.mp h) ?_
 trivial
theorem gj9 {a x:Str} (e:(!([a].any (· == x)))=true) (h:x=a):False:=by subst h;simp at e
theorem gk0 {a x:Str} (e:(!([a].any (· == x)))=false):x=a:=by
 have e:(a == x)=true:=by simpa using e
 exact (eq_of_beq e).symm
theorem dx8 {l:List Str} {p:Str→Prop} [DecidablePred p]:l.filterMap (fun x=>if p x then none else some (PyData.str x))=a6 (l.filter fun x=>decide (¬p x)):=by
 induction l with
 | nil=>rfl
 | cons a l ih =>
  refine a5 kq5 (a5 nx3 (a5 ih ?_))
  by_cases h:p a <;> simp [h,a6]
section
variable {w:World} {hb:Heap} {n:Nat} {X:Xs} {H:HL}
theorem iz6 {t:Addr} {i k:Nat} {cells:List Nat} {Q:VP} (e:H[i]?=some (t,.dct (k6 cells k))) (hc:cells.length≤1000) (hk:k≤800)
  (q:∀ F ls m j k',Gen F ls m j→1≤m→m≤3→1≤j→j≤3→k'≤k+20→Q (.dat (o3 F)) (H.set i (t,.dct (k6 cells k')))) :
  Op PW w hb (n+2) X (RepV PW w) (fun vs=>call (.ref 592) vs) [.ref t] H Q:=by
 refine h8 (g8 rfl rfl rfl (names:=[st "tape"]) (by kernel_rfl) rfl (ar1 fun u_=>by kernel_rfl) fun gs=>?_)
 intro D
 have e1:∀ {z:O} {k':Nat},((D,z)::H.set i (t,O.dct (k6 cells k')))[i+1]?=some (t,.dct (k6 cells k')):=fun {z k'}=>by
  refine a5 (kv9) ?_;exact o0 e
 have lt3:∀ k,d7 cells k 3<3:=fun k=>o6 (by exact kx3 _)
 refine t6 (i:=i+1) (E9:=3) (k:=k) (cells:=cells) (by refine a5 (kv9) ?_;exact e) hc (by exact ul hk tT) (by exact kx3 _) ?_
 refine r7 ?_
 have l3:=lt3 k
 refine ⟨_,m6 (by decide) (by exact li0 [] (.num 0) (.num 1000000) tT) (kv0 (by decide) (lw6 (by decide) (kx2 _))) (by exact F0 [_] 1 (.add zA nA) (.num 3) (.add nA zA) (.num 1000000) tT (ic l3)),?_⟩
 refine j8 gs (fun j:Nat=>V.dat (.int (0+j))) (Qg (1+d7 cells k 3)) (fun l ρ H'=>ρ=[(st "found",.ref D),(st "tape",.ref t)]∧∃ F ls m k',Qg (1+d7 cells k 3)=Qg m++l∧Gen F ls m 0∧k'≤k+1+2 * m∧H'=(D,.lst (F.map Sg.row))::H.set i (t,.dct (k6 cells k'))) (ck1 _) ?_ ?_ ?_
 ·exact ⟨rfl,[],[],0,k+1,by rfl,.nil,by exact ln0 [_] (.add zA nA) (.add (.add zA nA) (.num 0)) tT,rfl⟩
 ·rintro N hN hE j l ρ1 H1 ⟨rfl,F,ls,m,k',hm,g,hk',rfl⟩
  have hm3:m<3:=by
   have:=congrArg List.length hm
   simp at this
   exact i5 [_,_,_] 1 (.add zA (.add zB nA)) (.add nA zC) 1 (.add zC nA) (.num 3) (.add zA nA) (.num 3) tT (H6 this) l3
  have hj:j=m:=by
   have:=congrArg (fun l=>l[m]?) hm
   have hl:m<1+d7 cells k 3:=by
    have:=congrArg List.length hm
    simp at this
    exact d6 [_,_,_] 1 (.add zA (.add zB nA)) (.add nA zC) (.add zA nA) (.add nA zC) tT (H6 this)
   simp [hl] at this
   exact this.symm
  subst hj
  refine .inl ?_
  refine t6 (i:=i+1) (E9:=5) (k:=k') (cells:=cells) e1 hc (by exact T5 [_,_,_] 2 (.add zA nA) (.num 3) 1 zB (.add (.add zC nA) (.mulL 2 zA)) 1 zC (.num 800) zB (.num 1000) tT hm3 hk' hk) (by exact kx3 _) ?_
  refine c9 (aw4 (l:=(["","","one","lone","some"]:List Str)) (o6 (cells:=cells) (k:=k') (m:=5) (by decide))) fun mu hmu hm5=>?_
  refine o8 (k:=d7 cells k' 5) d5 rfl (by have:=o6 (cells:=cells) (k:=k') (m:=5) (by exact kx3 _);exact d6 [_] 1 (.add zA nA) (.num 5) zA (.num 1000000) tT this) hm5 ?_
  refine i4 0 rfl ?_
  refine cq0 (by lia) ?_
  have sl:=n9 (sle (s:=("T":Str)) (by kernel_rfl)) (J4 (i:=0+(j:Int)) (by exact F0 [_] 1 (.num 0) zA (.num 0) (.add (.num 0) zA) tT (kx2 _)) (by exact F0 [_] 1 (.add zA nA) (.num 3) (.add (.num 0) zA) (.num 9) tT (ic hm3)))
  rw [Str.length_append] at sl
  refine ⟨jw9 sl (by exact (jv2 tT)),?_⟩
  refine t6 (i:=i+1) (E9:=3) (k:=k'+1) (cells:=cells) (o0 e1) hc (by exact T5 [_,_,_] 2 (.add zA nA) (.num 3) 1 zB (.add (.add zC nA) (.mulL 2 zA)) 1 zC (.num 800) (.add zB nA) (.num 1000) tT hm3 hk' hk) (by exact kx3 _) ?_
  refine g5 (i:=0) rfl (by refine a5 (jv1 ..) (a5 (g.len.1 ..) ?_);exact d6 [_] 1 (.add zA nA) (.num 3) (.add zA (.num 0)) (.num 1000000) tT hm3) ?_
  refine hN _ _ _ ⟨_,.all (ρ:=[(st "found",.ref D),(st "tape",.ref t)]) ⟨rfl,rfl,trivial⟩,rfl,F++[⟨tN j,((d7 cells (k'+1) 3:Nat):Int) == 2,mu,"",[]⟩],ls++[tN j],j+1,k'+2,by refine a5 hm (a5 kk6 ?_);simp,.top _ _ g ?_,by exact d6 [_,_,_] 1 zA (.add (.add zB nA) (.mulL 2 zC)) (.add zA (.num 2)) (.add (.add zB nA) (.mulL 2 (.add zC nA))) tT hk',?_⟩
  ·revert hmu
   simp
  ·refine (?_:(D,O.lst _)::((H.set i _).set i _).set i _=_)
   refine a5 (kz4 ..) (a5 (kz4 ..) (a5 (kq0 ..) ?_))
   rfl
 ·rintro ρ1 H1 ⟨rfl,F,ls,m,k',hm,g,hk',rfl⟩
  have hm':m=1+d7 cells k 3:=by
   have:=congrArg List.length hm
   simp at this
   exact this.symm
  refine f9 gs ?_
  have hF:=g.len.1
  refine ⟨_,_,.cut (Ha:=[]),bq3 (Ha:=[]),by refine a5 (jv1 ..) (a5 (jv1 ..) ?_);exact T5 [_,_,_] 1 zA (.add zB (.num 0)) 1 zB (.add nA zC) 1 (.add zC nA) (.num 3) zA (.num 1000000) tT (o7 hF) (o7 hm') l3,?_⟩
  refine d4 (fun x:Sg=>V.dat x.row) F (fun x=>some (.str x.name)) (by refine a5 jw5 ?_;rfl) (by kernel_rfl) (fun x hx=>⟨.new rfl,⟨fun u_=>⟨rfl,_,rfl,rfl⟩,nt⟩⟩) ?_
  refine ⟨rfl,?_⟩
  have et:(F.filterMap fun x=>some (PyData.str x.name))=a6 ls:=by rw [kx5,g.tops,a6,jw5];rfl
  refine a5 et ?_
  refine ck4 (xs:=a6 ls) d5 (by have:=g.len.2;unfold a6;refine a5 (jv1 ..) ?_;exact T5 [_,_,_] 1 zA (.add zB (.num 0)) 1 zB (.add nA zC) 1 (.add zC nA) (.num 3) zA (.num 1000000) tT this (o7 hm') l3) fun E=>?_
  have e2:∀ {z1 z2:O} {k':Nat},((E,z1)::(D,z2)::H.set i (t,O.dct (k6 cells k')))[i+2]?=some (t,.dct (k6 cells k')):=fun {z1 z2 k'}=>by
   refine a5 (kv9) (a5 (kv9) ?_);exact o0 e
  refine t6 (i:=i+2) (E9:=3) (k:=k') (cells:=cells) e2 hc (by exact ln4 [_,_,_,_] 2 zA (.add nA zB) 1 zC (.add (.add zD nA) (.mulL 2 zA)) 2 (.add zB nA) (.num 3) 1 zD (.num 800) zC (.num 1000) tT (o7 hm') hk' l3 hk) (by exact kx3 _) ?_
  have l4:=lt3 k'
  refine r7 ?_
  refine ⟨_,m6 (by decide) (by exact li0 [] (.num 0) (.num 1000000) tT) (kv0 (by decide) (lw6 (by decide) (kx2 _))) (by exact F0 [_] 1 (.add zA nA) (.num 3) (.add nA zA) (.num 1000000) tT (ic l4)),?_⟩
  refine j8 gs (fun j:Nat=>V.dat (.int (0+j))) (Qg (1+d7 cells k' 3)) (fun l ρ H'=>ρ=[(st "lines",.ref E),(st "tops",.dat (.list (a6 ls))),(st "found",.ref D),(st "tape",.ref t)]∧∃ F2 ls2 j k2,Qg (1+d7 cells k' 3)=Qg j++l∧Gen F2 ls2 m j∧(∀ x∈ls,x∈F2.map Sg.name)∧0<ls2.length∧k2≤k'+1+4 * j∧H'=(E,.lst (a6 ls2))::(D,.lst (F2.map Sg.row))::H.set i (t,.dct (k6 cells k2))) (ck1 _) ?_ ?_ ?_
  ·exact ⟨rfl,F,ls,0,k'+1,by rfl,g,fun x hx=>by refine p8 g.tops ?_;exact hx,by refine a5 (g.tops ..) (a5 (jv1 ..) ?_);exact i5 [_,_,_] 1 (.add zA (.num 0)) zB 1 (.add nA zC) zA (.add (.num 0) nA) zB tT (H6 hF) (H6 hm'),by exact ln0 [_] (.add zA nA) (.add (.add zA nA) (.num 0)) tT,by simp [kz4]⟩
  ·rintro N hN hE j l ρ1 H1 ⟨rfl,F2,ls2,j',k2,hm2,g2,hls,hpos,hk2,rfl⟩
   have hj3:j'<1+d7 cells k' 3:=by
    have:=congrArg List.length hm2
    simp at this
    exact d6 [_,_,_] 1 (.add zA (.add zB nA)) (.add nA zC) (.add zA nA) (.add nA zC) tT (H6 this)
   have hj:j=j':=by
    have:=congrArg (fun l=>l[j']?) hm2
    simp [hj3] at this
    exact this.symm
   subst hj
   have hF2:=g2.len
   refine .inl ?_
   have K9:k2+3≤1000:=by lia
   have F9:F2.length≤1000:=by lia
   have S9:ls2.length≤1000:=by lia
   refine t6 (i:=i+2) (E9:=3) (k:=k2) (cells:=cells) e2 hc (jw9 (kz8 k2 3) K9) (by exact kx3 _) ?_
   refine c9 (aw4 (l:=(["","one","lone"]:List Str)) (lt3 k2)) fun mu hmu hm5=>?_
   refine o8 (k:=d7 cells k2 3) d5 rfl (by have:=lt3 k2;exact d6 [_] 1 (.add zA nA) (.num 3) zA (.num 1000000) tT this) hm5 ?_
   refine cq0 (by lia) ?_
   have sl:=n9 (sle (s:=("B":Str)) (by kernel_rfl)) (J4 (i:=0+(j:Int)) (by lia) (by lia))
   rw [Str.length_append] at sl
   refine ⟨jw9 sl (by exact (jv2 tT)),?_⟩
   refine ⟨by rfl,?_⟩
   refine t6 (i:=i+2) (E9:=4) (k:=k2+1) (cells:=cells) (o0 e2) hc (jw9 (kz8 (k2+1) 2) K9) (by exact kx3 _) ?_
   have mu4:mu∈(["","one","lone","some"]:List Str):=mu3 hmu
   refine ⟨fun a=>?_,fun a=>?_⟩
   ·skip
    refine j7 (x4 1 rfl) (by refine a5 (jv1 ..) (a5 (jv1 ..) ?_);exact kj8 F9 (by decide)) ?_
    refine a5 (jv1 ..) (a5 (jv1 ..) ?_)
    refine t6 (i:=i+2) (E9:=F2.length) (k:=k2+2) (cells:=cells) (o0 (o0 e2)) hc (jw9 (kz8 (k2+2) 1) K9) (by exact i5 [_,_,_,_] 1 (.add zA zB) zC 1 (.add nA zD) zA (.add (.num 0) nA) zC tT (H6 hF2.1) (H6 hm')) ?_
    have hd:d7 cells (k2+2) F2.length<F2.length:=o6 (by exact i5 [_,_,_,_] 1 (.add zA zB) zC 1 (.add nA zD) zA (.add (.num 0) nA) zC tT (H6 hF2.1) (H6 hm'))
    obtain ⟨o,ho,hoF⟩:∃ o,o∈F2∧((F2.map Sg.row).map V.dat)[d7 cells (k2+2) F2.length]?=some (.dat o.row) :=
     ⟨F2[d7 cells (k2+2) F2.length],kw6 hd,by refine a5 (jw7) (a5 (jw7) (a5 (jw0 hd) ?_));rfl⟩
    refine o8 (x4 1 rfl) rfl (ul (jw9 (lq8 hd) F9) tT) hoF ?_
    refine .inl ?_
    refine t6 (i:=i+2) (E9:=2) (k:=k2+3) (cells:=cells) (o0 (o0 (o0 e2))) hc K9 (by exact kx3 _) ?_
    refine ⟨fun b=>?_,fun b=>?_⟩
    ·refine ⟨nn,⟨by rw [a6,jv1];have:=g.len.2;exact T5 [_,_,_] 1 zA (.add zB (.num 0)) 1 zB (.add nA zC) 1 (.add zC nA) (.num 3) zA (.num 1000000) tT this (o7 hm') l3,?_⟩⟩
     have ep:F3 (a6 ls) none (some 1) none=a6 (ls.take 1):=(bj6 _ 1).trans List.map_take.symm
     refine a5 ep ?_
     refine ⟨_,_,.same,b0,by rw [jv1,a6,jv1];exact jw9 (lw8 ..) (by exact (jv2 tT)),?_⟩
     refine d4 u8 (ls.take 1) (fun x=>if x=o.name then none else some (.str x)) i6 (by kernel_rfl) (fun x hx=>?_) ?_
     ·refine ⟨.new rfl,?_⟩
      refine J5 (ys:=[o.name]) (l8) ?_
      refine ⟨fun e=>⟨rfl,_,rfl,if_neg fun h=>gj9 e h⟩,fun e=>⟨rfl,if_pos (gk0 e)⟩⟩
     refine ⟨rfl,.inl ?_⟩
     have ey:((ls.take 1).filterMap fun x=>if x=o.name then none else some (PyData.str x))=a6 ((ls.take 1).filter fun x=>decide (¬x=o.name)):=dx8
     refine a5 ey ?_
     have lt1:(ls.take 1).length≤1:=lw8 ..
     have lf:=kv3 (fun x=>decide (¬x=o.name)) (ls.take 1)
     refine ⟨by refine (?_:1+(a6 _).length≤1000000);rw [a6,jv1];exact i5 [_,_] 1 zA zB 1 zB nA (.add nA zA) (.num 1000000) tT lf lt1,?_⟩
     refine i4 1 rfl ?_
     refine r6 l8 (by refine (?_:(a6 _).length+1≤1000000);rw [a6,jv1];exact i5 [_,_] 1 zA zB 1 zB nA (.add zA nA) (.num 1000000) tT lf lt1) ?_
     refine g5 (i:=1) rfl (by refine a5 (jv1 ..) ?_;exact ul F9 tT) ?_
     refine hN _ _ _ ⟨_,.all (ρ:=[(st "lines",.ref E),(st "tops",.dat (.list (a6 ls))),(st "found",.ref D),(st "tape",.ref t)]) ⟨rfl,rfl,rfl,rfl,trivial⟩,rfl,F2++[⟨bN j,false,mu,"",o.name::(ls.take 1).filter fun x=>decide (¬x=o.name)⟩],ls2,j+1,k2+4,by refine a5 hm2 (a5 kk6 ?_);simp,.part _ _ g2 mu4 (by simp) (by refine a5 lq6 ?_;exact i5 [_,_] 1 zA zB 1 zB nA (.add zA nA) (.num 2) tT lf lt1) ?_ ?_,?_,hpos,by exact d6 [_,_,_] 1 zA (.add (.add zB nA) (.mulL 4 zC)) (.add zA (.num 4)) (.add (.add zB nA) (.mulL 4 (.add zC nA))) tT hk2,?_⟩
     ·refine kq6.mpr ⟨fun h=>by simpa using (kj0.mp h).2,?_⟩
      cases hf:(ls.take 1).filter fun x=>decide (¬x=o.name) with
      | nil=>exact kk9
      | cons a r =>
       rw [hf,lq6] at lf
       refine a5 (kj4.mp (show r.length=0 by lia)) ?_
       exact kq6.mpr ⟨kq8,kk9⟩
     ·intro x hx
      rcases jv6.mp hx with rfl | hx
      ·exact jw3 ho
      ·exact hls x (List.mem_of_mem_take (kj0.mp hx).1)
     ·intro x hx
      refine a5 kq0 ?_
      exact jv8 _ (hls x hx)
     ·refine (?_:(E,O.lst _)::(D,O.lst _)::((((H.set i _).set i _).set i _).set i _).set i _=_)
      refine a5 (kz4 ..) (a5 (kz4 ..) (a5 (kz4 ..) (a5 (kz4 ..) (a5 (kq0 ..) ?_))))
      rfl
    ·refine i4 1 rfl ?_
     refine r6 l8 (by refine (?_:1≤1000000);exact (jv2 tT)) ?_
     refine g5 (i:=1) rfl (by refine a5 (jv1 ..) ?_;exact ul F9 tT) ?_
     refine hN _ _ _ ⟨_,.all (ρ:=[(st "lines",.ref E),(st "tops",.dat (.list (a6 ls))),(st "found",.ref D),(st "tape",.ref t)]) ⟨rfl,rfl,rfl,rfl,trivial⟩,rfl,F2++[⟨bN j,false,mu,"",[o.name]⟩],ls2,j+1,k2+4,by refine a5 hm2 (a5 kk6 ?_);simp,.part _ _ g2 mu4 (by simp) (by exact (jv2 tT)) (by simp) ?_,?_,hpos,by exact d6 [_,_,_] 1 zA (.add (.add zB nA) (.mulL 4 zC)) (.add zA (.num 4)) (.add (.add zB nA) (.mulL 4 (.add zC nA))) tT hk2,?_⟩
     ·intro x hx
      refine a5 (jv4.mp hx) ?_
      exact jw3 ho
     ·intro x hx
      refine a5 kq0 ?_
      exact jv8 _ (hls x hx)
     ·refine (?_:(E,O.lst _)::(D,O.lst _)::((((H.set i _).set i _).set i _).set i _).set i _=_)
      refine a5 (kz4 ..) (a5 (kz4 ..) (a5 (kz4 ..) (a5 (kz4 ..) (a5 (kq0 ..) ?_))))
      rfl
   ·refine i4 1 rfl ?_
    have lls:((a6 ls2).map V.dat).length=ls2.length:=by rw [jv1,a6,jv1]
    refine j7 (x4 0 rfl) (by refine a5 lls ?_;exact kj8 S9 (by decide)) ?_
    refine a5 lls ?_
    refine t6 (i:=i+2) (E9:=ls2.length) (k:=k2+2) (cells:=cells) (o0 (o0 e2)) hc (jw9 (kz8 (k2+2) 1) K9) hpos ?_
    refine c9 (aw4 (l:=ls2) (o6 (cells:=cells) (k:=k2+2) hpos)) fun p hp hpF=>?_
    refine o8 (x4 0 rfl) rfl (ul (jw9 (lq8 (o6 (cells:=cells) (k:=k2+2) hpos)) S9) tT) hpF ?_
    refine g5 (i:=1) rfl (by refine a5 (jv1 ..) ?_;exact ul F9 tT) ?_
    refine i4 0 rfl ?_
    refine g5 (i:=0) rfl (by rw [a6,jv1];exact ul S9 tT) ?_
    refine hN _ _ _ ⟨_,.all (ρ:=[(st "lines",.ref E),(st "tops",.dat (.list (a6 ls))),(st "found",.ref D),(st "tape",.ref t)]) ⟨rfl,rfl,rfl,rfl,trivial⟩,rfl,F2++[⟨bN j,false,mu,p,[]⟩],ls2++[bN j],j+1,k2+3,by refine a5 hm2 (a5 kk6 ?_);simp,.line _ _ g2 mu4 hp,?_,by refine a5 jw8 ?_;exact d6 [_,_] 1 (.add (.num 0) nA) zA (.add (.num 0) nA) (.add zA zB) tT hpos,by exact d6 [_,_,_] 1 zA (.add (.add zB nA) (.mulL 4 zC)) (.add zA (.num 3)) (.add (.add zB nA) (.mulL 4 (.add zC nA))) tT hk2,?_⟩
    ·intro x hx
     refine a5 kq0 ?_
     exact jv8 _ (hls x hx)
    ·refine (?_:(E,O.lst _)::(D,O.lst _)::(((H.set i _).set i _).set i _).set i _=_)
     rw [kz4,kz4,kz4,kq0,a6,a6,kq0]
     rfl
  ·rintro ρ1 H1 ⟨rfl,F2,ls2,j,k2,hm2,g2,hls,hpos,hk2,rfl⟩
   have hj:j=1+d7 cells k' 3:=by
    have:=congrArg List.length hm2
    simp at this
    exact this.symm
   refine f9 gs ?_
   exact ⟨[(E,.lst (a6 ls2)),(D,.lst (F2.map Sg.row))],_,_,rfl,.lst (jv3 _ (jv4.mpr rfl)),q F2 ls2 m j k2 g2 (by exact d6 [_,_] 1 (.add nA zA) zB nA zB tT (H6 hm')) (by exact i5 [_,_] 1 zA (.add nA zB) 1 (.add zB nA) (.num 3) zA (.num 3) tT (o7 hm') l3) (by exact d6 [_,_] 1 (.add nA zA) zB nA zB tT (H6 hj)) (by exact i5 [_,_] 1 zA (.add nA zB) 1 (.add zB nA) (.num 3) zA (.num 3) tT (o7 hj) l4) (by lia)⟩
end
end
section
section
variable {pG:Program} {w:World} {hb:Heap} {n:Nat} {X:Xs} {H:HL} {A:Around} {Z Z':List Addr} {s s':Shared}
theorem noE {α:Type} {a:α}:a∉([]:List α):=kq8
theorem Sat.bare (y:Sat pG w hb Z H s):Sat pG w hb Z [] s:=⟨y.bs,y.base,y.zlt,fun a m=>absurd m kq8,kk9,fun p m=>absurd m kq8,y.gens⟩
theorem Fm.bare (f:Fm A hb Z H s):Fm A hb Z [] s:=⟨f.l,fun L m=>⟨(f.z L m).1,noE⟩⟩
theorem Step.all (st:Step [] Z [] s Z' [] s'):∀ a o,s.heap.get? a=some o→s'.heap.get? a=some o:=fun a o e=>st.keep a o e noE noE
theorem Sat.dress (y:Sat pG w hb Z H s) (st:Step [] Z [] s Z' [] s') (y':Sat pG w hb Z' [] s'):Sat pG w hb Z' H s'∧Step [] Z H s Z' H s':=by
 have hz:∀ a∈Z,a∈Z':=fun a m=>(st.unhid a m).elim id fun q=>absurd q noE
 refine ⟨⟨y'.bs,y'.base,y'.zlt,fun a m=>hz a (y.sub a m),y.nd,fun p hp=>?_,y'.gens⟩,fun a o e u_ u_=>st.all a o e,st.hidden,fun a m=>.inl (hz a m),fun a m=>.inl m,st.os⟩
 obtain ⟨b,o⟩:=p
 exact (y.own _ hp).mono (y.bare.mono st) fun c hc x e=>st.all c x e
theorem Late.bare {ow:List Addr} {a:Addr} (l:Late ow [] s a):Late ow H s a:=fun o e=>(l o e).imp id fun q=>absurd q noE
theorem Thr.bare {ow:List Addr} {L:Option Addr} {e:Addr} (t:Thr hb A ow L [] s e s'):Thr hb A ow L H s e s':=by
 refine ⟨⟨fun a o e n1 u_ n3=>t.h.keep a o e n1 noE n3,fun a o e n1 u_ n3=>t.h.slots a o e n1 noE n3,t.h.frames,t.h.os,t.h.gens⟩,t.exc.1.bare,?_⟩
 refine oEE t.exc.2 fun oe vs y=>G9 y fun a1 a2 a3 a4=>?_
 refine ⟨oe,vs,a1,a2,a3,a4.imp id ?_⟩
 (intro yz;refine k8 yz fun T oT ts f y=>G9 y fun b1 b2 b3 b4=>?_)
 exact ⟨T,oT,ts,f,b1,b2,b3.bare,b4⟩
theorem Op.frame {α β:Type} {rel:Heap→α→β→Prop} {f:List Value→Sem α} {ds:List V} {Q Q':β→HL→Prop} (o:Op pG w hb n X rel f ds [] Q) (hq:∀ b H',Q b H'→H'=[]∧Q' b H):Op pG w hb n X rel f ds H Q':=by
 intro A Z s vs R E rm fm y rl k
 refine o A Z s vs R E rm (fun hx=>(fm hx).bare) y.bare rl ⟨fun st y' r q0=>?_,fun hx e s' t=>k.ex hx e s' t.bare⟩
 refine oA (hq _ _ q0) fun e q=>?_
 subst e
 refine oA (y.dress st y') fun y2 st2=>?_
 exact k.ok st2 y2 r q
end
end
section
noncomputable def bz3:Expr:=.Call (.Attribute (.Call (.Name "Scopes" ⟨502,34,502,40⟩) [.Name "signatures" ⟨502,41,502,51⟩,.Constant .none 0 ⟨502,53,502,57⟩] [] ⟨502,34,502,58⟩) "bounds_of" ⟨502,34,502,68⟩) [.Name "scope" ⟨502,69,502,74⟩] [] ⟨502,34,502,75⟩
noncomputable def V2:Scope:={ kind:=.function,names:=[(Str.ofString "scope",.free),(Str.ofString "signatures",.free),(Str.ofString "Scopes",.globalImplicit)],isGenerator:=false,isCoroutine:=false,more:=[] }
noncomputable def cv1:Arguments:={ posonlyargs:=[],args:=[],vararg:=none,kwonlyargs:=[],kw_defaults:=[],kwarg:=none,defaults:=[] }
noncomputable def lamX:Expr:=.Lambda cv1 bz3 V2 ⟨502,26,502,75⟩
noncomputable def jj0:List Stmt:=[.Try [.Return (some (.Call (.Name "deed" ⟨456,15,456,19⟩) [] [] ⟨456,15,456,21⟩)) ⟨456,8,456,21⟩]
 [.ExceptHandler (some (.Name "ScopeFault" ⟨457,11,457,21⟩)) none [.Return (some (.Constant .none 0 ⟨458,15,458,19⟩)) ⟨458,8,458,19⟩] ⟨457,4,458,19⟩] [] [] ⟨455,4,458,19⟩]
theorem dj6:u7 (j4 38)=jj0:=by kernel_rfl
section
variable {w:World} {hb:Heap} {n:Nat} {X:Xs} {H:HL} {A:Around} {Z Z':List Addr} {s s1 s3 s':Shared} {env env1:Env} {ow:List Addr} {e L:Addr} {l:List Env}
theorem cj1 (efr:env1.frame=some L) (hl:A.frames=some l) (fresh:∀ b∈L::ow,s.heap.get? b=none) (kk:Sub s.heap s1.heap) (os:s1.os=s.os) (gens:s1.gens=s.gens) (th:ThrH hb (A.deeper env1) ow H s1 s3):ThrH hb A [] H s s3:=by
 have efl:(A.deeper env1).frames=some (env1::l):=by refine (?_:A.frames.map _=_);refine a5 hl ?_;rfl
 have efs:O3 (A.deeper env1)=L::O3 A:=by rw [O3,O3,efl,hl];refine (?_:List.filterMap _ (_::l)=_);refine a5 kq5 (a5 efr ?_);rfl
 refine ⟨fun b o e u_ n2 n3=>th.keep b o (kk b o e) (fun q=>a7 e (fresh b (jv3 _ q))) n2 ?_,fun b o e u_ n2 n3=>th.slots b o (kk b o e) (fun q=>a7 e (fresh b (jv3 _ q))) n2 (by refine a5 efs ?_;exact jv3 _ n3),fun l' hl'=>?_,th.os.trans os,th.gens.trans gens⟩
 ·refine a5 efs ?_
  intro q
  rcases jv6.mp q with rfl | q
  ·exact a7 e (fresh b (jv0 ..))
  ·exact n3 q
 ·rw [hl] at hl'
  (injection hl' with i;subst i)
  exact (th.frames _ efl).2.2
theorem fx3 {fl:Option Value→Prop} (fresh:∀ b∈ow,s.heap.get? b=none) (kk:Sub s.heap s1.heap) (x:ExcAt ow H s1 e s3 fl):ExcAt [] H s e s3 fl:=by
 have late:∀ {b},Late ow H s1 b→Late [] H s b:=fun {b} lb o e=>by
  refine Qa (lb o (kk b o e)) (fun q=>?_) fun q=>?_
  ·exact a7 e (fresh b q)
  ·exact .inr q
 refine V7 x fun lt oe y=>o4 y fun vs' q1 q2 q3 q4=>?_
 refine ⟨late lt,oe,vs',q1,q2,q3,q4.imp id ?_⟩
 (intro yz;refine k8 yz fun T oT ts f y=>G9 y fun a1 a2 a3 a4=>?_)
 exact ⟨T,oT,ts,f,a1,a2,late a3,a4⟩
theorem gz9 {c1 c2:Addr} {v1 v2:Value} {d1 d2:V} {Q:VP} {R:Value→Shared→Prop} {E:Value→Shared→Prop} (esc:env.scope=V2) (eg:env.globals=mainGlobals) (eb:env.builtins=builtinsNs)
  (h1:env.cells.lookup ("signatures":Str)=some c1) (h2:env.cells.lookup ("scope":Str)=some c2) (i1:s.heap.IsCell c1 (some v1)) (i2:s.heap.IsCell c2 (some v2)) (r1:RepV PW w (f7 s Z) v1 d1) (r2:RepV PW w (f7 s Z) v2 d2)
  (rm:Room A n) (fm:X.fr→Fm A hb Z [] s) (y:Sat PW w hb Z [] s)
  (o:Op PW w hb n X (RepV PW w) (fun vs=>call (.ref 402) vs) [d1,.dat .none] [] fun d H1=>H1=[]∧w8 PW w hb d "bounds_of" [] fun g=>Op PW w hb n X (RepV PW w) (fun vs=>call g vs) [d,d2] [] Q)
  (k:Kop PW w hb A X (RepV PW w) Q R E Z [] s):wpAny (model PW w) A (eval bz3 env) R E s:=by
 have ek:env.scope.kind=.function:=by rw [esc];rfl
 refine methodCall_KW (Call_ ?_)
 obtain ⟨pp,loose,mg,mb,T⟩:=y.bs.T
 have T':=T.keeps (y.base.trans (g6 s Z))
 refine Name_function_global ek (by unfold Env.kindOf;rw [esc];rfl) (loadGlobal_global (env:=env) (by rw [eg];exact T'.g) (mg_of y.bs.X T.g (ak1 w.params (v:=.ref 402) rfl)) ?_) rfl
 refine callWith_of (P:=fun h=>(KK w).In h) (by rfl) (G6 (w:=w) (f:=.ref 402) rfl) (o5 (by rfl) ?_)
 refine lq1 (lx3 (lj8 ek (by unfold Env.kindOf;rw [esc];rfl) h1 i1 (lq1 (mx0 (lq3 ⟨y.K,?_⟩)) rfl)) rfl) rfl
 refine o A Z s [v1,.none] _ _ rm fm y (.cons r1 (.cons (.dat ⟨_,.none⟩) .nil)) ⟨fun {a s2 Z2 b H2} st y2 r q=>?_,k.ex⟩
 obtain ⟨e,q⟩:=q
 subst e
 obtain ⟨f,m,hk,q⟩:=cv0 q
 refine m A Z2 s2 a _ _ _ y2 r ?_
 refine callWith_of (P:=fun h=>(KK w).In h) (by rfl) (G6 hk) (o5 (by rfl) ?_)
 refine lq1 (lx3 (lj8 ek (by unfold Env.kindOf;rw [esc];rfl) h2 (i2.keeps st.all) (lq3 ⟨y2.K,?_⟩)) rfl) rfl
 exact q A Z2 s2 [a,v2] _ _ rm (fun hx=>(fm hx).step y st) y2 (.cons r (.cons (r2.mono (y.mono st)) .nil)) (k.step y st y2)
theorem fz2 {a:Addr} {args:Args} {o:Obj} {fd:FuncData} {body:Expr} {q:Str} {R:Result→Shared→Prop} (hroom:A.depth<recursionLimit) (ho:s.heap.get? a=some o)
  (hd':o.data=.func fd) (hco:fd.scope.isCoroutine=false) (hgen:fd.scope.isGenerator=false) (hbody:fd.body=.expr body) (hcd:s.heap.CodeRec fd.code q)
  (h:wpAny (model PW w) A.in1 (bindArgs fd args) (fun binds s₁ =>
   wpAny (model PW w) A.in1 (newFunctionEnv fd.scope fd.globals fd.closure binds (q++".<locals>.") (some a) fd.code none fd.builtins)
    (fun env s₂=>s₂.heap.NoLimit∧codeAny (model PW w) A (.expr body env) R s₂) (fun e s'=>R (.error e) s') s₁) (fun e s'=>R (.error e) s') s) :
  codeAny (model PW w) A (.call (.ref a) args) R s:=by
 refine kk0 ?_
 refine (?_:wpAny _ A.in1 (callAny (.ref a) args) _ _ s)
 refine jk9 (lx1 ho ?_)
 refine k8 hcd fun c oc vs tq y=>G9 y fun hc hoc hdc hq=>?_
 simp only [hd',callFunction,hco,hgen,hbody,hc]
 rw [hc] at h
 refine jk9 (m:=field (.ref c) 1) (kw1 hoc hdc hq (jk9 (jv5 ?_)))
 exact jk9 (kx7 h (fun binds s₁ h₁=>jk9 (kx7 h₁ (fun env s₂ h₂=>jk9 (wpAny_enterFrame h₂.1 hroom
  (jv5 (And.intro rfl h₂.2)))) fun u_ u_ h'=>h')) fun u_ u_ h'=>h')
theorem iq8 {c1 c2 f c':Addr} {qual qc:Str} {clos:List (Str × Addr)} {pm ctv:Value} {v1 v2:Value} {d1 d2:V} {Q:VP} {R:Result→Shared→Prop} (ho:s.heap.get? f=some (kla_obj "<lambda>" qual cv1 bz3 V2 clos pm c' ctv)) (hcd:s.heap.CodeRec (.ref c') qc)
  (h1:clos.lookup ("signatures":Str)=some c1) (h2:clos.lookup ("scope":Str)=some c2) (i1:s.heap.IsCell c1 (some v1)) (i2:s.heap.IsCell c2 (some v2)) (r1:RepV PW w (f7 s Z) v1 d1) (r2:RepV PW w (f7 s Z) v2 d2)
  (rm:Room A (n+1)) (fm:X.fr→Fm A hb Z [] s) (y:Sat PW w hb Z [] s)
  (o:Op PW w hb n X (RepV PW w) (fun vs=>call (.ref 402) vs) [d1,.dat .none] [] fun d H1=>H1=[]∧w8 PW w hb d "bounds_of" [] fun g=>Op PW w hb n X (RepV PW w) (fun vs=>call g vs) [d,d2] [] Q)
  (k:Kop PW w hb A X (RepV PW w) Q (fun v s'=>R (.ok (.ret v)) s') (fun e s'=>R (.error e) s') Z [] s):codeAny (model PW w) A (.call (.ref f) ⟨[],[]⟩) R s:=by
 refine k8 y.bs.T fun pp loose mg mb T=>?_
 have T':=T.keeps (y.base.trans (g6 s Z))
 have room1:A.depth<recursionLimit:=by have:=rm.depth;refine (?_:A.depth<1000);exact d6 [_,_] 1 (.add (.add zA (.mulL 10 (.add zB nA))) (.num 20)) (.num 1000) (.add zA nA) (.num 1000) tT this
 refine fz2 room1 ho rfl rfl rfl rfl hcd ?_
 refine a5 (show bindArgs (kla_fn "<lambda>" qual cv1 bz3 V2 clos pm (.ref c') ctv) ⟨[],[]⟩=pure [] by rfl) ?_
 refine jv5 (nx7 (show ∀ x∈V2.names,x.2≠.cell by unfold V2;decide) (fun _ h=>absurd h kq8) (fun h₁ hns hsb=>⟨(T'.nolimit).fresh _ hsb,?_⟩) rfl)
 refine (?_:codeAny _ _ (.expr bz3 (envX qc V2 s.heap.objs.size f (.ref c') clos)) _ _)
 generalize hL:s.heap.objs.size=L at *
 have kk:Sub s.heap h₁:=fun b o e=>hsb.extBut b o (by refine p8 hL ?_;exact kz1 (Qi e)) (Qb _ e)
 have fresh:∀ b∈[L],s.heap.get? b=none:=fun b hb=>by
  refine a5 (jv4.mp hb) ?_
  exact Qf (kj3 hL)
 have live:∀ b∈[L],∃ o,h₁.get? b=some o:=fun b hb=>by
  obtain ⟨o,es,ep,e,_⟩:=hns
  refine a5 (jv4.mp hb) ?_
  exact ⟨o,e⟩
 refine J7 (y.growHide (h':=h₁) (t:=s.toks+([]:List (Str × Value)).length) (ys:=[L]) kk fresh live) fun y1 st1 u1=>?_
 refine kla_codeExpr ?_
 generalize he:envX qc V2 L f (.ref c') clos=env1
 have efr:env1.frame=some L:=by exact p8 he rfl
 refine gz9 (n:=n) (X:=X) (by exact p8 he rfl) (by exact p8 he rfl) (by exact p8 he rfl) (by refine p8 he ?_;exact h1) (by refine p8 he ?_;exact h2) (i1.keeps kk) (i2.keeps kk) (r1.mono u1) (r2.mono u1) ⟨?_,?_,rm.handled⟩ (fun hx=>?_) y1 o ⟨fun st y' r q=>k.ok ((st1 []).trans st y.zlt y.sub (fun _ h=>absurd h kq8)) y' r q,fun hx e s2 t=>?_⟩
 ·have:=rm.depth;refine (?_:A.depth+1+10 * n+20≤1000);exact d6 [_,_] 1 (.add (.add zA (.mulL 10 (.add zB nA))) (.num 20)) (.num 1000) (.add (.add (.add zA nA) (.mulL 10 zB)) (.num 20)) (.num 1000) tT this
 ·have:=rm.units;refine (?_:A.units+3+100 * n+300≤9900);exact d6 [_,_] 1 (.add (.add zA (.mulL 100 (.add zB nA))) (.num 300)) (.num 9900) (.add (.add (.add zA (.num 3)) (.mulL 100 zB)) (.num 300)) (.num 9900) tT this
 ·obtain ⟨⟨l,hl,hf⟩,hz⟩:=fm hx
  have efl:(A.deeper env1).frames=some (env1::l):=by refine (?_:A.frames.map _=_);refine a5 hl ?_;rfl
  have hz':∀ L'∈l.filterMap (·.frame),L'∈Z∧L'∉foots []:=fun L' m=>hz L' (by rw [O3,hl];exact m)
  refine ⟨⟨_,efl,?_⟩,fun L' m=>⟨?_,noE⟩⟩
  ·refine ⟨by refine p8 he ?_;refine (?_:ScopeKind.function≠.module);decide,⟨L,?_⟩,?_⟩
   ·obtain ⟨o,es,ep,e,e2,_⟩:=hns
    refine ⟨o,efr,?_,e,fun vs q=>by replace q:=e2▸q;cases q⟩
    cases q:hb.get? L with
    | none=>rfl
    | some o'=>exact a7 (c7 (y.base L o' q)).1 (fresh L (jv0 ..))
   ·exact v8 (fun L' m o ho hd=>⟨o,kk _ _ ho,hd⟩) hf
  ·rw [O3,efl] at m
   have m':L'∈(env1::l).filterMap (·.frame):=m
   rw [kq5,efr] at m'
   rcases jv6.mp m' with rfl | m'
   ·exact jv8 _ (jv0 ..)
   ·exact jv7 _ (hz' L' m').1
 ·obtain ⟨⟨l,hl,hf⟩,hz⟩:=fm (X.imp hx)
  have efl:(A.deeper env1).frames=some (env1::l):=by refine (?_:A.frames.map _=_);refine a5 hl ?_;rfl
  exact bz9 efl efr (t.inFrame (ow:=[]) (L:=some L)) fun s3 th ex=>k.ex hx e s3 ⟨cj1 (s1:={ s with heap:=h₁,toks:=_ }) efr hl fresh kk rfl rfl th,fx3 (s1:={ s with heap:=h₁,toks:=_ }) (fun b hb=>absurd hb noE) kk ex⟩
end
end
end Mine
section
set_option backward.match.sparseCases true
namespace Mine
section
section
variable {pG:Program} {w:World} {hb:Heap} {n:Nat} {X:Xs} {H:HL} {A:Around} {Z Z':List Addr} {s s1 s3 s':Shared} {env env1:Env} {ow:List Addr} {e L:Addr} {l:List Env}
theorem gk6 {a:Addr} {fd:FuncData} {body:List Stmt} {names:List Str} {ds:List V} (F:FnAt w a fd body names) (hl:ds.length=names.length)
  {vs:List Value} {R:Result→Shared→Prop} (ln:fd.scope.names.lookup ("signatures":Str)=some .cell→O3 A=[])
  (rm:Room A (n+1)) (fm:X.fr→Fm A hb Z H s) (y:Sat pG w hb Z H s) (rl:RepL pG w (f7 s Z) vs ds)
  (k:∀ (L:Addr) (env1:Env) (s1:Shared),env1.frame=some L→env1.locals=L→Pt pG w hb fd.scope env1 (A.deeper env1) n X (own env1++Z) (names.zip ds) H s1→Step [] Z H s (own env1++Z) H s1→(∀ b∈own env1,s.heap.get? b=none) →
   Sub s.heap s1.heap→wpAny (model pG w) (A.deeper env1) (execs body env1) (fun f s'=>R (.ok (.ret (match f with | .ret v=>v | _=>.none))) s')
    (fun e s'=>wpAny (model pG w) (A.deeper env1) (leaving env1 e) (fun u_ s''=>R (.error e) s'') (fun e' s''=>R (.error e') s'') s') s1) :
  codeAny (model pG w) A (.call (.ref a) ⟨vs,[]⟩) R s:=by
 refine ck6 F.lk fun oc od sl hlk=>?_
 obtain ⟨c,occ,odc,vsc,slc,tc,hc1,hc2,hc3⟩:=F.code
 refine k8 y.bs.T fun pp loose mg mb T=>?_
 have T':=T.keeps (y.base.trans (g6 s Z))
 have XK:=y.K
 have hlen:vs.length=names.length:=rl.length.trans hl
 have nms:∀ x∈names,fd.scope.names.lookup x=some .local∨fd.scope.names.lookup x=some .cell:=fun x hx=>by
  have:=kq3.mp F.nms x hx
  simpa using this
 have hbm:∀ x∈names.zip vs,x.1∈names:=fun x hx=>(nz2 (a:=x.1) (b:=x.2) hx).1
 have room1:A.depth<recursionLimit:=by have:=rm.depth;refine (?_:A.depth<1000);exact d6 [_,_] 1 (.add (.add zA (.mulL 10 (.add zB nA))) (.num 20)) (.num 1000) (.add zA nA) (.num 1000) tT this
 refine codeAny_call_cells room1 (XK _ _ hlk) rfl T'.nolimit ⟨c,_,vsc,tc,hc1,XK _ _ hc2,rfl,hc3⟩ F.body (F.bind vs hlen) F.clo (fun x hx=>?_) (fun s₁ x=>?_) F.co F.gen F.kind
 ·refine Qa (nms x.1 (hbm x hx)) (fun q=>?_) fun q=>?_
  ·exact .inl q
  ·exact .inr ⟨q,n7 (Qe q)⟩
 generalize hL:s.heap.objs.size=L at *
 obtain ⟨⟨⟨h1,tk,rfl⟩,xns,xkeep,xfresh⟩,xcell,xapart,xabove⟩:=x
 have eloc:(callEnvC fd L a).locals=L:=rfl
 have ecell:(callEnvC fd L a).cells=cellsFrom (L+1) fd.scope.names []:=rfl
 have ekind:∀ z,(callEnvC fd L a).kindOf z=fd.scope.names.lookup z:=fun z=>rfl
 have efr:(callEnvC fd L a).frame=some L:=rfl
 rw [eloc] at xns xabove
 have fresh:∀ b∈own (callEnvC fd L a),s.heap.get? b=none:=fun b hb=>by
  refine Qf ?_
  rcases jv6.mp hb with rfl | hb
  ·exact kj3 hL
  ·(refine c9 (jv9.mp hb) ?_;rintro q hq rfl)
   have h:L<q.2:=xabove q.1 q.2 hq
   exact jw9 (kj3 hL) (lq8 h)
 have cmem:∀ q∈(callEnvC fd L a).cells,(callEnvC fd L a).cells.lookup q.1=some q.2:=fun q hq =>
  i7 (x6 (of_decide_eq_true F.snd) (by trivial) fun p hp=>(nomatch hp)) hq
 have live:∀ b∈own (callEnvC fd L a),∃ o,h1.get? b=some o:=fun b hb=>by
  rcases jv6.mp hb with rfl | hb
  ·obtain ⟨o,es,ep,e,_⟩:=xns
   exact ⟨o,e⟩
  ·(refine c9 (jv9.mp hb) ?_;rintro q hq rfl)
   obtain ⟨o,e,_⟩:=xcell q.1 q.2 (cmem q hq)
   exact ⟨o,e⟩
 refine J7 (y.growHide (h':=h1) (t:=tk) (ys:=own (callEnvC fd L a)) xkeep fresh live) fun y1 st1 u1=>?_
 have notH:∀ b∈own (callEnvC fd L a),b∉foots H:=fun b hb q=>by
  refine oE (y.zlt b (y.sub b q)) fun o e=>?_
  exact a7 e (fresh b hb)
 have eok:EnvOk fd.scope (callEnvC fd L a):=⟨rfl,F.kind,F.glob,F.bi,fun z hz=>by
  refine Qa hz (fun q=>?_) fun q=>?_
  ·exact kk5.mp (n7 (k:=L+1) (acc:=[]) (Qe q))
  ·have:=kq3.mp F.free _ (Qe q)
   exact nb this,F.lam⟩
 have ySE:SatE pG w hb (callEnvC fd L a) (own (callEnvC fd L a)++Z) (names.zip ds) H { s with heap:=h1,toks:=tk }:=by
  refine { toSat:=y1,ownZ:=fun b m=>jv8 _ m,ownH:=notH,ondup:=?_,cells:=fun z c' hz=>⟨_,xcell z c' hz⟩,ns:=⟨_,xns,fun z d hz=>?_⟩ }
  ·refine kq6.mpr ⟨fun m=>?_,?_⟩
   ·refine c9 (jv9.mp m) fun q hq e=>?_
    have h:L<q.2:=xabove q.1 q.2 hq
    exact kj2 h e
   ·rw [List.Nodup,kv8];exact xapart
  ·refine c9 (T7 rl hz) fun v hv r=>?_
   have nd:((names.zip vs).map (·.1)).Nodup:=by
    refine a5 (nx0 (kj3 hlen.symm)) ?_
    exact of_decide_eq_true F.nd
   have bl:=(bv1 (kindOf:=(callEnvC fd L a).kindOf) (m:=fun u_=>none) (cm:=fun u_=>none) nd).1 v hv
   refine ⟨v,r.mono u1,?_⟩
   have hz':z∈names:=hbm (z,v) (Qe hv)
   refine Qa (nms z hz') (fun q=>?_) fun q=>?_
   ·rw [if_pos (by exact a5 (ekind ..) (a5 (q ..) rfl))] at bl
    exact .inl ⟨by exact a5 (ekind ..) (a5 (q ..) rfl),bl⟩
   ·rw [if_neg (by refine a5 (ekind ..) (a5 (q ..) ?_);decide)] at bl
    refine oE (kk5.mp (n7 (k:=L+1) (acc:=[]) (Qe q))) fun c' hc'=>?_
    refine .inr ⟨.inl (by exact a5 (ekind ..) (a5 (q ..) rfl)),c',hc',?_⟩
    refine p8 bl ?_
    exact xcell z c' hc'
 have fm1:X.fr→FmE (A.deeper (callEnvC fd L a)) (callEnvC fd L a) hb (own (callEnvC fd L a)++Z) H { s with heap:=h1,toks:=tk }:=fun hx=>by
  obtain ⟨⟨l,hl,hf⟩,hz⟩:=fm hx
  have efl:(A.deeper (callEnvC fd L a)).frames=some (callEnvC fd L a::l):=by refine (?_:A.frames.map _=_);refine a5 hl ?_;rfl
  have hz':∀ L'∈l.filterMap (·.frame),L'∈Z∧L'∉foots H:=fun L' m=>hz L' (by rw [O3,hl];exact m)
  refine ⟨⟨⟨_,efl,?_⟩,fun L' m=>?_⟩,l,efl,rfl,fun L' m q=>?_,fun q=>by have:=ln q;rw [O3,hl] at this;exact this⟩
  ·refine ⟨by refine (?_:fd.scope.kind≠.module);refine a5 F.kind ?_;decide,⟨L,?_⟩,?_⟩
   ·obtain ⟨o,es,ep,e,e2,_⟩:=xns
    refine ⟨o,efr,?_,e,fun vs q=>by replace q:=e2▸q;cases q⟩
    cases q:hb.get? L with
    | none=>rfl
    | some o'=>exact a7 (c7 (y.base L o' q)).1 (fresh L (jv0 ..))
   ·exact v8 (fun L' m o ho hd=>⟨o,xkeep _ _ ho,hd⟩) hf
  ·have m':L'∈(callEnvC fd L a::l).filterMap (·.frame):=by rw [O3,efl] at m;exact m
   rw [kq5,efr] at m'
   rcases jv6.mp m' with rfl | m'
   ·exact ⟨jv8 _ (jv0 ..),notH _ (jv0 ..)⟩
   ·exact ⟨jv7 _ (hz' L' m').1,(hz' L' m').2⟩
  ·refine oE (y.zlt L' (hz' L' m).1) fun o e=>?_
   exact a7 e (fresh L' q)
 exact k L _ _ rfl rfl ⟨eok,⟨by have:=rm.depth;refine (?_:A.depth+1+10 * n+20≤1000);exact d6 [_,_] 1 (.add (.add zA (.mulL 10 (.add zB nA))) (.num 20)) (.num 1000) (.add (.add (.add zA nA) (.mulL 10 zB)) (.num 20)) (.num 1000) tT this,by have:=rm.units;refine (?_:A.units+3+100 * n+300≤9900);exact d6 [_,_] 1 (.add (.add zA (.mulL 100 (.add zB nA))) (.num 300)) (.num 9900) (.add (.add (.add zA (.num 3)) (.mulL 100 zB)) (.num 300)) (.num 9900) tT this,rm.handled⟩,fm1,ySE⟩ (st1 []) fresh xkeep
theorem cv7 {M:Model} {E:Value→Shared→Prop} {Q:Unit→Shared→Prop} (th:ThrH hb A ow H s s') (ex:ExcAt ow H s e s' fun f=>f=some .none)
  (q:∀ s'',ThrH hb A ow H s s''→Q () s''):wpAny M A (setFlight (.ref e) none) Q E s':=by
 refine V7 ex fun lt oe y=>o4 y fun vs he hc hd h=>?_
 rcases h with ⟨h1,h⟩ | ⟨T,oT,ts,f,h1,hTe,hTl,hT,hdT,h3,hfl⟩
 ·exact nn h
 ·skip
  refine jk9 (kw1 he hd h1 ?_)
  refine a5 (if_pos (show (Value.ref T != Value.none)=true from by rfl)) ?_
  refine kv1 hT hdT (kz5.mp h3).1 ?_
  have other:∀ b,b≠T→(s'.heap.update T (Qn (·.setIfInBounds 3 Value.none))).get? b=s'.heap.get? b:=fun b hb=>Qk _ _ (Ne.symm hb)
  exact q _ (th.then_ [T] (fun a ha=>by refine a5 (jv4.mp ha) ?_;exact hTl) (fun a o e' n1 u_=>(other a fun q=>n1 (by simp [q])).trans e') (fun a o e' n1 u_=>⟨o.slots,(other a fun q=>n1 (by simp [q])).trans e'⟩)
     (fun a ha o ho=>by rw [jv4.mp ha,hT] at ho;(injection ho with i;subst i);exact ⟨ts,hdT⟩) rfl rfl)
theorem ThrH.mark {v:Option Value} (th:ThrH hb A ow H s s'):ThrH hb (A.mark v) ow H s s':=⟨th.keep,th.slots,th.frames,th.os,th.gens⟩
theorem ThrH.unmark {v:Option Value} (th:ThrH hb (A.mark v) ow H s s'):ThrH hb A ow H s s':=⟨th.keep,th.slots,th.frames,th.os,th.gens⟩
end
section
variable {w:World} {hb:Heap} {n:Nat} {X:Xs} {A:Around} {Z Z':List Addr} {s:Shared}
theorem fq4 {c1 c2 f c':Addr} {qual qc:Str} {clos:List (Str × Addr)} {pm ctv:Value} {v1 v2:Value} {d1 d2:V} {Q:VP} {R:Result→Shared→Prop} (ho:s.heap.get? f=some (kla_obj "<lambda>" qual cv1 bz3 V2 clos pm c' ctv)) (hcd:s.heap.CodeRec (.ref c') qc)
  (h1:clos.lookup ("signatures":Str)=some c1) (h2:clos.lookup ("scope":Str)=some c2) (i1:s.heap.IsCell c1 (some v1)) (i2:s.heap.IsCell c2 (some v2)) (r1:RepV PW w (f7 s Z) v1 d1) (r2:RepV PW w (f7 s Z) v2 d2)
  (rm:Room A (n+2)) (fm:X.fr→Fm A hb Z [] s) (y:Sat PW w hb Z [] s)
  (o:Op PW w hb n X (RepV PW w) (fun vs=>call (.ref 402) vs) [d1,.dat .none] [] fun d H1=>H1=[]∧w8 PW w hb d "bounds_of" [] fun g=>Op PW w hb n X (RepV PW w) (fun vs=>call g vs) [d,d2] [] Q)
  (ok:∀ {v s' Z' d H'},Step [] Z [] s Z' H' s'→Sat PW w hb Z' H' s'→RepV PW w (f7 s' Z') v d→Q d H'→R (.ok (.ret v)) s')
  (ex:X.ex→∀ s',ThrH hb A [] [] s s'→R (.ok (.ret .none)) s'):codeAny (model PW w) A (.call (.ref 635) ⟨[.ref f],[]⟩) R s:=by
 obtain ⟨⟨fd,F,e⟩,g⟩:=gk7 (w:=w) (a:=635) (code:=634) (st:=j4 38) (names:=[st "deed"]) rfl rfl rfl (by kernel_rfl) (ar1 fun u_=>by kernel_rfl)
 rw [dj6] at F
 have esc:fd.scope.names.lookup ("deed":Str)=some .local∧fd.scope.names.lookup ("ScopeFault":Str)=some .globalImplicit:=by refine a5 e ?_;exact ⟨by kernel_rfl,by kernel_rfl⟩
 refine gk6 (X:=X) (ds:=[.ref f]) F rfl (fun q=>absurd q (by refine a5 e ?_;decide)) rm fm y (.cons .ref .nil) fun L env1 s1 efr eloc p1 st1 fresh kk=>?_
 have u1:=y.mono st1
 have ed:env1.kindOf "deed"=some .local:=by refine a5 (p1.eok.kindOf ..) ?_;exact esc.1
 refine c9 p1.sat.ns fun m hn hm=>?_
 refine c9 (hm ("deed":Str) (.ref f) rfl) fun v r h=>?_
 have hv:m "deed"=some v:=by
  rcases h with h | ⟨h | h,_⟩
  ·exact h.2
  ·rw [ed] at h;cases h
  ·rw [ed] at h;cases h
 (replace r:=r.inv;subst r)
 have ho1:=kk _ _ ho
 have y1:=p1.sat.toSat
 refine k8 y.bs.T fun pp loose mg mb T=>?_
 refine lv6 (wpAny_Try_except (lv6 (mz6 (Call_ (lx3 (kj9 p1.eok.fn ed hn hv ?_) rfl)))))
 refine callWith_of (P:=fun h=>h.get? f=some (kla_obj "<lambda>" qual cv1 bz3 V2 clos pm c' ctv)) rfl (fun h e=>⟨.frame,.inl rfl,fun A Q E s k q=>?_⟩) (o5 rfl (lq3 ⟨ho1,?_⟩))
 ·skip
  exact jk9 (lx1 (k _ _ e) (jv5 q))
 refine lx2 (iq8 (n:=n) (X:=X) ho1 (hcd.keeps kk) h1 h2 (i1.keeps kk) (i2.keeps kk) (r1.mono u1) (r2.mono u1) p1.room (fun hx=>(p1.fm hx).toFm) y1 o ⟨fun st y' r q=>ok (st1.trans st y.zlt y.sub nofun) y' r q,fun hx e s2 t=>?_⟩)
 obtain ⟨⟨l,hl,hf⟩,hz⟩:=fm (X.imp hx)
 have efl:(A.deeper env1).frames=some (env1::l):=by refine (?_:A.frames.map _=_);refine a5 hl ?_;rfl
 refine ak9 efl efr (t.inFrame (ow:=[]) (L:=some L)) fun s3 th3 ex3=>?_
 refine T9 (fr:=none) th3 ex3 fun s4 th4 ex4=>?_
 have sb:∀ {s5:Shared},ThrH hb (A.deeper env1) [] [] s1 s5→Sub hb s5.heap:=fun {s5} th b o e=>by
  refine oA (c7 (y1.base b o e)) fun a1 a2=>?_
  refine th.keep b o a1 noE noE fun q=>a2 ((p1.fm (X.imp hx)).z b q).1
 obtain ⟨nm,q,N,bs,hdct,sn,sub,ab,col,dd0,k0,k1,k2',k3,k5,hC⟩:∃ nm q N bs hdct sn sub ab col dd k0 k1 k2 k3 k5,(KK w).lookup 100=some (excClassObj nm q 100 N bs [.ref 76,.ref 47,.type "Exception",.type "BaseException",.type "object"] hdct sn sub ab col dd k0 k1 k2 k3 k5 "Exception.__new__"):=⟨_,_,_,_,_,_,_,_,_,_,_,_,_,_,_,rfl⟩
 obtain ⟨lt,oe,vs,he,hec,hed,_⟩:=id ex4
 refine wpAny_handleBy_cons (codeAny_handlers_test (Name_function_global p1.eok.fn (by refine a5 (p1.eok.kindOf ..) ?_;exact esc.2) (loadGlobal_global (env:=env1) (by refine a5 p1.eok.glob ?_;exact (T.keeps (sb th4)).g) (mg_of y.bs.X T.g (ak1 w.params (v:=.ref 100) rfl)) ?_) rfl)) (by intro q;cases q)
 obtain ⟨hh,gg,dd,tt,oo⟩:=s4
 refine wpAny_excMatches_sub_self (y.bs.X.keeps (sb th4) _ _ hC) he hec (by rfl) (codeAny_handlers_suite ?_)
 refine cv7 th4.mark ex4 fun s5 th5=>?_
 refine lv6 (mz6 (mx0 ?_))
 exact ex hx _ (cj1 efr hl (fun b hb=>fresh b (by refine a5 (jv4.mp hb) (p8 eloc ?_);exact jv0 ..)) kk (st1.os) (y1.gens.trans y.gens.symm) th5.unmark)
end
end
end Mine
end
namespace Mine
section
noncomputable abbrev G5:Scope:=U6 (j4 41)
noncomputable def cz4 (hb:Heap):Prop:=∃ ob,hb.get? 4=some ob∧ob.cls=.type "module"∧ob.dict=some builtinsNs∧ob.data=.plain
noncomputable def HT:Option (Addr × Obj)→HL→HL
 | none,H=>(647,.raw (tabObj #[]))::H
 | some (c,oc),H=>(c,.raw oc)::(647,.raw (tabObj (#[]++#[rawInt 502,rawInt 26,.ref c])))::H
noncomputable def R6:Option (Addr × Obj)→Prop
 | none=>True
 | some (_,oc)=>∃ vs q t,oc.data=.fields vs∧vs[1]?=some (.str q t)
noncomputable def lamC (c1 c2:Addr):List (Str × Addr):=[(Str.ofString "signatures",c1),(Str.ofString "scope",c2)]
noncomputable abbrev XL:Xs:=⟨True,False,False.elim⟩
section
variable {w:World} {hb:Heap} {n:Nat} {X:Xs} {H:HL} {A:Around} {Z Z':List Addr} {ρ:c8} {s:Shared} {env:Env}
theorem gz8 {o:Option (Addr × Obj)} {Q:Value→Shared→Prop} {E:Value→Shared→Prop} (bm:cz4 hb) (ok:R6 o) (p:Pt PW w hb G5 env A n X Z ρ (HT o H) s)
  (k:∀ f c' qual qc pm ctv c1 c2 s1 o' Z',R6 o'→Step [] Z (HT o H) s Z' (HT o' H) s1→SatE PW w hb env Z' ρ (HT o' H) s1→env.cells.lookup ("signatures":Str)=some c1→env.cells.lookup ("scope":Str)=some c2 →
   s1.heap.get? f=some (kla_obj "<lambda>" qual cv1 bz3 V2 (lamC c1 c2) pm c' ctv)→s1.heap.CodeRec (.ref c') qc→Q (.ref f) s1):wpAny (model PW w) A (eval lamX env) Q E s:=by
 have y:=p.sat.toSat
 refine k8 y.bs.T fun pp loose mg mb T=>?_
 have sb:=y.base.trans (g6 s Z)
 have T':=T.keeps sb
 refine oE (p.eok.cel "signatures" (.inl (by kernel_rfl))) fun c1 h1=>?_
 refine oE (p.eok.cel "scope" (.inl (by kernel_rfl))) fun c2 h2=>?_
 have hcl:closureFor V2 env=pure (lamC c1 c2):=by
  have e1:cellOf env "signatures"=pure c1:=by unfold cellOf;exact a5 h1 rfl
  have e2:cellOf env "scope"=pure c2:=by unfold cellOf;exact a5 h2 rfl
  delta closureFor V2
  simp only [mx8,List.forIn_nil,beq_self_eq_true,if_true]
  refine a5 e2 ?_
  refine a5 e1 ?_
  rfl
 have hbi:s.heap.BuiltinsAt mg 647:=by
  refine c9 bm fun ob b1 b2=>?_
  exact ⟨4,ob,mg_of y.bs.X T.g (show nsIn (Kf w.params) mainGlobals "__builtins__"=some (some (.ref 4)) by rfl),by exact kw7 _,by decide,by decide,sb _ _ b1,b2⟩
 have hcode:=p.eok.lam (by kernel_rfl)
 have C:CodeHd s.heap 649 647:=codeHd_of_K y.K (by rfl)
 refine kla_eval rfl ?_
 induction o using Qd with
 | none =>
  have hP:s.heap.get? 647=some (tabObj #[]):=y.own _ (jv0 ..)
  refine kla_makeFunction (c:=649) (P:=647) (ps:=#[]) (mg:=mg) hcl p.eok.glob T'.g hcode C hP trivial rfl (by decide) hbi fun c' ctv h' tk hx hge hlt hrec htb=>?_
  obtain ⟨_,oc,vs,t,e,hoc,hd,hv⟩:=id hrec
  (injection e with i;subst i)
  generalize hfo:kla_obj "<lambda>" (env.qual++"<lambda>") cv1 bz3 V2 (lamC c1 c2) ((mg "__name__").getD .none) c' ctv=fo
  have nc:s.heap.get? c'=none:=Qf hge
  have kb:∀ b o,b≠647→s.heap.get? b=some o→(h'.push fo).get? b=some o:=fun b o hb e=>Qb _ (hx b o hb e)
  have m0:647∈foots (HT none H):=jv0 ..
  have z0:=y.sub 647 m0
  have hm:Sub (f7 s Z) (f7 { s with heap:=h'.push fo,toks:=tk } (c'::Z)):=fun b o e=>by
   refine oA (c7 e) fun e1 nz=>?_
   refine k9 (kb b o (fun q=>nz (q▸z0)) e1) fun q=>?_
   rcases jv6.mp q with rfl | q
   ·exact a7 e1 nc
   ·exact nz q
  have htb':(h'.push fo).get? 647=some (tabObj (#[]++#[rawInt 502,rawInt 26,.ref c'])):=Qb _ htb
  have st:Step [] Z (HT none H) s (c'::Z) (HT (some (c',oc)) H) { s with heap:=h'.push fo,toks:=tk } :=
   ⟨fun a o e u_ n2=>kb a o (fun q=>n2 (q▸m0)) e,fun a m=>(jv6.mp m).elim (fun q=>.inr (q▸nc)) .inl,fun a m=>.inl (jv3 _ m),fun a m=>(jv6.mp m).elim (fun q=>.inr (q▸nc)) .inl,rfl⟩
  have y1:Sat PW w hb (c'::Z) (HT (some (c',oc)) H) { s with heap:=h'.push fo,toks:=tk }:=by
   refine ⟨y.bs,y.base.trans hm,fun a m=>?_,fun a m=>?_,kq6.mpr ⟨fun q=>?_,y.nd⟩,fun q hq=>?_,y.gens⟩
   ·rcases jv6.mp m with rfl | m
    ·exact ⟨oc,Qb _ hoc⟩
    ·by_cases e7:a=647
     ·exact ⟨_,e7▸htb'⟩
     ·refine oE (y.zlt a m) fun o e=>?_
      exact ⟨o,kb a o e7 e⟩
   ·rcases jv6.mp m with rfl | m
    ·exact jv0 ..
    ·exact jv3 _ (y.sub a m)
   ·refine oE (y.zlt c' (y.sub c' q)) fun o e=>?_
    exact a7 e nc
   ·rcases jv6.mp hq with rfl | hq
    ·exact Qb _ hoc
    rcases jv6.mp hq with rfl | hq
    ·exact htb'
    ·obtain ⟨b,o⟩:=q
     exact (y.own _ (jv3 _ hq)).mono hm fun c hc x e=>kb c x (fun q=>(kq6.mp y.nd).1 (q▸r9 hq hc)) e
  exact k _ c' _ _ _ ctv c1 c2 _ (some (c',oc)) _ ⟨vs,_,t,hd,hv⟩ st (p.sat.back st y1) h1 h2 (by refine a5 hfo ?_;exact Qc _ (by refine p8 hfo ?_;rfl)) ⟨c',oc,vs,t,rfl,Qb _ hoc,hd,hv⟩
 | some q =>
  obtain ⟨c',oc⟩:=q
  refine w5 ok fun vs q t hd hv=>?_
  have hP:s.heap.get? 647=some (tabObj (#[]++#[rawInt 502,rawInt 26,.ref c'])):=y.own _ (jv3 _ (jv0 ..))
  have hC:s.heap.get? c'=some oc:=y.own _ (jv0 ..)
  refine kla_makeFunctionHit (c:=649) (P:=647) (ps:=#[]++#[rawInt 502,rawInt 26,.ref c']) (mg:=mg) hcl p.eok.glob T'.g hcode C hP trivial rfl hbi fun ctv h' tk kk hsz=>?_
  have k2:Sub s.heap (h'.push (kla_obj "<lambda>" (env.qual++"<lambda>") cv1 bz3 V2 (lamC c1 c2) ((mg "__name__").getD .none) c' ctv)):=fun b o e=>Qb _ (kk b o e)
  exact k _ c' _ q _ ctv c1 c2 _ (some (c',oc)) Z ⟨vs,q,t,hd,hv⟩ (.grow k2) (p.grow k2).sat h1 h2 (Qc _ rfl) ⟨c',oc,vs,t,rfl,k2 _ _ hC,hd,hv⟩
theorem ez8 {x:Str} {d:V} {c:Addr} (hk:G5.names.lookup x=some .cell) (p:EnvOk G5 env) (y:SatE PW w hb env Z ρ H s) (hx:ρ.lookup x=some d) (hc:env.cells.lookup x=some c):∃ v,RepV PW w (f7 s Z) v d∧s.heap.IsCell c (some v):=by
 refine c9 y.ns fun m hn hm=>?_
 refine c9 (hm x d hx) fun v r h=>?_
 refine ⟨v,r,?_⟩
 rcases h with ⟨h,_⟩ | ⟨_,c',h1,h2⟩
 ·rw [p.kindOf,hk] at h;cases h
 ·rw [hc] at h1;(injection h1 with i;subst i);exact h2
theorem dk0 {s':Shared} (y:SatE PW w hb env Z ρ H s) (hf:O3 A=[env.locals]) (th:ThrH hb A [] [] s s'):Step (own env) Z H s Z H s'∧SatE PW w hb env Z ρ H s':=by
 have kp:∀ a o,s.heap.get? a=some o→a≠env.locals→s'.heap.get? a=some o:=fun a o e n=>th.keep a o e noE noE (by refine a5 hf ?_;exact fun q=>n (jv4.mp q))
 have nl:env.locals∉foots H:=y.ownH _ (jv0 ..)
 have zl:env.locals∈Z:=y.ownZ _ (jv0 ..)
 have hm:Sub (f7 s Z) (f7 s' Z):=fun b o e=>by
  refine oA (c7 e) fun e1 nz=>?_
  exact k9 (kp b o e1 fun q=>nz (q▸zl)) nz
 have kc:∀ {x:Str} {c:Addr} {v:Option Value},env.cells.lookup x=some c→s.heap.IsCell c v→s'.heap.IsCell c v:=fun {x c v} hx hi=>by
  refine c9 hi fun o ho hd=>?_
  refine ⟨o,kp c o ho fun q=>?_,hd⟩
  exact (kq6.mp y.ondup).1 (q▸jw3 (Qe hx))
 refine ⟨⟨fun a o e n1 u_=>kp a o e fun q=>n1 (q▸jv0 ..),fun a m=>.inl m,fun a m=>.inl m,fun a m=>.inl m,th.os⟩,{ toSat:=⟨y.bs,y.base.trans hm,fun a m=>?_,y.sub,y.nd,fun p hp=>?_,th.gens.trans y.gens⟩,ownZ:=y.ownZ,ownH:=y.ownH,ondup:=y.ondup,cells:=fun x c hx=>?_,ns:=?_ }⟩
 ·refine oE (y.zlt a m) fun o e=>?_
  by_cases h:a=env.locals
  ·refine oE (th.slots a o e noE noE (by refine a5 hf (a5 h ?_);exact jv4.mpr rfl)) fun sl q=>?_
   exact ⟨_,q⟩
  ·exact ⟨o,kp a o e h⟩
 ·obtain ⟨b,o⟩:=p
  exact (y.own _ hp).mono hm fun c hc x e=>kp c x e fun q=>nl (q▸r9 hp hc)
 ·refine oE (y.cells x c hx) fun v h=>?_
  exact ⟨v,kc hx h⟩
 ·obtain ⟨m,⟨o,es,ep,ho,hd,r⟩,hm'⟩:=y.ns
  refine oE (th.slots _ o ho noE noE (by refine a5 hf ?_;exact jv4.mpr rfl)) fun sl q=>?_
  refine ⟨m,⟨_,es,ep,q,hd,r⟩,fun x d hx=>?_⟩
  refine c9 (hm' x d hx) fun v r h=>?_
  exact ⟨v,r.mono hm,h.imp id fun ⟨a,c,b1,b2⟩=>⟨a,c,b1,kc b1 b2⟩⟩
noncomputable def dj7:Expr:=.Call (.Name "_law_heard" ⟨502,15,502,25⟩) [lamX] [] ⟨502,15,502,76⟩
theorem fv0 {o:Option (Addr × Obj)} {Q1:V→Prop} {Q:VP} {d1 d2:V} (rf:Prop) (bm:cz4 hb) (ok:R6 o) (hs:ρ.lookup ("signatures":Str)=some d1) (hc:ρ.lookup ("scope":Str)=some d2)
  (op:Op PW w hb n ⟨True,rf,fun u_=>trivial⟩ (RepV PW w) (fun vs=>call (.ref 402) vs) [d1,.dat .none] [] fun d H1=>H1=[]∧w8 PW w hb d "bounds_of" [] fun g=>Op PW w hb n ⟨True,rf,fun u_=>trivial⟩ (RepV PW w) (fun vs=>call g vs) [d,d2] [] fun d H'=>H'=[]∧Q1 d)
  (q1:∀ d o',R6 o'→Q1 d→Q d (HT o' H)) (q2:rf→∀ o',R6 o'→Q (.dat .none) (HT o' H)):TE PW w hb G5 (n+2) XL ρ dj7 (HT o H) Q:=by
 refine .intro fun env A Z s R E p ex k=>?_
 have y:=p.sat.toSat
 refine k8 y.bs.T fun pp loose mg mb T=>?_
 have T':=T.keeps (y.base.trans (g6 s Z))
 refine Call_ (Name_function_global p.eok.fn (by refine a5 (p.eok.kindOf ..) ?_;kernel_rfl) (loadGlobal_global (env:=env) (by refine a5 p.eok.glob ?_;exact T'.g) (mg_of y.bs.X T.g (ak1 w.params (v:=.ref 635) rfl)) ?_) rfl)
 refine callWith_of (P:=fun h=>(KK w).In h) (by rfl) (G6 (w:=w) (f:=.ref 635) rfl) (o5 (by rfl) ?_)
 refine lq1 (gz8 bm ok p fun f c' qual qc pm ctv c1 c2 s1 o' Z1 ok' st y1 h1 h2 hf hcd=>lq3 ⟨y1.toSat.K,?_⟩) rfl
 have st':=st.own_more (own':=own env) (fun _ h=>absurd h kq8)
 have p1:=p.step st' y1
 refine c9 (ez8 (by kernel_rfl) p.eok y1 hs h1) fun v1 r1 i1=>?_
 refine c9 (ez8 (by kernel_rfl) p.eok y1 hc h2) fun v2 r2 i2=>?_
 refine lx2 (fq4 (n:=n) (X:=⟨True,rf,fun u_=>trivial⟩) hf hcd rfl rfl i1 i2 r1 r2 p.room (fun hx=>(p1.fm hx).toFm.bare) y1.toSat.bare op (fun {v s2 Z2 d H2} st2 y2 r q=>?_) fun hx s2 th=>?_)
 ·obtain ⟨rfl,q⟩:=q
  refine oA (y1.toSat.dress st2 y2) fun y3 st3=>?_
  have st4:=st3.own_more (own':=own env) (fun _ h=>absurd h kq8)
  have p3:=p1.step st4 (y1.back st3 y3)
  exact k (p.tr p1 st' st4) p3 r ⟨rfl,q1 _ _ ok' q⟩
 ·obtain ⟨l,hl,hfr,_,ln⟩:=(p.fm trivial).top
  have e:O3 A=[env.locals]:=by rw [O3,hl];refine (?_:List.filterMap _ (_::l)=_);exact a5 kq5 (a5 hfr (a5 (ln (by refine a5 p.eok.scp ?_;kernel_rfl)) rfl))
  refine oA (dk0 y1 e th) fun st4 y4=>?_
  exact k (p.tr p1 st' st4) (p1.step st4 y4) (.dat ⟨_,.none⟩) ⟨rfl,q2 hx _ ok'⟩
end
end
section
noncomputable def N6:List Str:=[tN 0,tN 1,tN 2,bN 0,bN 1,bN 2]
noncomputable def n6Ok (x:Str):Bool:=!(x == ("":Str))&&!(x == ("int":Str))&&!(x == ("Int":Str))&&!(x == ("X":Str))&&!(x == ("o/next":Str))&&x.length == 2
theorem n6_nd:N6.Nodup:=by
 have h:decide N6.Nodup=true:=by kernel_rfl
 exact of_decide_eq_true h
theorem M7 {x:Str} (h:x∈N6):x≠""∧x≠"int"∧x≠"Int"∧x≠"X"∧x≠"o/next"∧x.length=2:=by
 have a:N6.all n6Ok=true:=by kernel_rfl
 have:=kq3.mp a x h
 unfold n6Ok at this
 simp only [kz7,lk3,beq_eq_false_iff_ne,beq_iff_eq] at this
 obtain ⟨⟨⟨⟨⟨a,b⟩,c⟩,d⟩,e⟩,f⟩:=this
 exact ⟨a,b,c,d,e,f⟩
theorem fx0 {F:List Sg} {ls:List Str} {m j:Nat} (g:Gen F ls m j):F.map Sg.name=(Qg m).map tN++(Qg j).map bN:=by
 induction g with
 | nil=>rfl
 | top _ _ _ _ ih=>refine a5 kq0 (a5 ih (a5 kk6 ?_));simp
 | line _ _ _ _ _ ih=>refine a5 kq0 (a5 ih (a5 kk6 ?_));simp
 | part _ _ _ _ _ _ _ _ ih=>refine a5 kq0 (a5 ih (a5 kk6 ?_));simp
theorem ak2 {F:List Sg} {ls:List Str} {m j:Nat} (g:Gen F ls m j) (hm:m≤3) (hj:j≤3):(F.map Sg.name).Sublist N6:=by
 refine a5 (fx0 g) ?_
 exact ((mw5.mpr hm).map tN).append ((mw5.mpr hj).map bN)
inductive Ok:List Sg→Prop
 | nil:Ok []
 | put {F:List Sg} {g:Sg}:Ok F→g.name∉F.map Sg.name→(∀ o∈g.direct,o∈F.map Sg.name)→(g.parent≠""→∃ q∈F,q.name=g.parent∧q.supers=[])→(g.supers≠[]→g.abs=false∧g.parent="")→g.supers.length≤2→g.mult∈(["","one","lone","some"]:List Str)→Ok (F++[g])
theorem jj3 {F:List Sg} {ls:List Str} {m j:Nat} (g:Gen F ls m j):∀ x∈ls,∃ q∈F,q.name=x∧q.supers=[]:=by
 have more:∀ {F:List Sg} {ls:List Str} {g:Sg},g.supers=[]→(∀ x∈ls,∃ q∈F,q.name=x∧q.supers=[])→∀ x∈ls++[g.name],∃ q∈F++[g],q.name=x∧q.supers=[]:=fun {F ls g} hg ih x hx=>by
  refine Qa (jw1.mp hx) (fun hx=>?_) fun hx=>?_
  ·refine c9 (ih x hx) fun q a b=>?_
   exact ⟨q,jv8 _ a,b⟩
  ·exact ⟨g,jv7 _ (jv4.mpr rfl),(jv4.mp hx).symm,hg⟩
 induction g with
 | nil=>exact fun _ h=>absurd h kq8
 | top ab mu _ _ ih=>exact more (g:=⟨_,ab,mu,"",[]⟩) rfl ih
 | line mu p _ _ _ ih=>exact more (g:=⟨_,false,mu,p,[]⟩) rfl ih
 | part _ _ _ _ _ _ _ _ ih =>
  intro x hx
  refine c9 (ih x hx) fun q a b=>?_
  exact ⟨q,jv8 _ a,b⟩
theorem jj2 {F:List Sg} {ls:List Str} {m j:Nat} (g:Gen F ls m j) (hm:m≤3) (hj:j≤3):Ok F:=by
 have fresh:∀ {F:List Sg} {g:Sg},((F++[g]).map Sg.name).Sublist N6→g.name∉F.map Sg.name:=fun {F g} h q=>by
  have:=n6_nd.sublist h
  rw [kq0,kq9] at this
  exact this.2.2 _ q _ (jv4.mpr rfl) rfl
 induction g with
 | nil=>exact .nil
 | top ab mu g hmu ih=>exact .put (ih (by exact d6 [_] 1 (.add zA nA) (.num 3) zA (.num 3) tT hm) hj) (fresh (ak2 (.top ab mu g hmu) hm hj)) (fun o ho=>by simp [Sg.direct] at ho) (fun h=>absurd rfl h) (fun h=>absurd rfl h) (kx0 _) hmu
 | line mu p g hmu hp ih =>
  refine o9 (jj3 g p hp) fun q a b c=>?_
  refine .put (ih hm (by exact d6 [_] 1 (.add zA nA) (.num 3) zA (.num 3) tT hj)) (fresh (ak2 (.line mu p g hmu hp) hm hj)) (fun o ho=>?_) (fun u_=>⟨q,a,b,c⟩) (fun h=>absurd rfl h) (kx0 _) hmu
  have:o=p:=by
   unfold Sg.direct at ho
   dsimp only at ho
   split at ho
   ·cases ho
   ·simpa using ho
  refine a5 this (p8 b ?_)
  exact jw3 a
 | part mu sup g hmu h1 h2 h3 h4 ih =>
  refine .put (ih hm (by exact d6 [_] 1 (.add zA nA) (.num 3) zA (.num 3) tT hj)) (fresh (ak2 (.part mu sup g hmu h1 h2 h3 h4) hm hj)) (fun o ho=>h4 o (by trivial)) (fun h=>absurd rfl h) (fun u_=>⟨rfl,rfl⟩) h2 hmu
theorem G4 {T:List Sg} (nd:(T.map Sg.name).Nodup) {x:Str} {g:Sg}:c0 T x=some g ↔ g∈T∧g.name=x:=by
 constructor
 ·exact w2
 ·(intro yz;refine oA yz ?_;clear yz;rintro m rfl)
  induction T with
  | nil=>cases m
  | cons a T ih =>
   unfold c0 at ih ⊢
   rw [kx1,kq6] at nd
   refine a5 (kw0) ?_
   rcases jv6.mp m with rfl | m
   ·simp
   ·have:(g.name == a.name)=false:=beq_false_of_ne fun e=>nd.1 (e▸jw3 m)
    refine a5 this ?_
    exact ih nd.2 m
theorem bk0 {T F:List Sg} (p:T.Perm F) (nd:(F.map Sg.name).Nodup) (x:Str):c0 T x=c0 F x:=by
 have nt:(T.map Sg.name).Nodup:=(p.map Sg.name).nodup_iff.mpr nd
 cases e:c0 F x with
 | some g =>
  have:=(G4 nd).mp e
  exact (G4 nt).mpr ⟨p.mem_iff.mpr this.1,this.2⟩
 | none =>
  cases e2:c0 T x with
  | none=>rfl
  | some g =>
   have:=(G4 nt).mp e2
   rw [(G4 nd).mpr ⟨p.mem_iff.mp this.1,this.2⟩] at e
   exact ns e
theorem X6 {F:List Sg} (h:Ok F):(F.map Sg.name).Nodup:=by
 induction h with
 | nil=>exact kk9
 | put _ hn _ _ _ _ _ ih =>
  rw [kq0,kq9]
  exact ⟨ih,by simp,fun a ha b hb e=>hn (by rw [jv4.mp (show b∈[_] from hb)] at e;exact e▸ha)⟩
theorem E8 {F:List Sg} (h:Ok F):∀ g∈F,(∀ o∈g.direct,o∈F.map Sg.name)∧(g.parent≠""→∃ q∈F,q.name=g.parent∧q.supers=[])∧(g.supers≠[]→g.abs=false∧g.parent="")∧g.supers.length≤2∧g.mult∈(["","one","lone","some"]:List Str):=by
 induction h with
 | nil=>exact fun _ h=>absurd h kq8
 | put _ _ h1 h2 h3 h4 h5 ih =>
  intro g hg
  refine Qa (jw1.mp hg) (fun hg=>?_) fun hg=>?_
  ·refine J7 (ih g hg) fun a b c=>?_
   refine ⟨fun o ho=>?_,fun q=>?_,c⟩
   ·refine a5 kq0 ?_;exact jv8 _ (a o ho)
   ·refine c9 (b q) fun q m r=>?_
    exact ⟨q,jv8 _ m,r⟩
  ·refine a5 (jv4.mp hg) ?_
   refine ⟨fun o ho=>?_,fun q=>?_,h3,h4,h5⟩
   ·refine a5 kq0 ?_;exact jv8 _ (h1 o ho)
   ·refine c9 (h2 q) fun q m r=>?_
    exact ⟨q,jv8 _ m,r⟩
theorem ok_tp {F:List Sg} (h:Ok F) (lk:Str→Option Sg):(∀ g∈F,lk g.name=some g)→∃ tp:Str→Str,∀ g∈F,(g.supers≠[]∧tp g.name="")∨(g.supers=[]∧(∃ l,l.length≤F.length∧Up lk g.name l∧tp g.name=(g.name::l).getLast (kj1 _ _))∧∃ t∈F,tp g.name=t.name∧tp t.name=t.name):=by
 induction h with
 | nil=>exact fun u_=>⟨fun u_=>"",(fun _ h=>absurd h kq8)⟩
 | @put F g0 _ hn _ h2 _ _ _ ih =>
  intro hl
  refine oE (ih fun g m=>hl g (jv8 _ m)) fun tp ih=>?_
  have ne:∀ g∈F,g.name≠g0.name:=fun g hg e=>hn (e▸jw3 hg)
  have l0:=hl g0 (jv7 _ (jv4.mpr rfl))
  refine ⟨fun x=>if x=g0.name then (if g0.supers=[] then (if g0.parent="" then g0.name else tp g0.parent) else "") else tp x,fun g hg=>?_⟩
  refine Qa (jw1.mp hg) (fun m=>?_) fun m=>?_
  ·dsimp only
   refine a5 (if_neg (ne g m)) ?_
   rcases ih g m with h | ⟨h,⟨l,a,b⟩,t,c,d,e⟩
   ·exact .inl h
   ·exact .inr ⟨h,⟨l,by refine a5 jw8 ?_;exact d6 [_,_,_] 1 zA zB zA (.add zB zC) tT a,b⟩,t,jv8 _ c,d,by refine a5 (if_neg (ne t c)) ?_;exact e⟩
  ·have e:g=g0:=jv4.mp m
   subst e
   dsimp only
   refine a5 (if_pos rfl) ?_
   by_cases hs:g.supers=[]
   ·refine a5 (if_pos hs) ?_
    refine .inr ⟨hs,?_⟩
    by_cases hp:g.parent=""
    ·refine a5 (if_pos hp) ?_
     exact ⟨⟨[],kx0 _,.top l0 hp,rfl⟩,g,hg,rfl,if_pos rfl⟩
    ·refine a5 (if_neg hp) ?_
     refine o9 (h2 hp) fun q mq eq sq=>?_
     rcases ih q mq with h | ⟨_,⟨l,a,b,c⟩,t,mt,d,e⟩
     ·exact absurd sq h.1
     ·rw [eq] at b d
      have c':tp g.parent=(g.parent::l).getLast (kj1 _ _):=by
       have:=c
       simp only [eq] at this
       exact this
      refine ⟨⟨g.parent::l,by refine a5 jw8 ?_;exact lk9 a,.up l0 hp b,?_⟩,t,jv8 _ mt,d,by refine a5 (if_neg (ne t mt)) ?_;exact e⟩
      refine a5 (nq0 (kj1 _ _)) ?_
      exact c'
   ·refine a5 (if_neg hs) ?_
    exact .inl ⟨hs,rfl⟩
theorem bq8 {α β:Type} {f g:α→List β}:∀ {l:List α},(∀ x∈l,f x=g x)→l.flatMap f=l.flatMap g
 | [],_=>rfl
 | a::l,h=>by exact a5 lk2 (a5 lk2 (a5 (h a (jv0 ..)) (a5 (bq8 fun x hx=>h x (jv3 _ hx)) rfl)))
theorem gx5 {F:List Sg} (h:Ok F) (bs:Str→List Int):∃ (up:Str→List Int) (rk:Str→Nat),∀ g∈F,(g.supers=[]→up g.name=bs g.name)∧(g.supers≠[]→up g.name=z5 (g.supers.flatMap up))∧rk g.name<F.length∧∀ o∈g.supers,rk o<rk g.name:=by
 induction h with
 | nil=>exact ⟨fun u_=>[],fun u_=>0,(fun _ h=>absurd h kq8)⟩
 | @put F g0 ok hn h1 _ _ _ _ ih =>
  refine oEE ih fun up rk ih=>?_
  have sup:∀ g∈F++[g0],∀ o∈g.supers,o∈F.map Sg.name:=fun g hg o ho=>by
   refine Qa (jw1.mp hg) (fun m=>?_) fun m=>?_
   ·exact (E8 ok g m).1 o (jv7 _ ho)
   ·rw [jv4.mp m] at ho
    exact h1 o (jv7 _ ho)
  have ne:∀ x∈F.map Sg.name,x≠g0.name:=fun x hx e=>hn (e▸hx)
  refine ⟨fun x=>if x=g0.name then (if g0.supers=[] then bs x else z5 (g0.supers.flatMap up)) else up x,fun x=>if x=g0.name then F.length else rk x,fun g hg=>?_⟩
  have hs:=sup g hg
  have fl:g.supers.flatMap (fun x=>if x=g0.name then (if g0.supers=[] then bs x else z5 (g0.supers.flatMap up)) else up x)=g.supers.flatMap up:=bq8 fun o ho=>if_neg (ne o (hs o ho))
  refine a5 fl ?_
  refine Qa (jw1.mp hg) (fun m=>?_) fun m=>?_
  ·refine G9 (ih g m) fun a b c d=>?_
   have en:=ne g.name (jw3 m)
   dsimp only
   refine a5 (if_neg en) (a5 (if_neg en) ?_)
   refine ⟨a,b,by refine a5 jw8 ?_;exact d6 [_,_,_] 1 (.add zA nA) zB (.add zA nA) (.add zB zC) tT c,fun o ho=>?_⟩
   refine a5 (if_neg (ne o (hs o ho))) ?_
   exact d o ho
  ·have e:g=g0:=jv4.mp m
   (replace e:=e.symm;subst e)
   dsimp only
   refine a5 (if_pos rfl) (a5 (if_pos rfl) ?_)
   refine ⟨fun h=>if_pos h,fun h=>if_neg h,by refine a5 jw8 ?_;exact kv5 _,fun o ho=>?_⟩
   refine a5 (if_neg (ne o (hs o ho))) ?_
   (refine c9 (jv9.mp (hs o ho)) ?_;rintro q mq rfl)
   exact (ih q mq).2.2.1
theorem gx6 {F:List Sg} (h:Ok F):∀ l:List Str,l≠[]→(∀ x∈l,x∈F.map Sg.name)→∃ g∈F,g.name∈l∧∀ o∈g.direct,o∉l:=by
 induction h with
 | nil =>
  intro l hl h
  induction l using Qh with
  | nil=>exact absurd rfl hl
  | cons a l=>have:=h a (jv0 ..);cases this
 | @put F g0 ok hn h1 _ _ _ _ ih =>
  intro l hl h
  by_cases e:l.filter (fun x=>decide (x∈F.map Sg.name))=[]
  ·have no:∀ x∈l,x∉F.map Sg.name:=fun x hx q=>by
    have:=lz1.mp e x hx
    exact this (decide_eq_true q)
   refine oE (List.exists_mem_of_ne_nil l hl) fun a ha=>?_
   have ea:a=g0.name:=by
    have:=h a ha
    rw [kq0] at this
    refine Qa (jw1.mp this) (fun q=>?_) fun q=>?_
    ·exact absurd q (no a ha)
    ·exact jv4.mp q
   exact ⟨g0,jv7 _ (jv4.mpr rfl),ea▸ha,fun o ho q=>no o q (h1 o ho)⟩
  ·refine o9 (ih _ e fun x hx=>of_decide_eq_true (kj0.mp hx).2) fun g m hg hd=>?_
   refine ⟨g,jv8 _ m,(kj0.mp hg).1,fun o ho q=>hd o ho (kj0.mpr ⟨q,decide_eq_true ((E8 ok g m).1 o ho)⟩)⟩
theorem ok_pf {F T:List Sg} (h:Ok F) (p:T.Perm F):∀ (n:Nat) (f l:List Str),l.length=n→(∀ x∈F.map Sg.name,x∈f∨x∈l)→(∀ x∈l,x∈F.map Sg.name)→∃ out,Pf T f l out∧out.Perm (f++l):=by
 intro n
 induction n with
 | zero =>
  intro f l hl _ _
  induction l using Qh with
  | nil=>exact ⟨f,.done,by rw [kq4]⟩
  | cons a l=>cases hl
 | succ n ih =>
  intro f l hl hk hs
  have hne:l≠[]:=fun e=>by rw [e] at hl;cases hl
  refine o9 (gx6 h l hne hs) fun g m hg hd=>?_
  have rd:w4 T f g.name=true:=by
   unfold w4
   rw [bk0 p (X6 h),(G4 (X6 h)).mpr ⟨m,rfl⟩]
   refine kq3.mpr fun o ho=>ak5.mpr ?_
   exact (hk o ((E8 h g m).1 o ho)).resolve_right (hd o ho)
  cases e:(l.filter (w4 T f)).head? with
  | none =>
   rw [List.head?_eq_none_iff] at e
   exact absurd rd (lz1.mp e _ hg)
  | some a =>
   have ma:a∈l:=(kj0.mp (List.mem_of_mem_head? e)).1
   have hk':∀ x∈F.map Sg.name,x∈f++[a]∨x∈l.erase a:=fun x hx=>by
    refine Qa (hk x hx) (fun q=>?_) fun q=>?_
    ·exact .inl (jv8 _ q)
    ·by_cases ex:x=a
     ·exact .inl (jv7 _ (jv4.mpr ex))
     ·exact .inr ((List.mem_erase_of_ne ex).mpr q)
   refine c9 (ih (f++[a]) (l.erase a) (by refine a5 (lk5 ma) ?_;exact kq1 (i5 [_,_,_] 1 zA (.add zB nA) 1 (.add zC nA) zA zC zB tT (o7 hl) (sC (d6 [_,_] 1 (.add zA nA) zB nA zB tT (H6 hl)))) (i5 [_,_,_] 1 (.add zA nA) zB 1 zB (.add zC nA) zA zC tT (H6 hl) sA)) hk' fun x hx=>hs x (mk8 hx)) fun out a1 a2=>?_
   refine ⟨out,.step e a1,a2.trans ?_⟩
   refine a5 (kk4 ..) ?_
   exact (List.perm_cons_erase ma).symm.append_left f
end
section
theorem gk3 {F:List Sg} {ls:List Str} {m j:Nat} (g:Gen F ls m j):(F.filter fun g:Sg=>decide (g.parent≠"")).length≤j:=by
 induction g with
 | nil=>exact jw4 _
 | top ab mu _ _ ih=>refine a5 (lj5 ..) (a5 (jw8 ..) ?_);trivial
 | line mu p _ _ _ ih =>
  refine a5 (lj5 ..) (a5 (jw8 ..) ?_)
  exact Nat.add_le_add ih (kv3 ..)
 | part mu sup _ _ _ _ _ _ ih=>refine a5 (lj5 ..) (a5 (jw8 ..) ?_);exact Nat.le_succ_of_le (by trivial)
structure Pl (F T:List Sg) (ord:List Str) (tp:Str→Str):Prop where
 ok:Ok F
 sub:(F.map Sg.name).Sublist N6
 kid:(F.filter fun g:Sg=>decide (g.parent≠"")).length≤3
 p:T.Perm F
 po:ord.Perm (F.map Sg.name)
 tp:∀ g∈F,(g.supers≠[]∧tp g.name="")∨(g.supers=[]∧(∃ l,l.length≤F.length∧Up (c0 F) g.name l∧tp g.name=(g.name::l).getLast (kj1 _ _))∧∃ t∈F,tp g.name=t.name∧tp t.name=t.name)
noncomputable def cw5 (x:Str):Bool:=(PyData.str x).canLay0
theorem shS {x:Str} (h:cw5 x=true):Sh 0 (.str x):=⟨h,jw4 _⟩
theorem jk0:(N6.all fun x=>cw5 x&&cw5 ("scope "++x)&&(Qg 10).all fun k=>cw5 (T6 x k))=true:=by kernel_rfl
theorem jj9:((["","one","lone","some"]:List Str).all cw5)=true:=by kernel_rfl
theorem c6 {x:Str} (h:x∈N6):Sh 0 (.str x)∧Sh 0 (.str ("scope "++x))∧∀ k,k<10→Sh 0 (.str (T6 x k)):=by
 have:=kq3.mp jk0 x h
 simp only [kz7,kq3,kx9] at this
 exact ⟨shS this.1.1,shS this.1.2,fun k hk=>shS (this.2 k hk)⟩
theorem cM {x:Str} (h:x∈(["","one","lone","some"]:List Str)):Sh 0 (.str x):=shS (kq3.mp jj9 x h)
section
variable {F T:List Sg} {ord:List Str} {tp:Str→Str} {df:Int} {ts:List Told} {lined:Option Str}
theorem Pl.self (P:Pl F T ord tp):Pl F F ord tp:=⟨P.ok,P.sub,P.kid,.refl _,P.po,P.tp⟩
theorem Pl.fn (P:Pl F T ord tp):c0 T=c0 F:=funext (bk0 P.p (X6 P.ok))
theorem Pl.iff (P:Pl F T ord tp) {x:Str} {g:Sg}:c0 T x=some g ↔ g∈F∧g.name=x:=by refine a5 P.fn ?_;exact G4 (X6 P.ok)
theorem Pl.n6 (P:Pl F T ord tp) {x:Str} (h:x∈ord):x∈N6:=P.sub.subset (P.po.mem_iff.mp h)
theorem Pl.len (P:Pl F T ord tp):F.length≤6:=by have:=P.sub.length_le;rwa [jv1] at this
theorem Pl.olen (P:Pl F T ord tp):ord.length≤6:=by refine a5 (P.po.length_eq ..) (a5 (jv1 ..) ?_);exact P.len
theorem Pl.nd (P:Pl F T ord tp):ord.Nodup:=P.po.nodup_iff.mpr (X6 P.ok)
theorem Pl.mem (P:Pl F T ord tp) {g:Sg} (h:g∈F):g.name∈ord:=P.po.mem_iff.mpr (jw3 h)
theorem Pl.get (P:Pl F T ord tp) {x:Str} (h:x∈ord):∃ g,c0 T x=some g:=by
 refine c9 (jv9.mp (P.po.mem_iff.mp h)) fun g m e=>?_
 exact ⟨g,P.iff.mpr ⟨m,e⟩⟩
theorem Pl.tpc (P:Pl F T ord tp) {x:Str} {g:Sg} (h:c0 T x=some g):(g.supers≠[]∧tp x="")∨(g.supers=[]∧tp x∈ord∧tp (tp x)=tp x∧tp x≠""):=by
 (refine oA (P.iff.mp h) ?_;rintro m rfl)
 rcases P.tp g m with h | ⟨h,_,t,mt,a,b⟩
 ·exact .inl h
 ·refine a5 a (a5 b ?_)
  exact .inr ⟨h,P.mem mt,rfl,(M7 (P.n6 (P.mem mt))).1⟩
theorem Pl.wf (P:Pl F T ord tp):Wf T ord tp where
 len:=by refine a5 P.p.length_eq ?_;have:=P.len;exact ul this tT
 at_:=fun g m=>by
  have m:=P.p.mem_iff.mp m
  exact ⟨P.iff.mpr ⟨m,rfl⟩,jw9 (E8 P.ok g m).2.2.2.1 (by exact (jv2 tT))⟩
 abs:=fun g m h=>((E8 P.ok g (P.p.mem_iff.mp m)).2.2.1 h).1
 dir:=fun g m o ho=>by
  refine c9 (jv9.mp ((E8 P.ok g (P.p.mem_iff.mp m)).1 o ho)) fun q mq e=>?_
  exact ⟨⟨q,P.iff.mpr ⟨mq,e⟩⟩,(c6 (P.sub.subset (e▸jw3 mq))).1⟩
 par:=fun g m h=>by
  refine o9 ((E8 P.ok g (P.p.mem_iff.mp m)).2.1 h) fun q mq e s=>?_
  exact ⟨q,P.iff.mpr ⟨mq,e⟩,s⟩
 known:=fun x h=>P.get h
 top:=fun x g h=>by
  (refine oA (P.iff.mp h) ?_;rintro m rfl)
  rcases P.tp g m with h | ⟨h,⟨l,a,b,c⟩,t,mt,d,_⟩
  ·exact .inl h
  ·refine .inr ⟨h,?_,l,by have:=P.len;exact i5 [_,_] 1 zA (.num 6) 1 zB zA zB (.num 1000) tT this a,by refine a5 P.fn ?_;exact b,c⟩
   refine a5 d ?_
   exact (M7 (P.n6 (P.mem mt))).1
 mem:=fun x g h=>by
  (refine oA (P.iff.mp h) ?_;rintro m rfl)
  exact P.mem m
 noInt:=by
  have no:∀ x:Str,x∉N6→c0 T x=none:=fun x h=>by
   cases e:c0 T x with
   | none=>rfl
   | some g =>
    (refine oA (P.iff.mp e) ?_;rintro m rfl)
    exact absurd (P.n6 (P.mem m)) h
  exact ⟨no _ fun h=>(M7 h).2.1 rfl,no _ fun h=>(M7 h).2.2.1 rfl⟩
 olen:=by have:=P.olen;exact ul this tT
 small:=fun x g h=>by
  (refine oA (P.iff.mp h) ?_;rintro m rfl)
  refine a5 ((M7 (P.n6 (P.mem m))).2.2.2.2.2) ?_
  exact (jv2 tT)
theorem fq1 (p:T.Perm F) (x:Str):(z4 T x).Perm (z4 F x):=p.filter _
theorem bj9 (p:T.Perm F) (g:Sg):J9 T df ts lined g=J9 F df ts lined g:=by
 have k:=fq1 p g.name
 have e1:J0 (z4 T g.name)=J0 (z4 F g.name):=by
  dsimp only [J0]
  rw [lv5,kq3,kq3]
  exact ⟨fun h x m=>h x (k.mem_iff.mpr m),fun h x m=>h x (k.mem_iff.mp m)⟩
 have e2:z4 T g.name≠[] ↔ z4 F g.name≠[]:=by
  rw [← mv5,← mv5,k.length_eq]
 have e3:w7 T df g=w7 F df g:=by
  dsimp only [w7]
  simp only [e1,e2,k.length_eq]
 delta J9 G1
 exact a5 e3 rfl
theorem Pl.lots (P:Pl F T ord tp):J8 T df ts lined=J8 F df ts lined:=funext fun x=>by
 dsimp only [J8]
 refine a5 P.fn ?_
 cases c0 F x with
 | none=>rfl
 | some g=>exact bj9 P.p g
set_option tactic.hygienic true in
theorem Pl.lot3 (P:Pl F T ord tp) (hd:0≤df∧df≤3) (ht:∀ t∈ts,0≤t.num∧t.num≤3) {g:Sg} (hg:g∈F):0≤(J9 T df ts lined g).2∧(J9 T df ts lined g).2≤3:=by
 rw [bj9 P.p]
 have hk:(z4 F g.name).length≤3:=by
  refine jw9 ?_ P.kid
  dsimp only [z4]
  refine p8 mx9 (p8 mx9 ?_)
  refine List.countP_mono_left fun q m h=>?_
  have h:=of_decide_eq_true h
  exact decide_eq_true (h▸(M7 (P.n6 (P.mem hg))).1)
 have hu:0≤w7 F df g∧w7 F df g≤3:=by
  dsimp only [w7]
  split
  ·exact ⟨F0 [_] 1 (.num 0) zA (.num 0) zA tT (kx2 _),F0 [_] 1 zA (.num 3) zA (.num 3) tT (ic hk)⟩
  ·exact hd
 have hp:0≤(G1 F df ts g).2∧(G1 F df ts g).2≤3:=by
  dsimp only [G1]
  split
  ·rename_i t e
   exact ht t (kv2 e)
  ·exact hu
 dsimp only [J9]
 split
 ·exact ⟨by decide,by decide⟩
 ·dsimp only
  split
  ·split <;> lia
  ·exact hp
theorem digs:((Qg 10).all fun k=>(Qg 10).all fun l=>!(Str.ofString (toString ((k:Nat):Int)) == Str.ofString (toString ((l:Nat):Int)))||k == l)=true:=by kernel_rfl
theorem gv9 {x y:Str} (h:x.cps.toList=y.cps.toList):x=y:=by
 obtain ⟨x⟩:=x
 obtain ⟨y⟩:=y
 exact congrArg Str.mk (nq2.mp h)
theorem bv2 {x y:Str} {k l:Nat} (hx:x.length=2) (hy:y.length=2) (hk:k<10) (hl:l<10) (e:T6 x k=T6 y l):x=y∧k=l:=by
 have h:(x.cps++(Str.ofString "$").cps++(Str.ofString (toString (k:Int))).cps).toList=(y.cps++(Str.ofString "$").cps++(Str.ofString (toString (l:Int))).cps).toList:=congrArg (fun s:Str=>s.cps.toList) e
 simp only [lz7,kk4] at h
 refine oA (List.append_inj h (hx.trans hy.symm)) fun h1 h2=>?_
 refine ⟨gv9 h1,?_⟩
 have h3:=gv9 (List.append_cancel_left h2)
 have:=kq3.mp (kq3.mp digs k (kx9.mpr hk)) l (kx9.mpr hl)
 rw [h3] at this
 simpa using this
structure AtI (tp:Str→Str) (l1:List Str) (a:At):Prop where
 lots:∀ x∈l1,tp x=x→∃ lo m,a.lots.lookup x=some (E6 lo m)∧lo+m≤a.names.length∧(a.sure.lookup x=some (E6 lo m)∨a.sure.lookup x=some [])
 none:∀ x,(x∉l1∨tp x≠x)→a.lots.lookup x=none∧a.sure.lookup x=none
 nm:∀ s∈a.names,∃ x∈l1,∃ k,k<10∧s=T6 x k
 nd:a.names.Nodup
 len:a.names.length≤3 * l1.length
theorem X8 {α:Type} {l:List (Str × α)} {x y:Str} {v:α}:(l++[(x,v)]).lookup y=(l.lookup y).or (if y=x then some v else none):=by
 induction l with
 | nil =>
  refine a5 (lv1 ..) (a5 (kq2 ..) ?_)
  by_cases h:y=x
  ·subst h;simp
  ·refine a5 (if_neg h) (a5 (beq_false_of_ne h) ?_);rfl
 | cons p l ih =>
  refine a5 nx5 (a5 kq2 (a5 kq2 (a5 ih ?_)))
  cases y == p.1 <;> rfl
theorem ij3 {l1:List Str} {a:At} {x:Str} {p:Bool × Int} (I:AtI tp l1 a) (h6:∀ y∈l1++[x],y∈N6) (hx:x∉l1) (hp:0≤p.2∧p.2≤3):AtI tp (l1++[x]) (if tp x=x then a.put x p else a):=by
 by_cases e:tp x=x
 ·refine a5 (if_pos e) ?_
  have ne:∀ y∈l1,y≠x:=fun y m q=>hx (q▸m)
  have hm:p.2.toNat≤3:=by lia
  have ln:(a.put x p).names.length=a.names.length+p.2.toNat:=by dsimp only [At.put];rw [jw8,jv1,kz9]
  have l2:=fun {y:Str} (m:y∈N6)=>(M7 m).2.2.2.2.2
  refine ⟨fun y hy hty=>?_,fun y hy=>?_,fun s hs=>?_,?_,?_⟩
  ·refine a5 ln ?_
   refine (?_:∃ lo m,(a.lots++_).lookup y=_∧_∧((a.sure++_).lookup y=_∨(a.sure++_).lookup y=_))
   refine a5 X8 (a5 X8 ?_)
   refine Qa (jw1.mp hy) (fun m=>?_) fun m=>?_
   ·refine a8 (I.lots y m hty) fun lo k h1 h2 h3=>?_
    refine ⟨lo,k,by refine a5 h1 ?_;rfl,by exact d6 [_,_,_,_] 1 (.add zA zB) zC (.add zA zB) (.add zC zD) tT h2,?_⟩
    refine Qa h3 (fun h=>?_) fun h=>?_
    ·exact .inl (by refine a5 h ?_;rfl)
    ·exact .inr (by refine a5 h ?_;rfl)
   ·refine a5 (jv4.mp m) (a5 ((I.none x (.inl hx)).1) (a5 ((I.none x (.inl hx)).2) (a5 (if_pos rfl) (a5 (if_pos rfl) ?_))))
    refine ⟨a.names.length,p.2.toNat,rfl,jw4 _,?_⟩
    cases p.1
    ·exact .inr rfl
    ·exact .inl rfl
  ·have hne:y≠x:=fun q=>by
    subst q
    refine Qa hy (fun h=>?_) fun h=>?_
    ·exact h (jv7 _ (jv4.mpr rfl))
    ·exact h e
   have old:=I.none y (hy.imp (fun h q=>h (jv8 _ q)) id)
   refine (?_:(a.lots++_).lookup y=_∧(a.sure++_).lookup y=_)
   refine a5 X8 (a5 X8 (a5 old.1 (a5 old.2 (a5 (if_neg hne) (a5 (if_neg hne) ?_)))))
   exact ⟨rfl,rfl⟩
  ·refine Qa (jw1.mp hs) (fun m=>?_) fun m=>?_
   ·obtain ⟨y,my,k,hk,e⟩:=I.nm s m
    exact ⟨y,jv8 _ my,k,hk,e⟩
   ·(refine c9 (jv9.mp m) ?_;rintro k hk rfl)
    exact ⟨x,jv7 _ (jv4.mpr rfl),k,by have:=kx9.mp hk;exact i5 [_,_] 1 (.add zA nA) zB 1 zB (.num 3) (.add zA nA) (.num 10) tT this hm,rfl⟩
  ·have mx:=h6 x (jv7 _ (jv4.mpr rfl))
   refine kq9.mpr ⟨I.nd,?_,fun s hs u hu q=>?_⟩
   ·rw [List.Nodup,kv8]
    refine (nq8 (n:=p.2.toNat)).imp_of_mem fun {i j} hi hj h q=>?_
    have hi:=kx9.mp hi
    have hj:=kx9.mp hj
    exact h (bv2 (l2 mx) (l2 mx) (by exact i5 [_,_] 1 (.add zA nA) zB 1 zB (.num 3) (.add zA nA) (.num 10) tT hi hm) (by exact i5 [_,_] 1 (.add zA nA) zB 1 zB (.num 3) (.add zA nA) (.num 10) tT hj hm) q).2
   ·subst q
    obtain ⟨y,my,k,hk,e1⟩:=I.nm s hs
    refine c9 (jv9.mp hu) fun k' hk' e2=>?_
    have hk':=kx9.mp hk'
    exact ne y my (bv2 (l2 (h6 y (jv8 _ my))) (l2 mx) hk (by exact i5 [_,_] 1 (.add zA nA) zB 1 zB (.num 3) (.add zA nA) (.num 10) tT hk' hm) (e1.symm.trans e2.symm)).1
  ·refine a5 ln (a5 jw8 ?_)
   have:=I.len
   refine (?_:_≤3 * (l1.length+1))
   exact i5 [_,_,_] 1 zA (.mulL 3 zB) 1 zC (.num 3) (.add zA zC) (.mulL 3 (.add zB nA)) tT this hm
 ·refine a5 (if_neg e) ?_
  refine ⟨fun y hy hty=>?_,fun y hy=>?_,fun s hs=>?_,I.nd,?_⟩
  ·refine Qa (jw1.mp hy) (fun m=>?_) fun m=>?_
   ·exact I.lots y m hty
   ·rw [jv4.mp m] at hty
    exact absurd hty e
  ·exact I.none y (hy.imp (fun h q=>h (jv8 _ q)) id)
  ·refine c9 (I.nm s hs) fun y my r=>?_
   exact ⟨y,jv8 _ my,r⟩
  ·refine a5 jw8 ?_
   have:=I.len
   exact d6 [_,_,_] 1 zA (.mulL 3 zB) zA (.mulL 3 (.add zB zC)) tT this
theorem jk4 (hl:∀ x∈ord,0≤(J8 T df ts lined x).2∧(J8 T df ts lined x).2≤3) (h6:∀ y∈ord,y∈N6) (nd:ord.Nodup):AtI tp ord (l9 T tp df ts lined ord ⟨[],[],[]⟩):=by
 have main:∀ (l l1:List Str) (a:At),l1++l=ord→AtI tp l1 a→AtI tp ord (l9 T tp df ts lined l a):=by
  intro l
  induction l with
  | nil=>intro l1 a e I;rw [kq4] at e;exact e▸I
  | cons x l ih =>
   intro l1 a e I
   have mx:x∈ord:=by refine p8 e ?_;exact jv7 _ jv0
   refine ih (l1++[x]) _ (by refine a5 (kk4 ..) ?_;exact e) (ij3 I (fun y m=>h6 y ?_) ?_ (hl x mx))
   ·refine p8 e ?_
    refine Qa (jw1.mp m) (fun m=>?_) fun m=>?_
    ·exact jv8 _ m
    ·exact jv7 _ (by refine a5 (jv4.mp m) ?_;exact jv0 ..)
   ·intro q
    rw [← e,kq9] at nd
    exact nd.2.2 x q x (jv0 ..) rfl
 exact main ord [] _ rfl ⟨nofun,fun u_ u_=>⟨rfl,rfl⟩,nofun,kk9,jw4 _⟩
end
end
section
section
variable {F T:List Sg} {ord:List Str} {tp:Str→Str} {df:Int} {ts:List Told} {lined:Option Str} {a:At} {up:Str→List Int} {rk:Str→Nat}
structure UpI (F:List Sg) (tp:Str→Str) (a:At) (up:Str→List Int) (rk:Str→Nat):Prop where
 top:∀ g∈F,g.supers=[]→up g.name=(a.lots.lookup (tp g.name)).getD []
 sub:∀ g∈F,g.supers≠[]→up g.name=z5 (g.supers.flatMap up)
 rk6:∀ g∈F,rk g.name<6∧∀ o∈g.supers,rk o<rk g.name
theorem iv9 (P:Pl F T ord tp) (a:At):∃ up rk,UpI F tp a up rk:=by
 refine oEE (gx5 P.ok fun x=>(a.lots.lookup (tp x)).getD []) fun up rk h=>?_
 exact ⟨up,rk,fun g m=>(h g m).1,fun g m=>(h g m).2.1,fun g m=>⟨kw8 (h g m).2.2.1 P.len,(h g m).2.2.2⟩⟩
theorem UpI.at_top (U:UpI F tp a up rk) (P:Pl F T ord tp) (I:AtI tp ord a) {x:Str} {g:Sg} (h:c0 T x=some g) (ht:tp x≠""):∃ lo m,a.lots.lookup (tp x)=some (E6 lo m)∧up x=E6 lo m∧lo+m≤a.names.length∧(a.sure.lookup (tp x)=some (E6 lo m)∨a.sure.lookup (tp x)=some []):=by
 rcases P.tpc h with ⟨_,e⟩ | ⟨hs,h1,h2,_⟩
 ·exact absurd e ht
 ·refine a8 (I.lots _ h1 h2) fun lo m l1 l2 l3=>?_
  (refine oA (P.iff.mp h) ?_;rintro mg rfl)
  exact ⟨lo,m,l1,by refine a5 (U.top g mg hs) (a5 l1 ?_);rfl,l2,l3⟩
theorem UpI.rng (U:UpI F tp a up rk) (P:Pl F T ord tp) (I:AtI tp ord a):∀ (n:Nat) (x:Str) (g:Sg),rk x<n→c0 T x=some g→∀ i∈up x,0≤i∧i<a.names.length:=by
 intro n
 induction n with
 | zero=>intro x g h;lia
 | succ n ih =>
  intro x g hn h i hi
  by_cases e:tp x=""
  ·rcases P.tpc h with ⟨hs,_⟩ | ⟨_,_,_,h3⟩
   ·(refine oA (P.iff.mp h) ?_;rintro mg rfl)
    rw [U.sub g mg hs] at hi
    refine c9 (nq9.mp (x9.mp hi)) fun o ho hio=>?_
    (refine c9 (jv9.mp ((E8 P.ok g mg).1 o (jv7 _ ho))) ?_;rintro q mq rfl)
    exact ih _ q (by have:=(U.rk6 g mg).2 _ ho;exact i5 [_,_,_] 1 (.add zA nA) zB 1 (.add zB nA) (.add zC nA) (.add zA nA) zC tT this hn) (P.iff.mpr ⟨mq,rfl⟩) i hio
   ·exact absurd e h3
  ·obtain ⟨lo,m,_,h2,h3,_⟩:=U.at_top P I h e
   rw [h2] at hi
   (refine c9 (jv9.mp hi) ?_;rintro k hk rfl)
   have:=kx9.mp hk
   lia
theorem cz8 (lo m:Nat):(E6 lo m).Pairwise (·<·):=by
 unfold E6
 rw [kv8]
 exact (mk3 (n:=m)).imp fun h=>by lia
theorem UpI.asc (U:UpI F tp a up rk) (P:Pl F T ord tp) (I:AtI tp ord a) (x:Str) (g:Sg) (h:c0 T x=some g):(up x).Pairwise (·<·):=by
 by_cases e:tp x=""
 ·rcases P.tpc h with ⟨hs,_⟩ | ⟨_,_,_,h3⟩
  ·(refine oA (P.iff.mp h) ?_;rintro mg rfl)
   refine a5 (U.sub g mg hs) ?_
   exact A0 _
  ·exact absurd e h3
 ·obtain ⟨lo,m,_,h2,_⟩:=U.at_top P I h e
  refine a5 h2 ?_
  exact cz8 lo m
theorem UpI.upW (U:UpI F tp a up rk) (P:Pl F T ord tp) (I:AtI tp ord a) {lots:List (Str × List Int)} (hl:∀ x g,c0 T x=some g→tp x≠""→lots.lookup (tp x)=some (up x)):UpW T tp lots up rk where
 top:=fun x g h ht=>⟨l6 (hl x g h ht),hl x g h ht⟩
 sub:=fun x g h ht=>by
  rcases P.tpc h with ⟨hs,_⟩ | ⟨_,_,_,h3⟩
  ·(refine oA (P.iff.mp h) ?_;rintro mg rfl)
   refine ⟨U.sub g mg hs,fun o ho=>⟨(U.rk6 g mg).2 o ho,?_⟩⟩
   (refine c9 (jv9.mp ((E8 P.ok g mg).1 o (jv7 _ ho))) ?_;rintro q mq rfl)
   exact ⟨q,P.iff.mpr ⟨mq,rfl⟩⟩
  ·exact absurd ht h3
 rng:=fun x g h i hi=>by
  have:=U.rng P I _ x g (kv5 _) h i hi
  have:=I.len
  have:=P.olen
  lia
 asc:=U.asc P I
theorem UpI.up1 (U:UpI F tp a up rk) (P:Pl F T ord tp) (I:AtI tp ord a):UpW T tp a.lots up rk:=U.upW P I fun x g h ht=>by
 obtain ⟨lo,m,h1,h2,_⟩:=U.at_top P I h ht
 exact a5 h1 (a5 h2 rfl)
theorem ej8 {l:List Str} {x:Str} (h:x∈l) (e:tp x=x):(J3 tp up l).lookup x=some (up x):=by
 unfold J3
 induction l with
 | nil=>cases h
 | cons y l ih =>
  refine a5 nx3 ?_
  by_cases exy:x=y
  ·subst exy
   exact a5 (if_pos (decide_eq_true e)) (a5 kx1 (a5 List.lookup_cons_self rfl))
  ·have m:x∈l:=(jv6.mp h).resolve_left exy
   split
   ·refine a5 kx1 (a5 kq2 (a5 (beq_false_of_ne exy) ?_))
    exact ih m
   ·exact ih m
theorem UpI.up2 (U:UpI F tp a up rk) (P:Pl F T ord tp) (I:AtI tp ord a):UpW T tp (J3 tp up ord) up rk:=U.upW P I fun x g h ht=>by
 (refine Qa (P.tpc h) ?_ ?_;rintro ⟨_,e⟩;rotate_left;(intro yz;refine G9 yz fun hs h1 h2 h3=>?_);rotate_left)
 ·exact absurd e ht
 ·refine a5 (ej8 h1 h2) ?_
  refine oE (P.get h1) fun q hq=>?_
  obtain ⟨lo,m,a1,a2,_⟩:=U.at_top P I h ht
  obtain ⟨lo',m',b1,b2,_⟩:=U.at_top P I hq (by refine a5 h2 ?_;exact h3)
  rw [h2,a1] at b1
  exact a5 a2 (a5 b2 (a5 (Qm b1) rfl))
theorem iv6 (P:Pl F T ord tp) (ha:a=l9 T tp df ts lined ord ⟨[],[],[]⟩) (I:AtI tp ord a) (U:UpI F tp a up rk) (hd:0≤df∧df≤3) (ht:∀ t∈ts,(0≤t.num∧t.num≤3)∧t.sig.length≤1000) (hn:ts.length≤3) (hli:∀ x,lined=some x→x∈ord) :
  BdW T ord tp df ts lined a (fun x=>(a.sure.lookup x).getD []) up rk where
 W:=P.wf
 U:=U.up1 P I
 at_:=ha
 sh:=fun g m=>(c6 (P.n6 (P.mem (P.p.mem_iff.mp m)))).1
 num:=fun t m=>by have:=(ht t m).1;exact ⟨F0 [_] 1 (.num 0) zA (.num 0) zA tT this.1,F0 [_] 1 zA (.num 3) zA (.num 9) tT this.2⟩
 lotE:=fun g m=>by have:=P.lot3 (lined:=lined) hd (fun t m=>(ht t m).1) (P.p.mem_iff.mp m);exact ⟨F0 [_] 1 (.num 0) zA (.num 0) zA tT this.1,F0 [_] 1 zA (.num 3) zA (.num 9) tT this.2⟩
 olen:=by have:=P.olen;exact ul this tT
 ond:=P.nd
 nnd:=I.nd
 nlen:=by have:=I.len;have:=P.olen;lia
 lowE:=fun u_ u_ u_=>rfl
 lowU:=fun x g h=>by
  by_cases e:tp x=x
  ·have mx:=P.iff.mp h
   have hx:x∈ord:=by refine p8 mx.2 ?_;exact P.mem mx.1
   refine oEE (U.at_top P I h (by refine a5 e ?_;exact (M7 (P.n6 hx)).1)) fun lo m y=>G9 y fun h1 h2 h3 h4=>?_
   rw [e] at h4
   refine a5 h2 ?_
   refine Qa h4 (fun h=>?_) fun h=>?_
   ·refine a5 h ?_;exact ⟨fun u_ h=>h,cz8 lo m⟩
   ·refine a5 h ?_;exact ⟨nofun,.nil⟩
  ·refine a5 ((I.none x (.inr e)).2) ?_
   exact ⟨nofun,.nil⟩
 rng:=fun x g h=>U.rng P I _ x g (kv5 _) h
 nxt:=fun x h=>by
  refine oE (P.get (hli x h)) fun g hg=>?_
  refine ⟨⟨g,hg⟩,fun e=>?_⟩
  obtain ⟨lo,m,_,h2,_⟩:=U.at_top P I hg (by refine a5 e ?_;exact (M7 (P.n6 (hli x h))).1)
  exact ⟨lo,m,h2⟩
 rkE:=fun x g h=>by
  (refine oA (P.iff.mp h) ?_;rintro mg rfl)
  have:=(U.rk6 g mg).1
  exact d6 [_] 1 (.add zA nA) (.num 6) zA (.num 9) tT this
 tsn:=by exact ul hn tT
 sg:=fun t m=>(ht t m).2
 ono:=fun h=>(M7 (P.n6 h)).2.2.2.2.1 rfl
 nempty:=fun x h=>(M7 (P.n6 h)).1
theorem br_of (P:Pl F F ord tp) (I:AtI tp ord a) (B:BdW F ord tp df ts lined a (fun x=>(a.sure.lookup x).getD []) up rk) (nd:(ts.map Told.sig).Nodup):BrW F ord tp df ts lined a (fun x=>(a.sure.lookup x).getD []) up rk :=
 { B with
  h64:=by have:=P.len;exact d6 [_] 1 zA (.num 6) (.add zA nA) (.num 64) tT this
  tnd:=X6 P.ok
  lk:=fun g m=>P.iff.mpr ⟨m,rfl⟩
  shm:=fun g m=>cM (E8 P.ok g m).2.2.2.2
  sup:=fun x g h=>(E8 P.ok g (P.iff.mp h).1).2.2.2.1
  tsd:=nd
  shn:=fun x m=>by
   obtain ⟨y,my,k,hk,rfl⟩:=I.nm x m
   exact (c6 (P.n6 my)).2.2 k hk
  shl:=fun x m=>⟨(c6 (P.n6 m)).1,(c6 (P.n6 m)).2.1⟩ }
theorem dw9:∀ {ts:List Told} {seen:List Str},¬N7 T seen ts→seen.Nodup→(seen++ts.map Told.sig).Nodup:=by
 intro ts
 induction ts with
 | nil=>intro seen _ h;simpa using h
 | cons t ts ih =>
  intro seen hr h
  have h1:¬dq5 T seen t.sig:=fun q=>hr (.inl q)
  have h2:¬N7 T (seen++[t.sig]) ts:=fun q=>hr (.inr q)
  have h3:t.sig∉seen:=fun q=>h1 (.inr (.inr q))
  have:=ih h2 (kq9.mpr ⟨h,by simp,fun x hx y hy e=>h3 (by rw [jv4.mp hy] at e;exact e▸hx)⟩)
  simpa using this
theorem gq1 (P:Pl F T ord tp):∀ (ts:List Told) (seen:List Str),U8 F tp lined seen ts=true ↔ N7 T seen ts∨(∃ x,lined=some x∧tp x≠x)∨∃ t∈ts,∃ g,c0 T t.sig=some g∧g.mult="one"∧tp t.sig=t.sig∧t.num≠1:=by
 intro ts
 induction ts with
 | nil =>
  intro seen
  dsimp only [U8]
  induction lined using Qd with
  | none=>dsimp only [N7];simp
  | some x=>dsimp only [N7];simp
 | cons t ts ih =>
  intro seen
  dsimp only [U8]
  refine p8 P.fn ?_
  cases e:c0 T t.sig with
  | none=>exact ⟨fun u_=>.inl (.inl (.inl e)),fun u_=>rfl⟩
  | some g =>
   have hb:dq5 T seen t.sig ↔ t.sig∈seen∨tp t.sig="":=by
    unfold dq5
    constructor
    ·rintro (h | ⟨g',h,h'⟩ | h)
     ·rw [e] at h;exact ns h
     ·rw [e] at h
      (injection h with i;subst i)
      refine Qa (P.tpc e) (fun q=>?_) fun q=>?_
      ·exact .inr q.2
      ·exact absurd q.1 h'
     ·exact .inl h
    ·rintro (h | h)
     ·exact .inr (.inr h)
     ·refine Qa (P.tpc e) (fun q=>?_) fun q=>?_
      ·exact .inr (.inl ⟨g,e,q.1⟩)
      ·exact absurd h q.2.2.2
   simp only [Bool.or_eq_true,ak5,beq_iff_eq,kz7,bne_iff_ne,ih]
   refine (?_:_ ↔ (dq5 T seen t.sig∨N7 T (seen++[t.sig]) ts)∨_)
   rw [hb]
   constructor
   ·rintro ((h | ⟨⟨h1,h2⟩,h3⟩) | h | h | ⟨q,m,r⟩)
    ·exact .inl (.inl h)
    ·exact .inr (.inr ⟨t,jv0 ..,g,e,h1,h2,h3⟩)
    ·exact .inl (.inr h)
    ·exact .inr (.inl h)
    ·exact .inr (.inr ⟨q,jv3 _ m,r⟩)
   ·rintro ((h | h) | h | ⟨q,m,g',h1,h2,h3,h4⟩)
    ·exact .inl (.inl h)
    ·exact .inr (.inl h)
    ·exact .inr (.inr (.inl h))
    ·rcases jv6.mp m with rfl | m
     ·rw [e] at h1
      (injection h1 with i;subst i)
      exact .inl (.inr ⟨⟨h2,h3⟩,h4⟩)
     ·exact .inr (.inr (.inr ⟨q,m,g',h1,h2,h3,h4⟩))
theorem fx1 {ts:List Told} (nd:(ts.map Told.sig).Nodup) {t:Told} (m:t∈ts):p9 ts t.sig=some t:=by
 unfold p9
 induction ts with
 | nil=>cases m
 | cons u ts ih =>
  rw [kx1,kq6] at nd
  refine a5 (kw0) ?_
  rcases jv6.mp m with rfl | m
  ·simp
  ·have:(t.sig == u.sig)=false:=beq_false_of_ne fun e=>nd.1 (e▸jw3 m)
   refine a5 this ?_
   exact ih nd.2 m
theorem dw8 (P:Pl F T ord tp):U8 F tp lined [] ts=true ↔ N7 T [] ts∨(∃ x,lined=some x∧tp x≠x)∨cz3 T tp ts ord:=by
 rw [gq1 P]
 constructor
 ·rintro (h | h | ⟨t,m,g,h1,h2,h3,h4⟩)
  ·exact .inl h
  ·exact .inr (.inl h)
  ·by_cases hr:N7 T [] ts
   ·exact .inl hr
   ·have nd:=dw9 hr kk9
    rw [lv1] at nd
    refine oA (P.iff.mp h1) fun mg en=>?_
    refine .inr (.inr ⟨t.sig,by refine p8 en ?_;exact P.mem mg,h3,g,h1,h2,t,?_,h4⟩)
    refine a5 en ?_
    exact fx1 nd m
 ·rintro (h | h | ⟨x,mx,hx,g,hg,h1,t,ht,h2⟩)
  ·exact .inl h
  ·exact .inr (.inl h)
  ·refine oA (P.iff.mp hg) fun mg en=>?_
   have es:x=t.sig:=by
    unfold p9 at ht
    have:=lv2 ht
    rw [en] at this
    exact eq_of_beq this
   exact .inr (.inr ⟨t,kv2 ht,g,es▸hg,h1,es▸hx,h2⟩)
end
end
section
noncomputable def cq9:List Stmt:=forB (u7 (j4 41))[7]?
section
variable {w:World} {hb:Heap} {n m:Nat} {X:Xs} {H:HL} {F T:List Sg} {ord:List Str} {tp:Str→Str} {df0 df:Int} {ts:List Told} {lined:Option Str} {a:At} {low up:Str→List Int} {rk:Str→Nat}
noncomputable abbrev fw8 (T F:List Sg) (ord:List Str) (lined:Option Str) (t:Addr):c8:=[(st "names",.dat (.list (a6 ord))),(st "signatures",x7 T ord (m5 lined)),(st "lined",.dat (.list (a6 (m4 lined)))),(st "table",.dct (i8 F)),(st "tape",.ref t)]
noncomputable abbrev rhoK (T F:List Sg) (ord:List Str) (lined:Option Str) (t:Addr) (i df0:Int) (ts:List Told) (d:V):c8:=(st "told",d)::(st "scope",.dat (l5 df0 ts))::(st "lap",.dat (.int i))::fw8 T F ord lined t
theorem ej1 (a b:Bool):(!PyData.eqv (.bool a) (.bool b))=(a != b):=by cases a <;> cases b <;> rfl
theorem jz0 {t:Addr} {i:Int} {k:Nat} {cells:List Nat} {Q:Flw→c8→HL→Prop} (hm:30≤m) (gs:i9 G5=true) (W:Wf F ord tp) (hts:ts.length≤1000) (hli:∀ x,lined=some x→(∃ g,c0 F x=some g)∧Sh 0 (.str x)) (hr:U8 F tp lined [] ts=true)
  (q:Q .next (rhoK T F ord lined t i df0 ts (.dat .none)) H):TS PW w hb G5 m XL (rhoK T F ord lined t i df0 ts (.dat .none)) (cq9.drop 2) H Q:=by
 refine f9 gs ?_
 refine Op.lift (m:=2) (bv0 W hts hli ?_) (by exact d6 [_] 1 (.num 30) zA (.num 2) zA tT hm)
 refine a5 hr ?_
 refine X4 rfl rfl ?_
 refine a5 (ej1 ..) ?_
 exact ⟨Mine.nb,fun u_=>⟨nb,fun u_=>⟨nb,fun u_=>⟨nb,fun u_=>⟨nb,fun u_=>q⟩⟩⟩⟩⟩
theorem iq7 {t:Addr} {i:Int} {i0 k:Nat} {cells:List Nat} {Q:Flw→c8→HL→Prop} (hm:30≤m) (gs:i9 G5=true) (B:BrW F ord tp df ts lined a low up rk) (W1:Wf T ord tp) (U1:UpW T tp (J3 tp up ord) up rk) (U2:UpW F tp (J3 tp up ord) up rk)
  (hdf:df=if df0 ≥ 0 then df0 else 3) (hts:ts.length≤1000) (hli:∀ x,lined=some x→(∃ g,c0 F x=some g)∧Sh 0 (.str x)) (hl2:∀ x,lined=some x→tp x=x) (hr:U8 F tp lined [] ts=false) (e:H[i0]?=some (t,.dct (k6 cells k))) (hc:cells.length≤1000) (hk:k≤900) (hn:0<ord.length)
  (q:Q .next (rhoK T F ord lined t i df0 ts (bz8 a low up ord tp ts lined)) (H.set i0 (t,.dct (k6 cells (k+2))))):TS PW w hb G5 m XL (rhoK T F ord lined t i df0 ts (bz8 a low up ord tp ts lined)) (cq9.drop 2) H Q:=by
 refine f9 gs ?_
 refine Op.lift (m:=2) (bv0 B.W hts hli ?_) (by exact d6 [_] 1 (.num 30) zA (.num 2) zA tT hm)
 refine a5 hr ?_
 refine X4 rfl rfl ?_
 refine a5 (ej1 ..) ?_
 refine ⟨Mine.nb,fun u_=>?_⟩
 refine ⟨fun u_=>?_,nt⟩
 refine Op.lift (m:=21) (hq3 (m:=20) (by exact jw4 _) B hdf hl2 ?_) (by exact d6 [_] 1 (.num 30) zA (.num 21) zA tT hm)
 refine ⟨nb,fun u_=>⟨nb,fun u_=>?_⟩⟩
 refine ⟨fun u_=>?_,nt⟩
 refine Op.lift (m:=21) (gw8 (m:=20) (by exact jw4 _) B W1 U1 U2 e hc hk hn ?_) (by exact d6 [_] 1 (.num 30) zA (.num 21) zA tT hm)
 exact ⟨nb,fun u_=>⟨nb,fun u_=>q⟩⟩
end
end
section
noncomputable def hv4:Stmt:=.Assign [.Name "scope" ⟨501,8,501,13⟩] (.Call (.Name "_law_scope" ⟨501,16,501,26⟩) [.Name "tape" ⟨501,27,501,31⟩,.Name "names" ⟨501,33,501,38⟩] [] ⟨501,16,501,39⟩) ⟨501,8,501,39⟩
theorem jz1:cq9=hv4::.Assign [.Name "told" ⟨502,8,502,12⟩] dj7 ⟨502,8,502,76⟩::cq9.drop 2:=by kernel_rfl
noncomputable def idx:Option (Addr × Obj)→Nat
 | none=>1
 | some _=>2
theorem ex9 (o:Option (Addr × Obj)) (p:Addr × O):(HT o [p])[idx o]?=some p:=by rcases o with _ | ⟨c,oc⟩ <;> rfl
theorem ex8 (o:Option (Addr × Obj)) (p q:Addr × O):(HT o [p]).set (idx o) q=HT o [q]:=by rcases o with _ | ⟨c,oc⟩ <;> rfl
section
variable {w:World} {hb:Heap} {n m:Nat} {X:Xs} {H:HL} {F T:List Sg} {ord:List Str} {tp:Str→Str} {df0 df:Int} {ts:List Told} {lined:Option Str}
theorem dq6 (h:J8 T df ts lined=J8 F df ts lined):∀ (l:List Str) (a:At),l9 T tp df ts lined l a=l9 F tp df ts lined l a
 | [],_=>rfl
 | x::l,a=>by
  dsimp only [l9]
  refine a5 h ?_
  exact dq6 h l _
theorem hj4 {cells:List Nat} {k r:Nat} (h6:∀ x∈ord,x.length≤1000) (hn:0<ord.length):∀ t∈H7 cells ord k r,(0≤t.num∧t.num≤3)∧t.sig.length≤1000:=by
 intro t ht
 obtain ⟨j,_,rfl⟩:=jv9.mp ht
 have h4:=o6 (cells:=cells) (k:=k+3 * j+1) (m:=4) (by exact kx3 _)
 unfold fk5
 refine ⟨by dsimp only;exact ⟨F0 [_] 1 (.num 0) zA (.num 0) zA tT (kx2 _),F0 [_] 1 (.add zA nA) (.num 4) zA (.num 3) tT (ic h4)⟩,?_⟩
 refine (?_:(aw5 ord _).length≤1000)
 unfold aw5
 split
 ·exact sle (by kernel_rfl)
 ·split
  ·exact sle (by kernel_rfl)
  ·have hl:=mq6 (d7 cells (k+3 * j+2) 24) hn
   refine a5 (jw0 hl) ?_
   exact h6 _ (kw6 hl)
theorem lap {t:Addr} {i:Int} {k:Nat} {cells:List Nat} {o:Option (Addr × Obj)} {Q:Flw→c8→HL→Prop} (gs:i9 G5=true) (bm:cz4 hb) (P:Pl F T ord tp) (hn:0<ord.length) (hli:∀ x,lined=some x→x∈ord) (ok:R6 o) (hc:cells.length≤1000) (hk:k≤800)
  (q:∀ ρ' o' k',G7 ρ' (fw8 T F ord lined t)→R6 o'→k'≤k+20→Q .next ρ' (HT o' [(t,.dct (k6 cells k'))])) :
  TS PW w hb G5 (30+2) XL ((st "lap",.dat (.int i))::fw8 T F ord lined t) cq9 (HT o [(t,.dct (k6 cells k))]) Q:=by
 have h6:∀ x∈ord,x.length≤1000:=fun x m=>by refine a5 ((M7 (P.n6 m)).2.2.2.2.2) ?_;exact (jv2 tT)
 have r4:=o6 (cells:=cells) (k:=k) (m:=4) (by exact kx3 _)
 have r5:=o6 (cells:=cells) (k:=k+1+3 * d7 cells k 4) (m:=5) (by exact kx3 _)
 refine a5 jz1 ?_
 refine V9 (fk0 gs (Q1:=fun ρ H=>TS PW w hb G5 (30+2) XL ρ (.Assign [.Name "told" ⟨502,8,502,12⟩] dj7 ⟨502,8,502,76⟩::cq9.drop 2) H Q) (fun u_ u_ h=>h) ?_)
 refine Op.lift (m:=2) (iz4 (i:=idx o) (ex9 o _) hc (by exact ul hk tT) hn (by have:=P.olen;exact ul this tT) ?_) (by exact jv2 tT)
 refine a5 (ex8 ..) ?_
 have ht:=hj4 (cells:=cells) (k:=k+1) (r:=d7 cells k 4) h6 hn
 have htn:(H7 cells ord (k+1) (d7 cells k 4)).length≤3:=by unfold H7;refine a5 (jv1 ..) (a5 (kz9 ..) ?_);exact d6 [_] 1 (.add zA nA) (.num 4) zA (.num 3) tT r4
 generalize H7 cells ord (k+1) (d7 cells k 4)=ts at ht htn
 have hd0:(-1:Int)≤(d7 cells (k+1+3 * d7 cells k 4) 5:Nat) - 1∧((d7 cells (k+1+3 * d7 cells k 4) 5:Nat):Int) - 1≤3:=by lia
 generalize ((d7 cells (k+1+3 * d7 cells k 4) 5:Nat):Int) - 1=df0 at hd0
 have hk':k+2+3 * d7 cells k 4≤k+11:=by exact d6 [_,_] 3 (.add zA nA) (.num 4) (.add (.add zB (.num 2)) (.mulL 3 zA)) (.add zB (.num 11)) tT r4
 generalize k+2+3 * d7 cells k 4=k1 at hk'
 obtain ⟨df,hdf⟩:∃ df:Int,df=if df0 ≥ 0 then df0 else 3:=⟨_,rfl⟩
 have hd:0≤df∧df≤3:=by refine a5 hdf ?_;split <;> lia
 obtain ⟨a,ha⟩:∃ a,a=l9 T tp df ts lined ord ⟨[],[],[]⟩:=⟨_,rfl⟩
 have I:AtI tp ord a:=by
  refine a5 ha ?_
  refine jk4 (fun x m=>?_) (fun x m=>P.n6 m) P.nd
  refine oE (P.get m) fun g hg=>?_
  unfold J8
  refine a5 hg ?_
  exact P.lot3 hd (fun t m=>(ht t m).1) (P.iff.mp hg).1
 refine oEE (iv9 P a) fun up rk U=>?_
 have BT:=iv6 P ha I U hd ht htn hli
 have BF:=iv6 P.self (ha.trans (dq6 P.lots _ _)) I U hd ht htn hli
 have hli':∀ x,lined=some x→(∃ g,c0 F x=some g)∧Sh 0 (.str x):=fun x h=>⟨P.self.get (hli x h),(c6 (P.n6 (hli x h))).1⟩
 refine V9 (aq3 (fv0 (n:=30) (Q1:=fun d=>d=bz8 a (fun x=>(a.sure.lookup x).getD []) up ord tp ts lined∧¬N7 T [] ts∧(∀ x,lined=some x→tp x=x)∧¬cz3 T tp ts ord) (N7 T [] ts∨(∃ x,lined=some x∧tp x≠x)∨cz3 T tp ts ord) bm ok rfl rfl ?_ ?_ ?_))
 ·refine Op.lift (m:=2) (hq6 ⟨rfl,j0 R7 rfl ?_⟩) (by exact jv2 tT)
  exact Op.lift (m:=21) (dk8 (m:=20) (by exact jw4 _) BT hdf (fun h=>.inl h) (fun x h h'=>.inr (.inl ⟨x,h,h'⟩)) (fun h=>.inr (.inr h)) fun n1 n2 n3=>⟨rfl,rfl,n1,n2,n3⟩) (by exact jv2 tT)
 ·(intro d o' ok' yz;refine G9 yz ?_;clear yz;rintro rfl n1 n2 n3)
  refine aq2 gs (show TS PW w hb G5 (30+2) XL _ (cq9.drop 2) _ Q from ?_)
  have nd:=dw9 n1 kk9
  rw [lv1] at nd
  have hr:U8 F tp lined [] ts=false:=by
   cases e:U8 F tp lined [] ts with
   | false=>rfl
   | true =>
    rcases (dw8 P).mp e with h | ⟨x,h,h'⟩ | h
    ·exact absurd h n1
    ·exact absurd (n2 x h) h'
    ·exact absurd h n3
  refine iq7 (by exact jv2 tT) gs (br_of P.self I BF nd) P.wf (U.up2 P I) (U.up2 P.self I) hdf (by exact ul htn tT) hli' n2 hr (ex9 o' _) hc (by exact i5 [_,_] 1 zA (.add zB (.num 11)) 1 zB (.num 800) zA (.num 900) tT hk' hk) hn ?_
  refine a5 (ex8 ..) ?_
  exact q _ o' _ ⟨rfl,rfl,rfl,rfl,rfl,trivial⟩ ok' (by exact d6 [_,_] 1 zA (.add zB (.num 11)) (.add zA (.num 2)) (.add zB (.num 20)) tT hk')
 ·rintro h o' ok'
  refine aq2 gs (show TS PW w hb G5 (30+2) XL _ (cq9.drop 2) _ Q from ?_)
  exact jz0 (k:=k) (cells:=cells) (by exact jv2 tT) gs P.self.wf (by exact ul htn tT) hli' ((dw8 P).mpr h) (q _ o' _ ⟨rfl,rfl,rfl,rfl,rfl,trivial⟩ ok' (by exact d6 [_,_] 1 zA (.add zB (.num 11)) zA (.add zB (.num 20)) tT hk'))
end
end
section
section
variable {w:World} {hb:Heap} {n m:Nat} {X:Xs} {H:HL} {F T:List Sg} {ord:List Str} {tp:Str→Str} {df0 df:Int} {ts:List Told} {lined:Option Str}
noncomputable def lawQ:Flw→c8→HL→Prop:=aj2 fun d H'=>d=.dat (.bool true)∧∃ Hs o,R6 o∧H'=Hs++HT o []
theorem jk6 (o:Option (Addr × Obj)) (p:Addr × O):(HT o [p]).Perm (p::HT o []):=by
 rcases o with _ | ⟨c,oc⟩
 ·exact .swap ..
 ·exact (List.Perm.cons _ (.swap ..)).trans (.swap ..)
noncomputable def lapT:Expr:=forT (u7 (j4 41))[7]?
theorem laps {t:Addr} {cells:List Nat} (gs:i9 G5=true) (bm:cz4 hb) (P:Pl F T ord tp) (hn:0<ord.length) (hli:∀ x,lined=some x→x∈ord) (hc:cells.length≤1000):∀ (l:List Int) (ρ:c8) (k:Nat) (o:Option (Addr × Obj)),Keeps' (fw8 T F ord lined t) ρ→k+20 * l.length≤800→R6 o →
  TFor PW w hb G5 (30+2) XL lapT cq9 (l.map fun i=>.dat (.int i)) ρ (HT o [(t,.dct (k6 cells k))]) (U5 PW w hb G5 (30+2) XL ((u7 (j4 41)).drop 8) lawQ):=by
 intro l
 induction l with
 | nil =>
  intro ρ k o kp hk ok
  refine W0 (jk6 o _) (f9 gs ?_)
  exact ⟨rfl,[_],o,ok,rfl⟩
 | cons i l ih =>
  intro ρ k o kp hk ok
  rw [lq6] at hk
  refine TFor.fewer kp ?_
  exact aq1 gs (show wpT PW w hb G5 (30+2) XL (fw8 T F ord lined t) lapT (.dat (.int i)) _ _ from (lap gs bm P hn hli ok hc (by exact d6 [_,_] 1 (.add zA (.mulL 20 (.add zB nA))) (.num 800) zA (.num 800) tT hk) fun ρ' o' k' kp' ok' hk'=>ih ρ' k' o' (.all kp') (by exact i5 [_,_,_] 1 zA (.add zB (.num 20)) 1 (.add zB (.mulL 20 (.add zC nA))) (.num 800) (.add zA (.mulL 20 zC)) (.num 800) tT hk' hk) ok'))
theorem jq3 (P:Pl F T ord tp) {g:Sg} (hg:g∈F):Sh 2 g.row:=by
 have A:=E8 P.ok g hg
 have n6:∀ {x:Str},x∈F.map Sg.name→Sh 0 (.str x):=fun h=>(c6 (P.sub.subset h)).1
 refine Sh.tuple (k:=1) (fc (Sh.le (k:=0) (n6 (jw3 hg)) (by exact kx0 _)) (fc (⟨rfl,kx0 _⟩) (fc (Sh.le (k:=0) (cM A.2.2.2.2) (by exact kx0 _)) (fc (Sh.le (k:=0) ?_ (by exact kx0 _)) (fc (Sh.tuple (k:=0) fun z hz=>?_) dj8)))))
 ·by_cases h:g.parent=""
  ·refine a5 h ?_;exact cM (jv0 ..)
  ·obtain ⟨q,m,e,_⟩:=A.2.1 h
   refine p8 e ?_
   exact n6 (jw3 m)
 ·(refine c9 (jv9.mp hz) ?_;rintro o ho rfl)
  exact n6 (A.1 o (jv7 _ ho))
theorem ex6 {t D D0:Addr} {k:Nat} {cells:List Nat} {zs:List PyData} {ρ:c8} (gs:i9 G5=true) (bm:cz4 hb) (P:Pl F T ord tp) (hp:Pf T [] (T.map Sg.name) ord) (hn:0<ord.length) (hli:∀ x,lined=some x→x∈ord) (hc:cells.length≤1000) (hk:k≤200)
  (h1:G7 ρ [(st "items",.ref D),(st "lined",.dat (.list (a6 (m4 lined)))),(st "table",.dct (i8 F)),(st "stands",.dat (o3 T)),(st "tape",.ref t)]) :
  TS PW w hb G5 (30+2) XL ρ ((u7 (j4 41)).drop 6) ((D,.lst (T.map Sg.item++v7 lined))::(D0,.lst zs)::(t,.dct (k6 cells k))::HT none []) lawQ:=by
 refine Tri.fewer ?_ (.all h1)
 refine W0 (H':=[(D,.lst (T.map Sg.item++v7 lined)),(D0,.lst zs)]++HT none [(t,.dct (k6 cells k))]) (.cons _ (.cons _ (.swap ..))) ?_
 refine az0 (ρ1:=[(st "items",.dat (.list (T.map Sg.item++v7 lined))),(st "lined",.dat (.list (a6 (m4 lined)))),(st "table",.dct (i8 F)),(st "stands",.dat (o3 T)),(st "tape",.ref t)]) .refl
  (bq6 ⟨⟨_,rfl,.lst (jv0 ..)⟩,⟨_,rfl,.same⟩,⟨_,rfl,.same⟩,⟨_,rfl,.same⟩,⟨_,rfl,.same⟩,trivial⟩) ?_
 have nT:(T.map Sg.name).Nodup:=(P.p.map Sg.name).nodup_iff.mpr (X6 P.ok)
 have mT:∀ {g:Sg},g∈T→g∈F:=fun h=>P.p.mem_iff.mp h
 refine f9 gs ?_
 refine Op.lift (m:=5) (cz0 P.wf.toWfT (fun T1 g T2 e=>?_) hp (fun x h=>P.get (hli x h)) ?_) (by exact jv2 tT)
 ·cases e2:c0 T1 g.name with
  | none=>rfl
  | some q =>
   refine oA (w2 e2) fun m en=>?_
   rw [e,kq0,kx1,kq9] at nT
   exact absurd en (nT.2.2 _ (jw3 m) _ (jv0 ..))
 refine Op.lift (m:=1) (hq1 P.wf.len nT (fun g m=>P.wf.at_ g m) (fun g m=>jq3 P (mT m)) (fun g m o ho=>(P.wf.dir g m o ho).2) hp ?_) (by exact jv2 tT)
 refine r7 ?_
 refine ⟨_,m6 (by lia) (by exact li0 [] (.num 0) (.num 1000000) tT) (by lia) (by exact li0 [] (.num 3) (.num 1000000) tT),?_⟩
 exact laps gs bm P hn hli hc [0,1,2] _ k none (.all ⟨rfl,rfl,rfl,rfl,rfl,trivial⟩) (by refine (?_:k+20 * 3≤800);exact d6 [_] 1 zA (.num 200) (.add zA (.num 60)) (.num 800) tT hk) trivial
theorem eq9 {t:Addr} {k:Nat} {cells:List Nat} {ns:List Int} (gs:i9 G5=true) (bm:cz4 hb) (P:Pl F T ord tp) (hp:Pf T [] (T.map Sg.name) ord) (hc:cells.length≤1000) (hk:k≤100) (hn:0<F.length) :
  wpS PW w hb G5 (30+2) XL 57 [(st "stands",.dat (o3 T)),(st "found",.dat (o3 F)),(st "tape",.ref t),(st "script",.dat (.list (ns.map .int)))] ((u7 (j4 41)).drop 3) ((t,.dct (k6 cells k))::HT none []) lawQ:=by
 have hF6:=P.len
 refine ⟨_,_,.same,b0,by refine a5 (jv1 ..) (a5 (jv1 ..) ?_);exact ul hF6 tT,?_⟩
 refine d4 (fun g:Sg=>V.dat g.row) F (fun g=>some (.tuple [.str g.name,g.row])) (by refine a5 jw5 ?_;rfl) (by kernel_rfl) (fun g hg=>?_) ?_
 ·exact ⟨.new rfl,⟨fun u_=>⟨rfl,_,rfl,rfl⟩,nofun⟩⟩
 refine ⟨rfl,.inr fun D0=>?_⟩
 have e1:(F.filterMap fun g=>some (PyData.tuple [.str g.name,g.row]))=(i8 F).map fun p=>.tuple [.str p.1,p.2]:=by
  unfold i8
  refine a5 jw5 (a5 kx5 ?_);rfl
 refine a5 e1 ?_
 refine X5 (i:=0) rfl (by unfold i8;refine a5 (jv1 ..) ?_;exact ul hF6 tT) ?_
 refine a5 (Q2 (by unfold i8;refine a5 jw5 ?_;exact X6 P.ok)) ?_
 intro D
 refine .inl ?_
 refine ⟨rfl,?_⟩
 refine ⟨_,b0,?_⟩
 refine fk6 gs (fun g:Sg=>V.dat g.row) T (fun l ρ H'=>ρ=[(st "items",.ref D),(st "lined",.dat (.list [])),(st "table",.dct (i8 F)),(st "stands",.dat (o3 T)),(st "found",.dat (o3 F)),(st "tape",.ref t)]∧∃ T1,T=T1++l∧H'=(D,.lst (T1.map Sg.item))::(D0,.lst ((i8 F).map fun p=>.tuple [.str p.1,p.2]))::(t,.dct (k6 cells k))::HT none []) (by refine a5 jw5 ?_;rfl) ⟨_,.all (ρ:=[(st "items",.ref D),(st "lined",.dat (.list [])),(st "table",.dct (i8 F)),(st "stands",.dat (o3 T)),(st "found",.dat (o3 F)),(st "tape",.ref t)]) (show G7 ((st "table",.dct (i8 F))::(st "items",.ref D)::(st "lined",.dat (.list []))::(st "stands",.dat (o3 T))::(st "found",.dat (o3 F))::(st "tape",.ref t)::_) _ from ⟨rfl,rfl,rfl,rfl,rfl,rfl,trivial⟩),rfl,[],rfl,rfl⟩ ?_ ?_
 ·rintro N hN hE g l ρ1 H1 ⟨rfl,T1,hT,rfl⟩
  refine i4 0 rfl ?_
  refine g5 (i:=0) rfl (by have:=P.p.length_eq;rw [hT,jw8] at this;refine a5 (jv1 ..) ?_;exact i5 [_,_,_] 1 (.add zA zB) zC 1 zC (.num 6) zA (.num 1000000) tT (o7 this) hF6) ?_
  exact hN _ _ _ ⟨_,.all (ρ:=[(st "items",.ref D),(st "lined",.dat (.list [])),(st "table",.dct (i8 F)),(st "stands",.dat (o3 T)),(st "found",.dat (o3 F)),(st "tape",.ref t)]) ⟨rfl,rfl,rfl,rfl,rfl,rfl,trivial⟩,rfl,T1++[g],by refine a5 (hT ..) (a5 (kk4 ..) ?_);rfl,by refine a5 kq0 ?_;rfl⟩
 ·rintro ρ1 H1 ⟨rfl,T1,hT,rfl⟩
  rw [kq4] at hT
  subst hT
  have ho:0<ord.length:=by refine a5 (P.po.length_eq ..) (a5 (jv1 ..) ?_);exact hn
  refine V9 (ik0 (cj4 gs (k:=60) ?_))
  refine Op.lift (m:=1) (t6 (i:=2) (E9:=3) rfl hc (by exact ul hk tT) (by exact kx3 _) ?_) (by exact jv2 tT)
  refine ⟨fun u_=>f9 gs ?_,fun u_=>fk1 ?_⟩
  ·have lF:((F.map Sg.row).map V.dat).length=F.length:=by exact a5 (jv1 ..) (a5 (jv1 ..) rfl)
   refine j7 d5 (by refine a5 lF ?_;exact d6 [_] 1 zA (.num 6) (.add zA nA) (.num 4611686018427387904) tT hF6) ?_
   refine a5 lF ?_
   refine Op.lift (m:=1) (t6 (i:=2) rfl hc (by exact d6 [_] 1 zA (.num 100) (.add zA nA) (.num 1000) tT hk) hn ?_) (by exact jv2 tT)
   have hd:=o6 (cells:=cells) (k:=k+1) hn
   have hx:((F.map Sg.row).map V.dat)[d7 cells (k+1) F.length]?=some (.dat (F[d7 cells (k+1) F.length].row)):=by
    refine a5 (jw7) (a5 (jw7) (a5 (jw0 hd) ?_));rfl
   refine o8 d5 rfl (by exact i5 [_,_] 1 (.add zA nA) zB 1 zB (.num 6) zA (.num 1000000) tT hd hF6) hx ?_
   refine .inl ?_
   refine i4 0 rfl ?_
   have hlen:(T.map Sg.item).length≤1000000:=by have:=P.p.length_eq;refine a5 (jv1 ..) ?_;exact i5 [_,_] 1 zA zB 1 zB (.num 6) zA (.num 1000000) tT (o7 this) hF6
   refine o8 (k:=0) d5 rfl (by exact kx0 _) rfl ?_
   refine g5 (i:=0) ?_ hlen ?_
   ·rfl
   exact ex6 (lined:=some F[d7 cells (k+1) F.length].name) gs bm P hp ho (fun x h=>by (injection h with i;subst i);exact P.mem (kw6 hd)) hc (by exact d6 [_] 1 zA (.num 100) (.add (.add zA nA) nA) (.num 200) tT hk) ⟨rfl,rfl,rfl,rfl,rfl,trivial⟩
  ·have:=ex6 (w:=w) (ρ:=[(st "items",.ref D),(st "lined",.dat (.list [])),(st "table",.dct (i8 F)),(st "stands",.dat (o3 T)),(st "found",.dat (o3 F)),(st "tape",.ref t)]) (lined:=none) (zs:=(i8 F).map fun p=>.tuple [.str p.1,p.2]) (k:=k+1) (D:=D) (D0:=D0) (t:=t) gs bm P hp ho nofun hc (by exact d6 [_] 1 zA (.num 100) (.add zA nA) (.num 200) tT hk) ⟨rfl,rfl,rfl,rfl,rfl,trivial⟩
   rw [show T.map Sg.item++v7 none=T.map Sg.item from kq4 _] at this
   exact this
end
end
section
section
variable {w:World} {hb:Heap} {F T:List Sg} {ord:List Str} {tp:Str→Str}
theorem ik3 {ls:List Str} {m j:Nat} (G:Gen F ls m j) (hm:m≤3) (hj:j≤3) (p:T.Perm F):∃ ord tp,Pl F T ord tp∧Pf T [] (T.map Sg.name) ord:=by
 have ok:=jj2 G hm hj
 refine oE (ok_tp ok (c0 F) fun g m=>(G4 (X6 ok)).mpr ⟨m,rfl⟩) fun tp ht=>?_
 have q:=p.map Sg.name
 refine c9 (ok_pf ok p _ [] (T.map Sg.name) rfl (fun x hx=>.inr (q.mem_iff.mpr hx)) fun x hx=>q.mem_iff.mp hx) fun ord h1 h2=>?_
 exact ⟨ord,tp,⟨ok,ak2 G hm hj,jw9 (gk3 G) hj,p,h2.trans q,ht⟩,h1⟩
theorem c_law {ns:List Int} (hl:ns.length≤63) (bm:cz4 hb) (gs:i9 G5=true):TS PW w hb G5 (30+2) XL [(st "script",.dat (.list (ns.map .int)))] (u7 (j4 41)) (HT none []) lawQ:=by
 refine f9 gs ?_
 refine Op.lift (m:=1) (jk1 (by exact ul hl tT) fun t=>?_) (by exact jv2 tT)
 have hc:((ns.take 50).map Int.natAbs).length≤1000:=by refine a5 (jv1 ..) (a5 (nx2 ..) ?_);lia
 generalize (ns.take 50).map Int.natAbs=cells at hc
 refine Op.lift (m:=2) (iz6 (i:=0) rfl hc (by exact kx0 _) fun F ls m1 j1 k1 G hm1 hm3 hj1 hj3 hk1=>?_) (by exact jv2 tT)
 refine Op.lift (m:=1) (t6 (i:=0) (E9:=3) rfl hc (by exact ul hk1 tT) (by exact kx3 _) ?_) (by exact jv2 tT)
 have hn:0<F.length:=by refine a5 G.len.1 ?_;exact d6 [_,_] 1 nA zA (.add (.num 0) nA) (.add zB zA) tT hj1
 refine ⟨fun u_=>?_,fun u_=>?_⟩
 ·refine y9 (ik3 G hm3 hj3 (List.reverse_perm F)) fun ord tp P hp=>?_
  refine ⟨by decide,⟨by have:=P.len;refine a5 (jv1 ..) ?_;exact ul this tT,?_⟩⟩
  refine a5 (gq7 ..) (p8 (List.map_reverse ..) ?_)
  exact eq9 gs bm P hp hc (by exact d6 [_] 1 zA (.num 20) (.add zA nA) (.num 100) tT hk1) hn
 ·refine y9 (ik3 G hm3 hj3 (List.Perm.refl F)) fun ord tp P hp=>?_
  exact Eq.mpr (by kernel_rfl) (eq9 (w:=w) (t:=t) (ns:=ns) gs bm P hp hc (by exact d6 [_] 1 zA (.num 20) (.add zA nA) (.num 100) tT hk1) hn)
end
end
section
theorem fq3 {h h':Heap} {ns:List Int}:∀ {vs:List Value} {as:List Addr},ReadsAll h vs (ns.map .int) as→∃ as',ReadsAll h' vs (ns.map .int) as':=by
 induction ns with
 | nil=>exact fun {vs as} r=>(show vs=[] from X0 r)▸⟨_,.nil⟩
 | cons i ns ih =>
  intro vs as r
  obtain ⟨v,us,_,_,rfl,r,t⟩:=X0 r
  obtain ⟨u,rfl⟩:=rdi r
  exact oE (ih t) fun as' q=>⟨_,.cons (.int _ _) q⟩
theorem gz7 (w:World) (s:Shared) (l:Addr) (ns:List Int) (as:List Addr) (bs:Base w (hideAll s.heap [647])) (bm:cz4 (hideAll s.heap [647])) (hP:s.heap.get? 647=some (tabObj #[])) (hg:s.gens=#[]) (rd:Reads s.heap (.ref l) (.list (ns.map .int)) as) (hl:ns.length≤63) :
  wpAny (model PW w) callerA (PySem.call (.ref 650) [.ref l]) (fun v s'=>v=.bool true∧OldK s.heap s'.heap∧s'.os=s.os∧s'.gens=#[]) (fun u_ u_=>False) s:=by
 have y:Sat PW w (hideAll s.heap [647]) [647] (HT none []) s:=by
  refine ⟨bs,fun u_ u_ e=>e,fun a m=>?_,fun a m=>m,by trivial,fun p m=>?_,hg⟩
  ·refine a5 (jv4.mp m) ?_;exact ⟨_,hP⟩
  ·refine a5 (jv4.mp m) ?_;exact hP
 obtain ⟨⟨fd,F,e⟩,g⟩:=gk7 (w:=w) (a:=650) (code:=649) (st:=j4 41) (names:=[st "script"]) rfl rfl rfl (by kernel_rfl) (ar1 fun u_=>by kernel_rfl)
 have r1:RepV PW w (f7 s [647]) (.ref l) (.dat (.list (ns.map .int))):=by
  obtain ⟨a,o,vs,m,bs,el,ho,hc,hd,r⟩:=rdi rd
  (injection el with el;subst el)
  ·refine oE (fq3 (h':=f7 s [647]) r) fun as' q=>?_
   refine .dat ⟨_,.list (k9 ho fun m=>?_) hc hd q⟩
   rw [jv4.mp m,hP] at ho
   (injection ho with i;subst i)
   cases hc
 refine lx2 (gk5 (X:=XL) (n:=30+2) (H:=HT none []) (Q:=fun d H'=>d=.dat (.bool true)∧∃ Hs o,R6 o∧H'=Hs++HT o []) F rfl (by refine a5 e ?_;exact c_law hl bm g) (fun u_=>rfl) ⟨by exact (jv2 tT),by exact (jv2 tT),rfl⟩ (fun u_=>⟨⟨[],rfl,trivial⟩,nofun⟩) y (.cons r1 .nil) ⟨fun {v s' Z' d H'} st y' r q=>?_,fun h=>h.elim⟩)
 obtain ⟨rfl,Hs,o,ok,rfl⟩:=q
 refine ⟨?_,?_,st.os,y'.gens⟩
 ·exact oE r.inv fun as' r=>rdi r
 have kp:∀ b o,b≠647→s.heap.get? b=some o→s'.heap.get? b=some o:=fun b o n e=>st.keep b o e noE fun m=>n (jv4.mp m)
 rcases o with _ | ⟨c,oc⟩
 ·have h7:s'.heap.get? 647=some (tabObj #[]):=y'.own (647,.raw (tabObj #[])) (jv7 _ (jv0 ..))
  refine .of_keep fun b o e=>?_
  by_cases h:b=647
  ·rw [h] at e ⊢
   rw [hP] at e
   exact a5 h7 (a5 e rfl)
  ·exact kp b o h e
 ·have h7:s'.heap.get? 647=some (tabObj (#[]++#[rawInt 502,rawInt 26,.ref c])):=y'.own (647,.raw _) (jv7 _ (jv3 _ (jv0 ..)))
  have C:CodeHd s.heap 649 647:=codeHd_of_K y.K (by rfl)
  have C':CodeHd s'.heap 649 647:=codeHd_of_K y'.K (by rfl)
  exact (OldK.refl s.heap).step_table (C.tab hP) (C.tab hP) (C'.tab h7) (fun b o n e=>kp b o n e) (by decide)
end
end Mine
section
set_option maxRecDepth 1000000
namespace Mine
noncomputable def aj7 (tb:String→Option Builtin) (p:Program) (w:World) (n₀:Nat) (ann:Option Value):Nat→SharedT→Thread→Option SharedT
 | 0,_,_=>none
 | n+1,s,t=>match through t with
  | true=>some s
  | false=>match PySem.W.Fast.tw6613529449190102663 n₀ ann t with
   | false=>none
   | true=>match PySem.W.Fast.tw10156331382660048174 (PySem.W.Fast.tw11892475500146522536 tb) p w s t with
    | some (s',t')=>aj7 tb p w n₀ ann n s' t'
    | none=>none
theorem dx1 {tb:String→Option Builtin} {p:Program} {w:World} {n₀:Nat} {ann:Option Value} {n:Nat} {s s':SharedT} {t:Thread} (h:aj7 tb p w n₀ ann n s t=some s'):topRun tb p w n₀ ann n s.abs t=some s'.abs:=by
 induction n generalizing s t with
 | zero=>exact nn h
 | succ n ih =>
  have e1:@PySem.W.Fast.tw6613529449190102663=stepOk:=PySem.W.Fast.te6613529449190102663.symm
  have e2:@PySem.W.Fast.tw10156331382660048174=stepT:=PySem.W.Fast.te10156331382660048174.symm
  have e3:@PySem.W.Fast.tw11892475500146522536=denote:=PySem.W.Fast.te11892475500146522536.symm
  dsimp only [aj7] at h
  replace h:=e3▸e2▸e1▸h
  dsimp only [topRun]
  cases ht:through t with
  | true=>rw [ht] at h;(injection h with i;subst i);rfl
  | false =>
   rw [ht] at h
   cases hk:stepOk n₀ ann t with
   | false=>rw [hk] at h;exact nn h
   | true =>
    rw [hk] at h
    cases hs:stepT (denote tb) p w s t with
    | none=>rw [hs] at h;exact nn h
    | some r=>obtain ⟨s₂,t₂⟩:=r;rw [hs] at h;refine a5 (stepT_spec hs) ?_;exact ih h
noncomputable def fk4 (P:Params):BT:=(boot_heap P).objs.toList.zipIdx.foldl (fun t p=>t.ins p.2 p.1) .nil
theorem fk3:∀ P:Params,absHeap (fk4 P) 11 (boot_heap P).life=boot_heap P:=by intro P;kernel_rfl
noncomputable def PV:Program:={ PW with main:={ PW.main with body:=PW.main.body.filter fun s=>match s with | .FunctionDef x _ _ _ _ _ _ _ _ _=>x == ("law":Str) | _=>false } }
theorem jk5:∀ P,asL=(Kf P).map (·.1):=by intro P;kernel_rfl
noncomputable abbrev HK:Hook:=kHook Kf asL jk5
noncomputable abbrev rowL:OpenRow:=PySem.Challenge.rw_nu0249_01.row
noncomputable def LO:List Str:=(["_wall","FinderError","SpotFault","KindFault","ScopeFault","BoundFault","LimitFault","set_of","union","minus","is_within","product","Universe","Bounds","USUAL","MOST_ATOMS","MOST_TUPLES","NOWHERE","Numbers","Uppers","Scopes","ORDERING","Signatures","_law_tape","_law_draw","_law_sigs","_law_names","_law_top","_law_scope","_law_is_refused","_law_lot","_law_greatest","_law_heard","_law_bounds_right","_law_product_right"]:List String).map PySem.Str.ofString
noncomputable abbrev XT (s:Shared):Bool:=xlAt PV [] s&&recOk (RowW.records rowL.toRowW) s
noncomputable def S0T (w:World) (os:OsState):SharedT:=⟨fk4 w.params,11,(boot_heap w.params).life,Array.mk [],boot_drawn,boot_toks,os⟩
noncomputable def gz5 (p q:Program) (loose:List Str) (Xt:Shared→Bool) {α:Type} (Yf:Shared→α) (w:World) (s:Shared) :=
 ((staticsOk (importedModules p.main.body) (boot_heap w.params) s.heap&&namesBound p s.heap&&gensDone s&&laidKept (boot_heap w.params) s.heap),openSeen q loose (importedModules p.main.body) Xt true s,Yf s)
theorem iq6 {p q:Program} {loose:List Str} {Xt:Shared→Bool} {α:Type} {Yf:Shared→α} {Ya:World→α} {N:Nat}
  (o:∀ w:World,(fencedOpening treeTable p w N).map (fun s=>(s.heap,s.gens,s.drawn,s.toks))=some (boot_heap w.params,Array.mk [],boot_drawn,boot_toks))
  (z1:∀ P:Params,((boot_heap P).isNs mainGlobals&&(Array.mk ([]:List GenState)).size == 0)=true) (z2:∀ P:Params,(boot_heap P).objs.size=11) (z3:∀ P:Params,(boot_heap P).nsMap mainGlobals "__annotations__"=some (.ref 6))
  (big:∀ (w:World) (os:OsState),(aj7 PySem.W.Fast.tw14364793385576792824 p w 11 (some (.ref 6)) N (S0T w os) (topStub p)).map (fun s=>gz5 p q loose Xt Yf w s.abs)=some (true,openGood q loose,Ya w)):LeftO p q loose Xt Yf Ya N:=fun w=>by
 refine c9 (kz0.mp (o w)) fun s hs hv=>?_
 obtain ⟨h,gs,d,k,os⟩:=s
 obtain ⟨rfl,rfl,rfl,rfl⟩:h=boot_heap w.params∧gs=Array.mk []∧d=boot_drawn∧k=boot_toks:=by simpa using hv
 refine c9 (kz0.mp (big w os)) fun r hr hg=>?_
 have e4:@PySem.W.Fast.tw14364793385576792824=treeTable:=PySem.W.Fast.te14364793385576792824.symm
 rw [e4] at hr
 have hr':=dx1 hr
 have ea:(S0T w os).abs=⟨boot_heap w.params,Array.mk [],boot_drawn,boot_toks,os⟩:=by
  refine (?_:(⟨absHeap (fk4 w.params) 11 (boot_heap w.params).life,Array.mk [],boot_drawn,boot_toks,os⟩:Shared)=_)
  exact a5 (fk3 ..) rfl
 rw [ea] at hr'
 refine oA (Prod.mk.inj hg) fun g1 g2=>?_
 refine oA (Prod.mk.inj g2) fun g2 g3=>?_
 have t:topFrom treeTable p w N ⟨boot_heap w.params,Array.mk [],boot_drawn,boot_toks,os⟩=some r.abs:=by
  unfold topFrom
  dsimp only
  refine a5 (z1 ..) (a5 (z2 ..) (a5 (z3 ..) (a5 (hr' ..) ?_)))
  refine (?_:(match staticsOk (importedModules p.main.body) (boot_heap w.params) r.abs.heap&&namesBound p r.abs.heap&&gensDone r.abs&&laidKept (boot_heap w.params) r.abs.heap with | true=>some r.abs | false=>none)=_)
  exact a5 g1 rfl
 unfold openEnds
 refine a5 hs ?_
 refine (?_:(topFrom treeTable p w N _).map _=_)
 refine a5 t ?_
 refine (?_:some (openSeen q loose (importedModules p.main.body) Xt true r.abs,Yf r.abs)=_)
 exact a5 g2 (a5 g3 rfl)
theorem cq8:LeftO PW PV LO XT HK.obs HK.val 9852:=iq6 (boot_open (by kernel_rfl) (by kernel_rfl) (fun s=>by kernel_rfl)) (by intro P;kernel_rfl) (by intro P;kernel_rfl) (by intro P;kernel_rfl) (by intro w os;kernel_rfl)
end Mine
end
section
set_option maxRecDepth 1000000
namespace Mine
theorem said:PySem.Challenge.rw_nu0249_01.wellSaid=true:=by kernel_rfl
set_option tactic.hygienic true in
theorem all_laws:PySem.Challenge.rw_nu0249_01.Holds:=by
 refine holds_law said fun sd=>?_
 refine holds_open (q:=PV) (loose:=LO) (Xt:=XT) (XP:=PySem.W.XL PV []) (Yf:=HK.obs) (Ya:=HK.val) (YP:=HK.says) (N:=9852) cq8 (Hook.of HK) (Hook.keeps HK) (fun s e=>xl_of s (jw6.mp e).1) XL.keeps (by rfl) (by rfl) (by rfl) (fun s e=>recFacts_of (jw6.mp e).2) (by rfl) sd (by decide +kernel) ⟨rfl,rfl,rfl,rfl,rfl,by decide +kernel⟩ ?hw ?hc
 case hw=>w_witness2
 intro w s₀ s₁ mg mb G Y fa o pm cd doc dV kV ho hd hcd hD hmg hg args vals as hpre hlay hrd hwl hlo
 have KX:=kIn_of Y
 have T:=topRead_of G.T
 clear hd hD hcd
 wrow_args hpre hlay hrd hwl hlo
 rename_i ns hs h0 h1 h2 h3 as1 as2 l vs as3 hL ra w1 r0 hI hr hc1 hc2
 have e:fa=650:=by
  have e1:=mg_of KX T.g (show nsIn (Kf w.params) mainGlobals "law"=some (some (.ref 650)) by rfl)
  have e2:mg "law"=some (.ref fa):=hmg
  rw [e1] at e2
  cases e2
  rfl
 subst e
 obtain ⟨d,hr⟩:=kk5.mp (show ((recsOf PV).find? (fun e=>e.name == ("law":Str))).isSome=true by kernel_rfl)
 obtain ⟨C,hP⟩:=tab_of (x:="law") (c:=649) (P:=647) G.T KX hr (by rfl)
 have hT:TabsAt [(649,647)] s₁.heap:=fun q hq=>by rw [jv4.mp hq];exact ⟨C,hP⟩
 have T2:=ghost_top hT G.T
 have K2:=ghost_K hT KX (by rfl)
 have bm:cz4 (hideAll s₁.heap [647]):=by
  obtain ⟨b,ob,a1,_,a3,a4⟩:=T2.bmain
  rw [mg_of KX T.g (show nsIn (Kf w.params) mainGlobals "__builtins__"=some (some (.ref 4)) by rfl)] at a1
  cases a1
  exact ⟨ob,a3,a4⟩
 refine kx7 (gz7 w s₁ l ns _ ⟨K2,_,_,_,_,topRead_of T2⟩ bm hP hg r0 (by lia)) (fun v s' h=>?_) fun u_ u_ h=>h.elim
 obtain ⟨rfl,h1,h2,h3⟩:=h
 refine ⟨.inl ⟨_,.bool true,[],rfl,fun u_=>rfl,.bool _,?_,fun u_=>⟨by simp,fun u_ h=>nomatch h⟩⟩,h1,h2,.of_eq h3⟩
 exact postW_of rfl (w_eq_bool (w_res rfl) w_lit) rfl
end Mine
end
theorem PySem.Challenge.cw_nu0249_01_holds : PySem.Challenge.rw_nu0249_01.Holds :=
 Mine.all_laws
