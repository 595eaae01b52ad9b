import PyProof.Rows.All
import PyProof.Calls
import PyProof.AssignAttr
import PyProof.AutoSeq1
import PyProof.CallStr
import PyProof.Cells
import PyProof.CompFree
import PyProof.MeetsSeq
import PyProof.ListOps
import PyProof.EnumMake
import PyProof.IsiBase
import PyProof.ExcArgsOwn
import PyProof.ExcBaseAll.ValueError
import PyProof.ExcAttrAll.ValueError
import PyProof.StationsW
import PyProof.WalksMore
import PyProof.InstLoad
import PyProof.IsiH_list
import PyProof.LetGo
import PyProof.ListIndexNeg
import PyProof.WalkInts
import PyProof.RulesAs
import PyProof.NsDelKeeps
import PyProof.Rows.News
import PyProof.Rows.Tup
import PyProof.Rows.Catch
import PyProof.Rows.RuleN_isinstance
import PyProof.SliceMore
import PyProof.Rows.Walk
import PyProof.RulesAssignMore
import PyProof.Rows.PlainObj
import PyProof.Rows.PlainEq
import ObjForm.Fk.InstStore
import ObjForm.Fk.ObjNew
import ObjForm.Fk.InstLoad
import ObjForm.Fk.PlainObj
import OpenK.KCall
import Open.Line
import OpenK.KMore
import OpenK.KMeth
import OpenK.KDict
import OpenK.KCell
import Open.FastRun
import KE.LcSums
import KE.KIsAll
import KE.KRevIter
import PySem.Challenge.RW_uf020018_12
set_option Elab.async false
set_option autoImplicit false
set_option linter.all false
set_option genSizeOf false
set_option genInjectivity false
set_option genCtorIdx false
set_option bootstrap.genMatcherCode false
set_option maxRecDepth 100000
set_option maxHeartbeats 8000000
open List renaming length_map→Ki,replicate→Kk,length_append→Km,getElem?_eq_some_iff→Kn,cons_append→Ko,mem_of_getElem?→Kp,mem_singleton→Kq,nil_append→Kr,range→Kt,getD_eq_getElem?_getD→Ku,mem_cons→Kw,length_range→Kz,getElem?_eq_getElem→KA,length→KG,getElem?_map→KH,all_eq_true→KI,size_toArray→KJ,mem_map→KL,mem_append→KM,mem_append_right→KO,nodup_cons→KQ,mem_append_left→KR,mem_range→KS,map_append→KT,map→KU,length_singleton→KY,nodup_append→KZ,map_map→K0,mem_filter→K5,append_assoc→K7,getElem?_append_left→K8,take_length→K9,take_add_one→Lb,lookup_cons→Ld,length_take→Le,length_filter_le→Lh,length_drop→Li,append_nil→Ll,getElem?_append_right→Lq,getElem?_eq_none→Lu,idxOf_lt_length_of_mem→Ly,map_cons→LG,nodup_nil→LH,toArray→LK,mem_iff_getElem?→LL,isEmpty_iff→LM,contains_iff_mem→LN,not_mem_nil→LX,length_pos_iff→L2,flatten_cons→L3,length_replicate→L6,getElem?_take_of_lt→L7,contains_cons→L8,take_of_length_le→Mg,take_append_drop→Mj,sum_cons→Mk,mem_filterMap→Ml,mem_or_eq_of_mem_set→Mn,drop_eq_getElem_cons→Mo,getElem?_of_mem→Mp,map_eq_nil_iff→Mr,getElem?_range→Ms,flatten_append→Mt,nodup_range→Mw,length_pos_of_mem→Mx,drop_of_length_le→My,length_set→MC,getElem?_toArray→MD,idxOf_append→ME,filter_congr→MF,any_eq_false→MG,perm_ext_iff_of_nodup→MJ,mem_of_mem_take→MK,mem_of_mem_drop→ML,getElem?_append→MM,mem_of_find?_eq_some→MO,mem_flatMap→MP,length_erase_of_mem→MT,getElem_range→MV,getElem_idxOf→MW,filter_map→MX,filter_append→MY,drop_nil→MZ,getElem?_set_self→M7,getElem?_inj→Na,filter→Nb,ext_getElem?→Nc,perm_append_comm→Nf,length_cons→Ni,getElem_mem→Nj,any_eq_true→Nk,mem_erase_of_ne→Nn,map_drop→Nq,replicate_succ→Nv,range_succ→Nw,length_reverse→Nx,forIn_cons→Ny,filter_eq_self→Nz,getElem?_drop→ND,pairwise_map→NI,take_nil→NK,map_take→NL,map_id'→NN
open Nat renaming lt_of_le_of_lt→Kj,le_trans→Kl,lt_of_lt_of_le→Ks,le_of_eq→Ky,le_of_lt→KN,le_of_lt_succ→K6,mod_eq_of_lt→Lf,le_of_not_lt→Lg,lt_irrefl→Lj,le_refl→Lk,sub_add_cancel→Ln,le_add_right→Lo,zero_le→Lp,zero_lt_of_lt→Lr,lt_succ_of_le→Ls,add_le_add_left→Lx,add_right_comm→Lz,add_le_add→LA,lt_trans→LD,mul_le_mul_left→LF,le_succ→LJ,min_le_left→LP,min_eq_left→LQ,le_antisymm→LR,succ_le_succ→LV,lt_succ_self→LW,add_sub_of_le→L0,add_mod_right→L1,not_lt_zero→L5,succ_ne_zero→L9,le_add_left→Md,add_mod→Me,lt_of_succ_lt_succ→Mf,min_le_right→Mh,succ_pos→Mi,sub_self→Mq,lt_of_lt_of_eq→Mz,ne_of_lt→MA,ne_of_gt→MB,zero_add→MS,lt_of_le_of_ne→MU,sub_pos_of_lt→M8,sub_le→M9,add_comm→Nd,succ_ne_self→Ng,min_eq_right→Nh,le_add_of_sub_le→Nl,add_le_add_right→Nm,add_assoc→Np,not_lt→Nr,mod_lt→Nt,zero_lt_one→Nu,sub_pos_iff_lt→NA,mod_self→NB,lt_or_eq_of_le→NC,le_succ_of_le→NG,add_left_comm→NH,succ→NJ
open PySem renaming Shared→Kv,wpAny_bind→Kx,wpAny_mono→KB,Value→KC,wpAny→KP,wpAny_pure→KV,Expr→KX,Heap→Lw,Stmt→Mc
open Option renaming map_eq_some_iff→KD,bind_eq_some_iff→Ma,isNone_iff_eq_none→MN,isSome_iff_exists→MR
open Exists renaming intro→KF
open Bool renaming and_eq_true→KW,and_eq_true_iff→La,false_eq_true→LU,not_eq_true'→Mb,true_and→MI,false_ne_true→M6,not_true→NM
open Int renaming ofNat_lt→Lc,le_trans→Lm,natCast_nonneg→Lv,lt_of_lt_of_le→LB,lt_of_le_of_lt→LC,lt_trans→LO,ofNat_le→LY,le_of_eq→LZ,toNat_natCast→L4,toNat_lt→Mm,toNat_of_nonneg→Mu,ofNat_inj→Mv,lt_irrefl→MH,le_refl→MQ,eq_ofNat_of_zero_le→M0,le_of_lt→NF
universe u
@[elab_as_elim] theorem rwl{A:Sort u}{a b:A}{P:A->Prop}(h:a=b)(p:P b):P a:=h▸p
@[elab_as_elim] theorem rwb{A:Sort u}{a b:A}{P:A->Prop}(h:a=b)(p:P a):P b:=h▸p
set_option hygiene false in
set_option compiler.extract_closed false in
local macro_rules | `(tactic| walk_at "o") => `(tactic| first | assumption | exact KN (by assumption) | exact Ks (by assumption) (by assumption) | exact Kj (by assumption) (by assumption) | exact Kl (by assumption) (by assumption) | exact Kj (by assumption) (by decide) | exact Ks (by assumption) (by decide) | exact Kl (by assumption) (by decide) | decide | lia | omega)
namespace TD.Internal
theorem aq{P0 P1:Prop}{g:Prop}(h:P0/\P1)(f:P0->P1->g):g:=f h.1 h.2
theorem cI{P0 P1 P2:Prop}{g:Prop}(h:P0/\P1/\P2)(f:P0->P1->P2->g):g:=f h.1 h.2.1 h.2.2
theorem Fv{P0 P1 P2 P3:Prop}{g:Prop}(h:P0/\P1/\P2/\P3)(f:P0->P1->P2->P3->g):g:=f h.1 h.2.1 h.2.2.1 h.2.2.2
theorem IB{P0 P1 P2 P3 P4:Prop}{g:Prop}(h:P0/\P1/\P2/\P3/\P4)(f:P0->P1->P2->P3->P4->g):g:=f h.1 h.2.1 h.2.2.1 h.2.2.2.1 h.2.2.2.2
theorem GV{P0 P1 P2 P3 P4 P5 P6:Prop}{g:Prop}(h:P0/\P1/\P2/\P3/\P4/\P5/\P6)(f:P0->P1->P2->P3->P4->P5->P6->g):g:=f h.1 h.2.1 h.2.2.1 h.2.2.2.1 h.2.2.2.2.1 h.2.2.2.2.2.1 h.2.2.2.2.2.2
theorem aO{α0:Type}{P0:α0->Prop}{g:Prop}(h:∃a0,P0 a0)(f:∀a0,P0 a0->g):g:=h.elim fun a0 h=>f a0 h
theorem af{α0:Type}{P0 P1:α0->Prop}{g:Prop}(h:∃a0,P0 a0/\P1 a0)(f:∀a0,P0 a0->P1 a0->g):g:=h.elim fun a0 h=>f a0 h.1 h.2
theorem bq{α0:Type}{P0 P1 P2:α0->Prop}{g:Prop}(h:∃a0,P0 a0/\P1 a0/\P2 a0)(f:∀a0,P0 a0->P1 a0->P2 a0->g):g:=h.elim fun a0 h=>f a0 h.1 h.2.1 h.2.2
theorem xm{α0:Type}{P0 P1 P2 P3:α0->Prop}{g:Prop}(h:∃a0,P0 a0/\P1 a0/\P2 a0/\P3 a0)(f:∀a0,P0 a0->P1 a0->P2 a0->P3 a0->g):g:=h.elim fun a0 h=>f a0 h.1 h.2.1 h.2.2.1 h.2.2.2
theorem Js{α0:Type}{P0 P1 P2 P3 P4:α0->Prop}{g:Prop}(h:∃a0,P0 a0/\P1 a0/\P2 a0/\P3 a0/\P4 a0)(f:∀a0,P0 a0->P1 a0->P2 a0->P3 a0->P4 a0->g):g:=h.elim fun a0 h=>f a0 h.1 h.2.1 h.2.2.1 h.2.2.2.1 h.2.2.2.2
theorem zi{α0 α1:Type}{P0:α0->α1->Prop}{g:Prop}(h:∃a0 a1,P0 a0 a1)(f:∀a0 a1,P0 a0 a1->g):g:=h.elim fun a0 h=>h.elim fun a1 h=>f a0 a1 h
theorem cG{α0 α1:Type}{P0 P1:α0->α1->Prop}{g:Prop}(h:∃a0 a1,P0 a0 a1/\P1 a0 a1)(f:∀a0 a1,P0 a0 a1->P1 a0 a1->g):g:=h.elim fun a0 h=>h.elim fun a1 h=>f a0 a1 h.1 h.2
theorem bB{α0 α1:Type}{P0 P1 P2:α0->α1->Prop}{g:Prop}(h:∃a0 a1,P0 a0 a1/\P1 a0 a1/\P2 a0 a1)(f:∀a0 a1,P0 a0 a1->P1 a0 a1->P2 a0 a1->g):g:=h.elim fun a0 h=>h.elim fun a1 h=>f a0 a1 h.1 h.2.1 h.2.2
theorem dJ{α0 α1:Type}{P0 P1 P2 P3:α0->α1->Prop}{g:Prop}(h:∃a0 a1,P0 a0 a1/\P1 a0 a1/\P2 a0 a1/\P3 a0 a1)(f:∀a0 a1,P0 a0 a1->P1 a0 a1->P2 a0 a1->P3 a0 a1->g):g:=h.elim fun a0 h=>h.elim fun a1 h=>f a0 a1 h.1 h.2.1 h.2.2.1 h.2.2.2
theorem wx{α0 α1:Type}{P0 P1 P2 P3 P4:α0->α1->Prop}{g:Prop}(h:∃a0 a1,P0 a0 a1/\P1 a0 a1/\P2 a0 a1/\P3 a0 a1/\P4 a0 a1)(f:∀a0 a1,P0 a0 a1->P1 a0 a1->P2 a0 a1->P3 a0 a1->P4 a0 a1->g):g:=h.elim fun a0 h=>h.elim fun a1 h=>f a0 a1 h.1 h.2.1 h.2.2.1 h.2.2.2.1 h.2.2.2.2
theorem Gf{α0 α1:Type}{P0 P1 P2 P3 P4 P5:α0->α1->Prop}{g:Prop}(h:∃a0 a1,P0 a0 a1/\P1 a0 a1/\P2 a0 a1/\P3 a0 a1/\P4 a0 a1/\P5 a0 a1)(f:∀a0 a1,P0 a0 a1->P1 a0 a1->P2 a0 a1->P3 a0 a1->P4 a0 a1->P5 a0 a1->g):g:=h.elim fun a0 h=>h.elim fun a1 h=>f a0 a1 h.1 h.2.1 h.2.2.1 h.2.2.2.1 h.2.2.2.2.1 h.2.2.2.2.2
theorem mU{α0 α1:Type}{P0 P1 P2 P3 P4 P5 P6:α0->α1->Prop}{g:Prop}(h:∃a0 a1,P0 a0 a1/\P1 a0 a1/\P2 a0 a1/\P3 a0 a1/\P4 a0 a1/\P5 a0 a1/\P6 a0 a1)(f:∀a0 a1,P0 a0 a1->P1 a0 a1->P2 a0 a1->P3 a0 a1->P4 a0 a1->P5 a0 a1->P6 a0 a1->g):g:=h.elim fun a0 h=>h.elim fun a1 h=>f a0 a1 h.1 h.2.1 h.2.2.1 h.2.2.2.1 h.2.2.2.2.1 h.2.2.2.2.2.1 h.2.2.2.2.2.2
theorem mT{α0 α1 α2:Type}{P0 P1:α0->α1->α2->Prop}{g:Prop}(h:∃a0 a1 a2,P0 a0 a1 a2/\P1 a0 a1 a2)(f:∀a0 a1 a2,P0 a0 a1 a2->P1 a0 a1 a2->g):g:=h.elim fun a0 h=>h.elim fun a1 h=>h.elim fun a2 h=>f a0 a1 a2 h.1 h.2
theorem iU{α0 α1 α2:Type}{P0 P1 P2:α0->α1->α2->Prop}{g:Prop}(h:∃a0 a1 a2,P0 a0 a1 a2/\P1 a0 a1 a2/\P2 a0 a1 a2)(f:∀a0 a1 a2,P0 a0 a1 a2->P1 a0 a1 a2->P2 a0 a1 a2->g):g:=h.elim fun a0 h=>h.elim fun a1 h=>h.elim fun a2 h=>f a0 a1 a2 h.1 h.2.1 h.2.2
theorem gf{α0 α1 α2:Type}{P0 P1 P2 P3:α0->α1->α2->Prop}{g:Prop}(h:∃a0 a1 a2,P0 a0 a1 a2/\P1 a0 a1 a2/\P2 a0 a1 a2/\P3 a0 a1 a2)(f:∀a0 a1 a2,P0 a0 a1 a2->P1 a0 a1 a2->P2 a0 a1 a2->P3 a0 a1 a2->g):g:=h.elim fun a0 h=>h.elim fun a1 h=>h.elim fun a2 h=>f a0 a1 a2 h.1 h.2.1 h.2.2.1 h.2.2.2
theorem wR{α0 α1 α2:Type}{P0 P1 P2 P3 P4:α0->α1->α2->Prop}{g:Prop}(h:∃a0 a1 a2,P0 a0 a1 a2/\P1 a0 a1 a2/\P2 a0 a1 a2/\P3 a0 a1 a2/\P4 a0 a1 a2)(f:∀a0 a1 a2,P0 a0 a1 a2->P1 a0 a1 a2->P2 a0 a1 a2->P3 a0 a1 a2->P4 a0 a1 a2->g):g:=h.elim fun a0 h=>h.elim fun a1 h=>h.elim fun a2 h=>f a0 a1 a2 h.1 h.2.1 h.2.2.1 h.2.2.2.1 h.2.2.2.2
theorem je{α0 α1 α2:Type}{P0 P1 P2 P3 P4 P5:α0->α1->α2->Prop}{g:Prop}(h:∃a0 a1 a2,P0 a0 a1 a2/\P1 a0 a1 a2/\P2 a0 a1 a2/\P3 a0 a1 a2/\P4 a0 a1 a2/\P5 a0 a1 a2)(f:∀a0 a1 a2,P0 a0 a1 a2->P1 a0 a1 a2->P2 a0 a1 a2->P3 a0 a1 a2->P4 a0 a1 a2->P5 a0 a1 a2->g):g:=h.elim fun a0 h=>h.elim fun a1 h=>h.elim fun a2 h=>f a0 a1 a2 h.1 h.2.1 h.2.2.1 h.2.2.2.1 h.2.2.2.2.1 h.2.2.2.2.2
theorem Ae{α0 α1 α2:Type}{P0 P1 P2 P3 P4 P5 P6:α0->α1->α2->Prop}{g:Prop}(h:∃a0 a1 a2,P0 a0 a1 a2/\P1 a0 a1 a2/\P2 a0 a1 a2/\P3 a0 a1 a2/\P4 a0 a1 a2/\P5 a0 a1 a2/\P6 a0 a1 a2)(f:∀a0 a1 a2,P0 a0 a1 a2->P1 a0 a1 a2->P2 a0 a1 a2->P3 a0 a1 a2->P4 a0 a1 a2->P5 a0 a1 a2->P6 a0 a1 a2->g):g:=h.elim fun a0 h=>h.elim fun a1 h=>h.elim fun a2 h=>f a0 a1 a2 h.1 h.2.1 h.2.2.1 h.2.2.2.1 h.2.2.2.2.1 h.2.2.2.2.2.1 h.2.2.2.2.2.2
theorem JC{α0 α1 α2 α3:Type}{P0:α0->α1->α2->α3->Prop}{g:Prop}(h:∃a0 a1 a2 a3,P0 a0 a1 a2 a3)(f:∀a0 a1 a2 a3,P0 a0 a1 a2 a3->g):g:=h.elim fun a0 h=>h.elim fun a1 h=>h.elim fun a2 h=>h.elim fun a3 h=>f a0 a1 a2 a3 h
theorem CC{α0 α1 α2 α3:Type}{P0 P1:α0->α1->α2->α3->Prop}{g:Prop}(h:∃a0 a1 a2 a3,P0 a0 a1 a2 a3/\P1 a0 a1 a2 a3)(f:∀a0 a1 a2 a3,P0 a0 a1 a2 a3->P1 a0 a1 a2 a3->g):g:=h.elim fun a0 h=>h.elim fun a1 h=>h.elim fun a2 h=>h.elim fun a3 h=>f a0 a1 a2 a3 h.1 h.2
theorem Az{α0 α1 α2 α3:Type}{P0 P1 P2:α0->α1->α2->α3->Prop}{g:Prop}(h:∃a0 a1 a2 a3,P0 a0 a1 a2 a3/\P1 a0 a1 a2 a3/\P2 a0 a1 a2 a3)(f:∀a0 a1 a2 a3,P0 a0 a1 a2 a3->P1 a0 a1 a2 a3->P2 a0 a1 a2 a3->g):g:=h.elim fun a0 h=>h.elim fun a1 h=>h.elim fun a2 h=>h.elim fun a3 h=>f a0 a1 a2 a3 h.1 h.2.1 h.2.2
theorem Iy{α0 α1 α2 α3:Type}{P0 P1 P2 P3 P4:α0->α1->α2->α3->Prop}{g:Prop}(h:∃a0 a1 a2 a3,P0 a0 a1 a2 a3/\P1 a0 a1 a2 a3/\P2 a0 a1 a2 a3/\P3 a0 a1 a2 a3/\P4 a0 a1 a2 a3)(f:∀a0 a1 a2 a3,P0 a0 a1 a2 a3->P1 a0 a1 a2 a3->P2 a0 a1 a2 a3->P3 a0 a1 a2 a3->P4 a0 a1 a2 a3->g):g:=h.elim fun a0 h=>h.elim fun a1 h=>h.elim fun a2 h=>h.elim fun a3 h=>f a0 a1 a2 a3 h.1 h.2.1 h.2.2.1 h.2.2.2.1 h.2.2.2.2
theorem Iz{α0 α1 α2 α3:Type}{P0 P1 P2 P3 P4 P5:α0->α1->α2->α3->Prop}{g:Prop}(h:∃a0 a1 a2 a3,P0 a0 a1 a2 a3/\P1 a0 a1 a2 a3/\P2 a0 a1 a2 a3/\P3 a0 a1 a2 a3/\P4 a0 a1 a2 a3/\P5 a0 a1 a2 a3)(f:∀a0 a1 a2 a3,P0 a0 a1 a2 a3->P1 a0 a1 a2 a3->P2 a0 a1 a2 a3->P3 a0 a1 a2 a3->P4 a0 a1 a2 a3->P5 a0 a1 a2 a3->g):g:=h.elim fun a0 h=>h.elim fun a1 h=>h.elim fun a2 h=>h.elim fun a3 h=>f a0 a1 a2 a3 h.1 h.2.1 h.2.2.1 h.2.2.2.1 h.2.2.2.2.1 h.2.2.2.2.2
theorem F9{α0 α1 α2 α3:Type}{P0 P1 P2 P3 P4 P5 P6:α0->α1->α2->α3->Prop}{g:Prop}(h:∃a0 a1 a2 a3,P0 a0 a1 a2 a3/\P1 a0 a1 a2 a3/\P2 a0 a1 a2 a3/\P3 a0 a1 a2 a3/\P4 a0 a1 a2 a3/\P5 a0 a1 a2 a3/\P6 a0 a1 a2 a3)(f:∀a0 a1 a2 a3,P0 a0 a1 a2 a3->P1 a0 a1 a2 a3->P2 a0 a1 a2 a3->P3 a0 a1 a2 a3->P4 a0 a1 a2 a3->P5 a0 a1 a2 a3->P6 a0 a1 a2 a3->g):g:=h.elim fun a0 h=>h.elim fun a1 h=>h.elim fun a2 h=>h.elim fun a3 h=>f a0 a1 a2 a3 h.1 h.2.1 h.2.2.1 h.2.2.2.1 h.2.2.2.2.1 h.2.2.2.2.2.1 h.2.2.2.2.2.2
theorem BL{α0 α1 α2 α3:Type}{P0 P1 P2 P3 P4 P5 P6 P7 P8 P9 P10:α0->α1->α2->α3->Prop}{g:Prop}(h:∃a0 a1 a2 a3,P0 a0 a1 a2 a3/\P1 a0 a1 a2 a3/\P2 a0 a1 a2 a3/\P3 a0 a1 a2 a3/\P4 a0 a1 a2 a3/\P5 a0 a1 a2 a3/\P6 a0 a1 a2 a3/\P7 a0 a1 a2 a3/\P8 a0 a1 a2 a3/\P9 a0 a1 a2 a3/\P10 a0 a1 a2 a3)(f:∀a0 a1 a2 a3,P0 a0 a1 a2 a3->P1 a0 a1 a2 a3->P2 a0 a1 a2 a3->P3 a0 a1 a2 a3->P4 a0 a1 a2 a3->P5 a0 a1 a2 a3->P6 a0 a1 a2 a3->P7 a0 a1 a2 a3->P8 a0 a1 a2 a3->P9 a0 a1 a2 a3->P10 a0 a1 a2 a3->g):g:=h.elim fun a0 h=>h.elim fun a1 h=>h.elim fun a2 h=>h.elim fun a3 h=>f a0 a1 a2 a3 h.1 h.2.1 h.2.2.1 h.2.2.2.1 h.2.2.2.2.1 h.2.2.2.2.2.1 h.2.2.2.2.2.2.1 h.2.2.2.2.2.2.2.1 h.2.2.2.2.2.2.2.2.1 h.2.2.2.2.2.2.2.2.2.1 h.2.2.2.2.2.2.2.2.2.2
theorem Io{α0 α1 α2 α3 α4:Type}{P0:α0->α1->α2->α3->α4->Prop}{g:Prop}(h:∃a0 a1 a2 a3 a4,P0 a0 a1 a2 a3 a4)(f:∀a0 a1 a2 a3 a4,P0 a0 a1 a2 a3 a4->g):g:=h.elim fun a0 h=>h.elim fun a1 h=>h.elim fun a2 h=>h.elim fun a3 h=>h.elim fun a4 h=>f a0 a1 a2 a3 a4 h
theorem HV{α0 α1 α2 α3 α4:Type}{P0 P1 P2 P3:α0->α1->α2->α3->α4->Prop}{g:Prop}(h:∃a0 a1 a2 a3 a4,P0 a0 a1 a2 a3 a4/\P1 a0 a1 a2 a3 a4/\P2 a0 a1 a2 a3 a4/\P3 a0 a1 a2 a3 a4)(f:∀a0 a1 a2 a3 a4,P0 a0 a1 a2 a3 a4->P1 a0 a1 a2 a3 a4->P2 a0 a1 a2 a3 a4->P3 a0 a1 a2 a3 a4->g):g:=h.elim fun a0 h=>h.elim fun a1 h=>h.elim fun a2 h=>h.elim fun a3 h=>h.elim fun a4 h=>f a0 a1 a2 a3 a4 h.1 h.2.1 h.2.2.1 h.2.2.2
theorem CO{α0 α1 α2 α3 α4:Type}{P0 P1 P2 P3 P4:α0->α1->α2->α3->α4->Prop}{g:Prop}(h:∃a0 a1 a2 a3 a4,P0 a0 a1 a2 a3 a4/\P1 a0 a1 a2 a3 a4/\P2 a0 a1 a2 a3 a4/\P3 a0 a1 a2 a3 a4/\P4 a0 a1 a2 a3 a4)(f:∀a0 a1 a2 a3 a4,P0 a0 a1 a2 a3 a4->P1 a0 a1 a2 a3 a4->P2 a0 a1 a2 a3 a4->P3 a0 a1 a2 a3 a4->P4 a0 a1 a2 a3 a4->g):g:=h.elim fun a0 h=>h.elim fun a1 h=>h.elim fun a2 h=>h.elim fun a3 h=>h.elim fun a4 h=>f a0 a1 a2 a3 a4 h.1 h.2.1 h.2.2.1 h.2.2.2.1 h.2.2.2.2
theorem GQ{α0 α1 α2 α3 α4:Type}{P0 P1 P2 P3 P4 P5:α0->α1->α2->α3->α4->Prop}{g:Prop}(h:∃a0 a1 a2 a3 a4,P0 a0 a1 a2 a3 a4/\P1 a0 a1 a2 a3 a4/\P2 a0 a1 a2 a3 a4/\P3 a0 a1 a2 a3 a4/\P4 a0 a1 a2 a3 a4/\P5 a0 a1 a2 a3 a4)(f:∀a0 a1 a2 a3 a4,P0 a0 a1 a2 a3 a4->P1 a0 a1 a2 a3 a4->P2 a0 a1 a2 a3 a4->P3 a0 a1 a2 a3 a4->P4 a0 a1 a2 a3 a4->P5 a0 a1 a2 a3 a4->g):g:=h.elim fun a0 h=>h.elim fun a1 h=>h.elim fun a2 h=>h.elim fun a3 h=>h.elim fun a4 h=>f a0 a1 a2 a3 a4 h.1 h.2.1 h.2.2.1 h.2.2.2.1 h.2.2.2.2.1 h.2.2.2.2.2
theorem DU{α0 α1 α2 α3 α4:Type}{P0 P1 P2 P3 P4 P5 P6:α0->α1->α2->α3->α4->Prop}{g:Prop}(h:∃a0 a1 a2 a3 a4,P0 a0 a1 a2 a3 a4/\P1 a0 a1 a2 a3 a4/\P2 a0 a1 a2 a3 a4/\P3 a0 a1 a2 a3 a4/\P4 a0 a1 a2 a3 a4/\P5 a0 a1 a2 a3 a4/\P6 a0 a1 a2 a3 a4)(f:∀a0 a1 a2 a3 a4,P0 a0 a1 a2 a3 a4->P1 a0 a1 a2 a3 a4->P2 a0 a1 a2 a3 a4->P3 a0 a1 a2 a3 a4->P4 a0 a1 a2 a3 a4->P5 a0 a1 a2 a3 a4->P6 a0 a1 a2 a3 a4->g):g:=h.elim fun a0 h=>h.elim fun a1 h=>h.elim fun a2 h=>h.elim fun a3 h=>h.elim fun a4 h=>f a0 a1 a2 a3 a4 h.1 h.2.1 h.2.2.1 h.2.2.2.1 h.2.2.2.2.1 h.2.2.2.2.2.1 h.2.2.2.2.2.2
theorem Gv{α0 α1 α2 α3 α4 α5:Type}{P0 P1:α0->α1->α2->α3->α4->α5->Prop}{g:Prop}(h:∃a0 a1 a2 a3 a4 a5,P0 a0 a1 a2 a3 a4 a5/\P1 a0 a1 a2 a3 a4 a5)(f:∀a0 a1 a2 a3 a4 a5,P0 a0 a1 a2 a3 a4 a5->P1 a0 a1 a2 a3 a4 a5->g):g:=h.elim fun a0 h=>h.elim fun a1 h=>h.elim fun a2 h=>h.elim fun a3 h=>h.elim fun a4 h=>h.elim fun a5 h=>f a0 a1 a2 a3 a4 a5 h.1 h.2
theorem Bg{α0 α1 α2 α3 α4 α5:Type}{P0 P1 P2:α0->α1->α2->α3->α4->α5->Prop}{g:Prop}(h:∃a0 a1 a2 a3 a4 a5,P0 a0 a1 a2 a3 a4 a5/\P1 a0 a1 a2 a3 a4 a5/\P2 a0 a1 a2 a3 a4 a5)(f:∀a0 a1 a2 a3 a4 a5,P0 a0 a1 a2 a3 a4 a5->P1 a0 a1 a2 a3 a4 a5->P2 a0 a1 a2 a3 a4 a5->g):g:=h.elim fun a0 h=>h.elim fun a1 h=>h.elim fun a2 h=>h.elim fun a3 h=>h.elim fun a4 h=>h.elim fun a5 h=>f a0 a1 a2 a3 a4 a5 h.1 h.2.1 h.2.2
theorem yF{α0 α1 α2 α3 α4 α5:Type}{P0 P1 P2 P3:α0->α1->α2->α3->α4->α5->Prop}{g:Prop}(h:∃a0 a1 a2 a3 a4 a5,P0 a0 a1 a2 a3 a4 a5/\P1 a0 a1 a2 a3 a4 a5/\P2 a0 a1 a2 a3 a4 a5/\P3 a0 a1 a2 a3 a4 a5)(f:∀a0 a1 a2 a3 a4 a5,P0 a0 a1 a2 a3 a4 a5->P1 a0 a1 a2 a3 a4 a5->P2 a0 a1 a2 a3 a4 a5->P3 a0 a1 a2 a3 a4 a5->g):g:=h.elim fun a0 h=>h.elim fun a1 h=>h.elim fun a2 h=>h.elim fun a3 h=>h.elim fun a4 h=>h.elim fun a5 h=>f a0 a1 a2 a3 a4 a5 h.1 h.2.1 h.2.2.1 h.2.2.2
theorem Gz{α0 α1 α2 α3 α4 α5:Type}{P0 P1 P2 P3 P4:α0->α1->α2->α3->α4->α5->Prop}{g:Prop}(h:∃a0 a1 a2 a3 a4 a5,P0 a0 a1 a2 a3 a4 a5/\P1 a0 a1 a2 a3 a4 a5/\P2 a0 a1 a2 a3 a4 a5/\P3 a0 a1 a2 a3 a4 a5/\P4 a0 a1 a2 a3 a4 a5)(f:∀a0 a1 a2 a3 a4 a5,P0 a0 a1 a2 a3 a4 a5->P1 a0 a1 a2 a3 a4 a5->P2 a0 a1 a2 a3 a4 a5->P3 a0 a1 a2 a3 a4 a5->P4 a0 a1 a2 a3 a4 a5->g):g:=h.elim fun a0 h=>h.elim fun a1 h=>h.elim fun a2 h=>h.elim fun a3 h=>h.elim fun a4 h=>h.elim fun a5 h=>f a0 a1 a2 a3 a4 a5 h.1 h.2.1 h.2.2.1 h.2.2.2.1 h.2.2.2.2
theorem CX{α0 α1 α2 α3 α4 α5:Type}{P0 P1 P2 P3 P4 P5:α0->α1->α2->α3->α4->α5->Prop}{g:Prop}(h:∃a0 a1 a2 a3 a4 a5,P0 a0 a1 a2 a3 a4 a5/\P1 a0 a1 a2 a3 a4 a5/\P2 a0 a1 a2 a3 a4 a5/\P3 a0 a1 a2 a3 a4 a5/\P4 a0 a1 a2 a3 a4 a5/\P5 a0 a1 a2 a3 a4 a5)(f:∀a0 a1 a2 a3 a4 a5,P0 a0 a1 a2 a3 a4 a5->P1 a0 a1 a2 a3 a4 a5->P2 a0 a1 a2 a3 a4 a5->P3 a0 a1 a2 a3 a4 a5->P4 a0 a1 a2 a3 a4 a5->P5 a0 a1 a2 a3 a4 a5->g):g:=h.elim fun a0 h=>h.elim fun a1 h=>h.elim fun a2 h=>h.elim fun a3 h=>h.elim fun a4 h=>h.elim fun a5 h=>f a0 a1 a2 a3 a4 a5 h.1 h.2.1 h.2.2.1 h.2.2.2.1 h.2.2.2.2.1 h.2.2.2.2.2
theorem JA{α0 α1 α2 α3 α4 α5 α6:Type}{P0 P1 P2 P3 P4 P5 P6:α0->α1->α2->α3->α4->α5->α6->Prop}{g:Prop}(h:∃a0 a1 a2 a3 a4 a5 a6,P0 a0 a1 a2 a3 a4 a5 a6/\P1 a0 a1 a2 a3 a4 a5 a6/\P2 a0 a1 a2 a3 a4 a5 a6/\P3 a0 a1 a2 a3 a4 a5 a6/\P4 a0 a1 a2 a3 a4 a5 a6/\P5 a0 a1 a2 a3 a4 a5 a6/\P6 a0 a1 a2 a3 a4 a5 a6)(f:∀a0 a1 a2 a3 a4 a5 a6,P0 a0 a1 a2 a3 a4 a5 a6->P1 a0 a1 a2 a3 a4 a5 a6->P2 a0 a1 a2 a3 a4 a5 a6->P3 a0 a1 a2 a3 a4 a5 a6->P4 a0 a1 a2 a3 a4 a5 a6->P5 a0 a1 a2 a3 a4 a5 a6->P6 a0 a1 a2 a3 a4 a5 a6->g):g:=h.elim fun a0 h=>h.elim fun a1 h=>h.elim fun a2 h=>h.elim fun a3 h=>h.elim fun a4 h=>h.elim fun a5 h=>h.elim fun a6 h=>f a0 a1 a2 a3 a4 a5 a6 h.1 h.2.1 h.2.2.1 h.2.2.2.1 h.2.2.2.2.1 h.2.2.2.2.2.1 h.2.2.2.2.2.2
theorem Dh{α0 α1 α2 α3 α4 α5 α6 α7:Type}{P0 P1 P2 P3 P4:α0->α1->α2->α3->α4->α5->α6->α7->Prop}{g:Prop}(h:∃a0 a1 a2 a3 a4 a5 a6 a7,P0 a0 a1 a2 a3 a4 a5 a6 a7/\P1 a0 a1 a2 a3 a4 a5 a6 a7/\P2 a0 a1 a2 a3 a4 a5 a6 a7/\P3 a0 a1 a2 a3 a4 a5 a6 a7/\P4 a0 a1 a2 a3 a4 a5 a6 a7)(f:∀a0 a1 a2 a3 a4 a5 a6 a7,P0 a0 a1 a2 a3 a4 a5 a6 a7->P1 a0 a1 a2 a3 a4 a5 a6 a7->P2 a0 a1 a2 a3 a4 a5 a6 a7->P3 a0 a1 a2 a3 a4 a5 a6 a7->P4 a0 a1 a2 a3 a4 a5 a6 a7->g):g:=h.elim fun a0 h=>h.elim fun a1 h=>h.elim fun a2 h=>h.elim fun a3 h=>h.elim fun a4 h=>h.elim fun a5 h=>h.elim fun a6 h=>h.elim fun a7 h=>f a0 a1 a2 a3 a4 a5 a6 a7 h.1 h.2.1 h.2.2.1 h.2.2.2.1 h.2.2.2.2
theorem IY{α0 α1 α2 α3 α4 α5 α6 α7:Type}{P0 P1 P2 P3 P4 P5 P6 P7:α0->α1->α2->α3->α4->α5->α6->α7->Prop}{g:Prop}(h:∃a0 a1 a2 a3 a4 a5 a6 a7,P0 a0 a1 a2 a3 a4 a5 a6 a7/\P1 a0 a1 a2 a3 a4 a5 a6 a7/\P2 a0 a1 a2 a3 a4 a5 a6 a7/\P3 a0 a1 a2 a3 a4 a5 a6 a7/\P4 a0 a1 a2 a3 a4 a5 a6 a7/\P5 a0 a1 a2 a3 a4 a5 a6 a7/\P6 a0 a1 a2 a3 a4 a5 a6 a7/\P7 a0 a1 a2 a3 a4 a5 a6 a7)(f:∀a0 a1 a2 a3 a4 a5 a6 a7,P0 a0 a1 a2 a3 a4 a5 a6 a7->P1 a0 a1 a2 a3 a4 a5 a6 a7->P2 a0 a1 a2 a3 a4 a5 a6 a7->P3 a0 a1 a2 a3 a4 a5 a6 a7->P4 a0 a1 a2 a3 a4 a5 a6 a7->P5 a0 a1 a2 a3 a4 a5 a6 a7->P6 a0 a1 a2 a3 a4 a5 a6 a7->P7 a0 a1 a2 a3 a4 a5 a6 a7->g):g:=h.elim fun a0 h=>h.elim fun a1 h=>h.elim fun a2 h=>h.elim fun a3 h=>h.elim fun a4 h=>h.elim fun a5 h=>h.elim fun a6 h=>h.elim fun a7 h=>f a0 a1 a2 a3 a4 a5 a6 a7 h.1 h.2.1 h.2.2.1 h.2.2.2.1 h.2.2.2.2.1 h.2.2.2.2.2.1 h.2.2.2.2.2.2.1 h.2.2.2.2.2.2.2
end TD.Internal
namespace TD.Internal
theorem q2{a b:Nat}(h1:a=0->b=2)(h2:a≠0->b=0):b<=2:=(Nat.eq_zero_or_pos a).elim (fun e=>Ky (h1 e)) fun p=>Kl (Ky (h2 (MB p))) (Lp 2)
theorem m0{a:Int}{b:Nat}(h:a≠0/\0<a/\a<=40/\(0<b->a=(b:Int))):b<=40:=(Nat.eq_zero_or_pos b).elim (fun e=>Kl (Ky e) (Lp 40)) fun p=>LY.mp (Lm (LZ (h.2.2.2 p).symm) h.2.2.1)
theorem m1{a:Int}{b c:Nat}(h:a≠0/\0<a/\a<=40/\(0<b->a=(b:Int)))(k:0<=(c:Int)/\(c:Int)<a):c<40:=Lc.mp (LB k.2 h.2.2.1)
theorem tn{b:Nat}(h:b<1000):(-1000000000000:Int)<(b:Int)/\(b:Int)<1000000000000:=⟨LB (by decide) (Lv b),LO (Lc.mpr h) (by decide)⟩
theorem bz{a b c k:Nat}(h:a+100+20*(b+1)<c)(hk:k<=120):a+k+20*b<c:=Kj (Kl (Nm (Lx hk a) (20*b)) (Ky (Lz (a+100) 20 (20*b)))) h
theorem bw{a b c k:Nat}(h:a+5+5*(b+1)<c)(hk:k<=10):a+k+5*b<c:=Kj (Kl (Nm (Lx hk a) (5*b)) (Ky (Lz (a+5) 5 (5*b)))) h
theorem JQ{a b c:Nat}(h1:a<=b)(h2:b=c-1)(h3:0<c):a+1<=c:=Kj (Kl h1 (Ky h2)) (Nat.sub_lt h3 Nu)
theorem J5{a b c:Nat}(h1:a<b-c):c+(b-c-1-a)=b-1-a:=(congrArg (c+·) (Nat.sub_sub (b-c) 1 a)).trans ((Nat.add_sub_assoc (Kl (Ky (Nd 1 a)) h1) c).symm.trans ((Nat.sub_sub (c+(b-c)) 1 a).symm.trans (congrArg (·-1-a) (L0 (KN (NA.mp (Lr h1)))))))
theorem HX{a b c:Nat}(h1:a=b)(h2:¬c<a)(h3:c-a=0):c=b:=(LR (Nat.le_of_sub_eq_zero h3) (Lg h2)).trans h1
theorem Kh{a b c d:Nat}(h1:a<=b-c)(h2:d<=a-1):d<=b-(c+1):=Kl h2 (Kl (Nat.sub_le_sub_right h1 1) (Ky (Nat.sub_sub b c 1)))
theorem Iw{a b:Nat}(h1:2<=a):b+(a-1)+1=b+a:=(Np b (a-1) 1).trans (congrArg (b+·) (Ln (KN h1)))
theorem DA{a b c:Nat}(h1:a=b)(h2:c<b):c<a:=Mz h2 (id (Eq.symm h1))
theorem JZ{a b:Nat}(h1:a+1=b):b-1=a:=Eq.symm (Nat.eq_sub_of_add_eq h1)
theorem HO{a:Nat}(h1:0<a):a-1<a:=Nat.sub_one_lt_of_lt h1
theorem J9{a b c:Nat}(h1:a+1<b-c):b-1-(a+1)+1=b-1-a:=(congrArg (·+1) (Nat.sub_sub (b-1) a 1).symm).trans (Ln (M8 (Nat.lt_sub_of_add_lt (Ks h1 (M9 b c)))))
theorem Hm{a b:Nat}(h1:a=b)(h2:b<=8):a<1000:=Kj (Ky h1) (Kj h2 (by decide))
theorem zf{a b:Nat}(h1:a<=8)(h2:b<=a):b<1000:=Kj h2 (Kj h1 (by decide))
theorem Iv{a b c:Nat}(h1:a<b-c):b-1-(b-c-1)=c:=(congrArg (b-1-·) (Nat.sub_right_comm b c 1)).trans (Nat.sub_sub_self (Nat.le_sub_one_of_lt (NA.mp (Lr h1))))
theorem D4{a:Int}(h1:(0:Int)<=a/\a<(4:Int)):a.toNat<(4:Nat):=(Mm h1.1).mpr h1.2
theorem D3{a:Int}{b:Nat}(h1:(0:Int)<=a/\a<(↑b:Int)):a.toNat<b:=(Mm h1.1).mpr h1.2
theorem Hx{a b:Nat}(h1:a<=40)(h2:(a=0->b=2))(h3:(a≠0->b=0)):a-1+b<1000:=Kj (LA (Kl (M9 a 1) h1) (q2 h2 h3)) (by decide)
theorem HT{a b c:Nat}(h1:a≠b-1)(h2:c<b-a):1<b-a:=MU (Lr h2) fun e=>h1 ((congrArg (b-·) e).trans (Nat.sub_sub_self (KN (NA.mp (Lr h2))))).symm
theorem Jt{a:Int}{b c d:Nat}(h1:a≠(0:Int)/\(0:Int)<a/\a<=(40:Int)/\((0:Nat)<b->a=(↑b:Int)))(h2:c=b)(h3:d<c):d+(1:Nat)+(c-(d+(1:Nat)))<(1000:Nat):=Kj (Kl (Ky (L0 h3)) (Kl (Ky h2) (m0 h1))) (by decide)
theorem Jb{a b:Nat}(h1:a<1000):Min.min b a+(a-(b+1))<1000:=Kj (Kl (Lx (Nat.sub_le_sub_left (Kl (LP b a) (LJ b)) a) _) (Ky (L0 (Mh b a)))) h1
theorem HW{a:Int}{b c d:Nat}(h1:a≠(0:Int)/\(0:Int)<a/\a<=(40:Int)/\((0:Nat)<b->a=(↑b:Int)))(h2:c=b):c-(d+(1:Nat))<(1000:Nat):=Kj (Kl (M9 c (d+1)) (Kl (Ky h2) (m0 h1))) (by decide)
theorem AP{a b:Nat}(h1:¬a<b):b<=a:=Lg h1
theorem IR{a b c:Nat}(h1:a<b-c)(h2:¬a+1<b-c):a=b-c-1:=(Nat.sub_eq_of_eq_add (LR (Lg h2) h1)).symm
theorem Ct{a b c:Nat}(h1:a<b)(h2:c=b):a<c:=Mz h1 (id (Eq.symm h2))
theorem Iq{a b c:Nat}(h1:a<=8)(h2:b=9-c)(h3:c+1<=a):b=9-(c+1)+1:=h2.trans (Ln (M8 (Ks h3 (Kl h1 (by decide:8<=9))))).symm
theorem JI{a:Int}{b c d:Nat}(h1:a≠(0:Int)/\(0:Int)<a/\a<=(40:Int)/\((0:Nat)<b->a=(↑b:Int)))(h2:(0:Int)<=(↑c:Int)/\(↑c:Int)<a):Min.min c d<(1000:Nat):=Kj (LP c d) (Ks (m1 h1 h2) (by decide))
theorem IX{a b c:Nat}(h1:a<b)(h2:¬a<b-c):a-(b-c)<c:=Nat.sub_lt_left_of_lt_add (Lg h2) (Ks h1 (Nl (Lk (b-c))|>fun h=>h))
theorem Ip{a b c d e:Nat}(h1:a<b)(h2:b*c+a=d):d+(e+(b-a))=e+(b*c+b):=by subst h2;rw[NH,Np (b*c),L0 (KN h1)]
theorem I0{a b:Nat}(h1:a<b)(h2:a≠b-1):2<=b-a:=MU (M8 h1) fun e=>h2 ((congrArg (b-·) e).trans (Nat.sub_sub_self (KN h1))).symm
theorem Ih{a b:Nat}(h1:a<b):Min.min a b+(b-(a+1))+1=b:=by rw[LQ (KN h1),Lz];exact L0 h1
theorem Hr{a b c:Nat}(h1:a<b)(h2:¬c<b-a):a+c=c-(b-a)+b:=(Nd a c).trans ((congrArg (·+a) (Ln (Lg h2)).symm).trans ((Np _ _ _).trans (congrArg (c-(b-a)+·) (Ln (KN h1)))))
theorem Jx{a b c:Nat}(h1:a+b=20)(h2:a<c)(h3:¬c>12):b=b-1+1:=(Ln (Nat.pos_of_ne_zero fun e=>h3 (Kj (Kl (by decide:12<=20) (Ky (h1.symm.trans (congrArg (a+·) e)))) h2))).symm
theorem DV{a b c:Nat}(h1:a+1=b)(h2:c<a):c+1<b:=Ks (Nat.succ_lt_succ h2) (Ky h1)
theorem Im{a b c:Nat}(h1:a<b):a-(b-c)<b:=Nat.sub_lt_of_lt h1
theorem I1{a b:Nat}(h1:a<b)(h2:¬a+1<b):a=b-1:=(Nat.sub_eq_of_eq_add (LR (Lg h2) h1)).symm
theorem II{a b c:Nat}(h1:a<=8)(h2:b<=a):b-c<1000:=Kj (Kl (M9 b c) (Kl h2 h1)) (by decide)
theorem EB{a b c:Nat}(h1:a<b+1)(h2:c<a):c<b:=Ks h2 (K6 h1)
theorem IQ{a:Int}{b:Nat}(h1:(0:Int)<=a/\a<=(↑b:Int)-(1:Int)):(0:Int)<=a/\a.toNat<b:=⟨h1.1,(Mm h1.1).mpr (Int.lt_of_le_sub_one h1.2)⟩
theorem FW{a b:Nat}(h1:a<=b)(h2:b<=40):a<1000:=Kj (Kl h1 h2) (by decide)
theorem IK{a b:Nat}:a-b+Min.min b a=a:=(congrArg (a-b+·) (Nat.min_comm b a)).trans (Nat.sub_add_min_cancel a b)
theorem EX{a b:Nat}(h1:a+1<b+1)(h2:¬a+1<b):a+1=b:=Nat.eq_of_lt_succ_of_not_lt h1 h2
theorem Ht{a b:Nat}(h1:a<b):Min.min a b+1=a+1:=congrArg (·+1) (LQ (KN h1))
theorem JL{a b:Nat}(h1:a<b):a<=b-1:=Nat.le_sub_one_of_lt h1
theorem Je{a b:Nat}(h1:a<1000):a-b<1000:=Nat.sub_lt_of_lt h1
theorem Ey{a b:Nat}(h1:a<1000)(h2:b=a):b<1000:=lt_of_eq_of_lt h2 h1
theorem H0{a b:Nat}(h1:a<1000):a-(b+1)<1000:=Nat.sub_lt_of_lt h1
theorem Ju{a:Int}(h1:a<(8:Int)):a.toNat<(8:Nat):=(Int.toNat_lt' (by decide)).mpr h1
theorem IH{a:Int}{b c:Nat}(h1:a≠(0:Int)/\(0:Int)<a/\a<=(40:Int)/\((0:Nat)<b->a=(↑b:Int)))(h2:(0:Int)<=(↑c:Int)/\(↑c:Int)<a):c+(1:Nat)<(1000:Nat):=Ks (Nat.succ_lt_succ (m1 h1 h2)) (by decide)
theorem IS{a b:Nat}(h1:a<b)(h2:¬a+1<b):a+1=b:=LR h1 (Lg h2)
theorem JJ{a:Int}{b:Nat}(h1:(0:Int)<=a/\a.toNat<b):(0:Int)<=a/\a<=(↑b:Int)-(1:Int):=⟨h1.1,Int.le_sub_one_of_lt ((Mm h1.1).mp h1.2)⟩
theorem Jp{a b c:Nat}(h1:a<=8)(h2:b<=a-c):b<=8:=Kl h2 (Kl (M9 a c) h1)
theorem A5{a b c:Nat}(h1:a=b)(h2:c<a):c<b:=Mz h2 h1
theorem DG{a b:Nat}(h1:a<=40)(h2:b=a):b<1000:=Kj (Kl (Ky h2) h1) (by decide)
theorem DM{a b:Nat}(h1:a<=b)(h2:b<=8):a<1000:=zf h2 h1
theorem Iu{a b c:Nat}(h1:a<=b)(h2:c<a):b=b-1+1:=(Ln (Ks (Lr h2) h1)).symm
theorem Hu{a:Int}(h1:(0:Int)<=a/\a<(9:Int)):a.toNat<(9:Nat):=(Mm h1.1).mpr h1.2
theorem Jv{a:Int}{b:Nat}(h1:(0:Int)<=a/\a<(↑b:Int)):a=(↑a.toNat:Int):=(Mu h1.1).symm
theorem Ii{a b:Nat}(h1:a<b):b-1+a+1=a+b:=by rw[Lz,Ln (Lr h1),Nd]
theorem Jl{a:Int}(h1:(0:Int)<=a/\a<(8:Int)):a.toNat<(8:Nat):=(Mm h1.1).mpr h1.2
theorem Jm{a b:Nat}(h1:a+1<b):a+1+(b-1)=a+b:=(Lz a 1 (b-1)).trans ((Np a (b-1) 1).trans (congrArg (a+·) (Ln (Lr h1))))
theorem Ir{a b c:Nat}(h1:a<b-c):c+a<b:=Nat.add_lt_of_lt_sub' h1
theorem Dz{a b:Nat}(h1:a<b):(↑a:Int)<(↑b:Int):=Lc.mpr h1
theorem I3{a b c:Nat}(h1:a<b):a+(c+(b-a)+1)=c+1+b:=by rw[Lz c,NH,L0 (KN h1)]
theorem IF{a b c d:Nat}(h1:a<=4*b)(h2:b<4)(h3:c<=4)(h4:d<=c):a+d<1000:=Kj (LA (Kl h1 (LF 4 (KN h2))) (Kl h4 h3)) (by decide)
theorem HL{a:Nat}(h1:¬a=0):a-1+0≠a:=MA (Nat.sub_lt (Nat.pos_of_ne_zero h1) Nu)
theorem Hy{a b c:Nat}(h1:a<60)(h2:b+1<=8+100*a)(h3:c<=100):b+c<100000:=Kj (LA (Kl (LJ b) (Kl h2 (Lx (LF 100 (KN h1)) 8))) h3) (by decide)
theorem JH{a b c d:Nat}(h1:a<4)(h2:b<1000)(h3:c<=1000*a+d)(h4:d<b):c<1000000:=Kj (Kl h3 (LA (LF 1000 (KN h1)) (KN (LD h4 h2)))) (by decide)
theorem JF{a b c:Nat}(h1:a<b):a+(c+(b-a))=c+b:=(NH a c (b-a)).trans (congrArg (c+·) (L0 (KN h1)))
theorem Ia{a b c d e:Nat}(h1:a<=b)(h2:c<=d*b)(h3:e<=a)(h4:b<=8)(h5:d*b<=8*8):c+e<1000:=Kj (LA (Kl h2 h5) (Kl h3 (Kl h1 h4))) (by decide)
theorem HA{a b:Nat}(h1:a<1000):Min.min b a<1000:=Kj (Mh b a) h1
theorem HQ{a b:Nat}(h1:a<=b)(h2:2<=b):a-1<b:=Kj (Nat.sub_le_sub_right h1 1) (Nat.sub_lt (Ks (by decide) h2) Nu)
theorem Jg{a b:Nat}(h1:¬a<b):b+1+(a-b)=a+1:=(Lz b 1 (a-b)).trans (congrArg (·+1) (L0 (Lg h1)))
theorem IZ{a b:Nat}(h1:¬a<b)(h2:a-b=0):a=b:=LR (Nat.le_of_sub_eq_zero h2) (Lg h1)
theorem IV{a b:Nat}(h1:a<b):0<b-a:=Nat.zero_lt_sub_of_lt h1
theorem Jj{a:Int}{b:Nat}(h1:(0:Int)<=a)(h2:a<(↑b:Int)):a.toNat<b:=(Mm h1).mpr h2
theorem IE{a b:Nat}(h1:a<100):Min.min b a<=100:=Kl (Mh b a) (KN h1)
theorem IG{a b:Nat}{c:Int}{d:Nat}(h1:a=b)(h2:c=(↑b:Int))(h3:(0:Int)<=(↑d:Int)/\(↑d:Int)<c):d<a:=Ks (Lc.mp (LB h3.2 (LZ h2))) (Ky h1.symm)
theorem Gi{a:Nat}(h1:¬(↑a:Int)>(4:Int)):a<=(4:Nat):=LY.mp (Int.not_lt.mp h1)
theorem Hw{a:Int}(h1:(0:Int)<=a/\a<(3:Int)):a<=(1000000:Int)/\(1000000:Int)-a<=(1000000:Int):=⟨Lm (NF h1.2) (by decide),Int.sub_le_self 1000000 h1.1⟩
theorem I4{a b:Nat}(h1:a<(1000:Nat))(h2:b<=a):(-1000000000000:Int)<(↑b:Int)/\(↑b:Int)<(1000000000000:Int):=tn (Kj h2 h1)
theorem Jr{a b c d:Nat}(h1:a<=12)(h2:b<100000)(h3:c<=d)(h4:d<b):a+c<1000000:=Kj (LA h1 (Kl h3 (KN (LD h4 h2)))) (by decide)
theorem Jy{a:Nat}(h1:0<a):a-1+1=a:=Ln h1
theorem I9{a b c d:Nat}(h1:a<=8)(h2:b+c=a)(h3:d+1=c):d<=8:=Kl (Kl (LJ d) (Ky h3)) (Kl (Md c b) (Kl (Ky h2) h1))
theorem Jf{a:Int}(h1:(0:Int)<=a/\a<(100:Int)):a.toNat<(1000:Nat):=(Mm h1.1).mpr (LO h1.2 (by decide))
theorem JD{a b c:Nat}(h1:a<=100*b)(h2:b<60)(h3:c<=100):a+c<100000:=Kj (LA (Kl h1 (LF 100 (KN h2))) h3) (by decide)
theorem HN{a:Int}(h1:(0:Int)<=a/\a<(40:Int)):(0:Int)<=a/\a<=(1000000:Int):=⟨h1.1,Lm (NF h1.2) (by decide)⟩
theorem JK{a:Int}(h1:(0:Int)<=a/\a<(7:Int)):(0:Int)<=a/\a<=(1000000:Int):=⟨h1.1,Lm (NF h1.2) (by decide)⟩
theorem Ic{a b c:Nat}(h1:a<b-c):b-c-1+1=b-c:=Ln (Lr h1)
theorem HE{a b c:Nat}(h1:a<100000)(h2:¬b>12)(h3:c<=a):b+c<200000:=Kj (LA (Lg h2) (Kl h3 (KN h1))) (by decide)
theorem AF{a b:Nat}(h1:¬a=b):¬(↑a:Int)=(↑b:Int):=Nat.ToInt.of_diseq rfl rfl h1
theorem HI{a b:Nat}(h1:a<=(40:Nat))(h2:b<a): -(2:Int)^(62:Nat)<(↑b:Int)/\(↑b:Int)<(2:Int)^(62:Nat):=⟨LB (by decide) (Lv b),LO (Lc.mpr (Ks h2 h1)) (by decide)⟩
theorem HK{a:Int}(h1:(0:Int)<=a/\a<(1000001:Int)):(0:Int)<=a/\a<=(1000000:Int):=⟨h1.1,@Int.le_of_lt_add_one a 1000000 h1.2⟩
theorem I6{a b:Nat}(h1:a<b):b-1<b:=Nat.sub_one_lt_of_lt h1
theorem Ij{a b c d:Int}(h1:a-b=c)(h2:¬c>d):a-b<=d:=Lm (LZ h1) (Int.not_lt.mp h2)
theorem HB{a b c:Nat}(h1:a=b)(h2:c<a):c<(↑b:Int).toNat:=Mz h2 h1
theorem IU{a b:Nat}(h1:a<=40)(h2:b<=a):b<1000:=Kj (Kl h2 h1) (by decide)
theorem GO{a b c d:Nat}(h1:a<=4*b)(h2:c<=4)(h3:d<=c):a+d<=4*(b+1):=LA h1 (Kl h3 h2)
theorem Do{a:Nat}(h1:a+(1:Nat)<=(8:Nat)):(0:Int)<=(↑(a+(1:Nat)):Int)/\(↑(a+(1:Nat)):Int)<(100:Int):=⟨Lv _,LC (LY.mpr h1) (by decide)⟩
theorem DX{a b c:Nat}(h1:a<b)(h2:c<b)(h3:¬a+1<b)(h4:¬c+1<b):a=c:=Nat.succ.inj ((LR h1 (Lg h3)).trans (LR h2 (Lg h4)).symm)
theorem EI{a b:Nat}(h1:a<60)(h2:b+1<=8+100*a):b<100000:=Ks h2 (Kl (Lx (LF 100 (KN h1)) 8) (by decide))
theorem EA{a:Nat}{b:Int}(h1:(↑a:Int)<=b):a<=b.toNat:=(Int.le_toNat (Lm (Lv a) h1)).mpr h1
theorem G4{a b c:Nat}(h1:a+1<=8+100*b)(h2:c<=99):a+c<=8+100*(b+1):=Kl (LA (Kl (LJ a) h1) (Kl h2 (by decide:99<=100))) (Ky (Np 8 (100*b) 100))
theorem FN{a b c:Nat}(h1:a+b<200)(h2:c<b):a+1+c<200:=Kj (Kl (Ky (Lz a 1 c)) (Nat.add_lt_add_left h2 a)) h1
theorem EV{a:Int}{b:Nat}(h1:a=(↑b:Int))(h2:a<(4:Int)):b<(4:Nat):=Lc.mp (LC (LZ h1.symm) h2)
theorem Fz{a b c:Nat}(h1:a<b)(h2:c<a):c<Min.min a b:=Nat.lt_min.mpr ⟨h2,LD h2 h1⟩
theorem DS{a b:Nat}(h1:a<=b*b)(h2:b*b<=8*8):a<1000:=Kj (Kl h1 h2) (by decide)
theorem FV{a b:Nat}(h1:a<=b*b)(h2:b*b<=8*8):a<100:=Kj (Kl h1 h2) (by decide)
theorem Ga{a b c:Nat}(h1:a<b-c):0<b-c:=Lr h1
theorem ED{a b c d:Nat}(h1:a<=8)(h2:b=a)(h3:c+1=d)(h4:d=b):c<1000:=Kj (Kl (LJ c) (Kl (Ky h3) (Kl (Ky h4) (Kl (Ky h2) h1)))) (by decide)
theorem G7{a b c:Nat}(h1:a<b):a+0<b+c:=Nat.lt_add_right c h1
theorem DP{a:Int}{b:Nat}(h1:(0:Int)<=a/\a<=(↑b:Int)-(1:Int)):(0:Int)<=a/\a<=(↑(b+(1:Nat)):Int)-(1:Int):=⟨h1.1,Lm h1.2 (Int.sub_le_sub_right (LY.mpr (LJ b)) 1)⟩
theorem GD{a b c:Nat}(h1:a=b)(h2:c<=8)(h3:c=b+1):a<1000:=Kj (Kl (Ky h1) (Kl (LJ b) (Kl (Ky h3.symm) h2))) (by decide)
theorem Dq{a:Nat}(h1:a<=(8:Nat)):(-1000000000000:Int)<(↑a:Int)/\(↑a:Int)<(1000000000000:Int):=tn (Kj h1 (by decide))
theorem FD{a b:Nat}(h1:a<b):b-1+1=b:=Ln (Lr h1)
theorem DR{a b c d:Nat}(h1:a+1=b)(h2:c<d)(h3:d+1=b):c<a:=Ks h2 (Ky (Nat.succ.inj (h3.trans h1.symm)))
theorem DD{a b c d:Int}(h1:a<=b)(h2:¬c>a):c+d-d<=b:=Lm (LZ (Int.add_sub_cancel c d)) (Lm (Int.not_lt.mp h2) h1)
theorem Dd{a b c:Nat}(h1:a<=b)(h2:b+(c+1)=20):a<1000000:=Kj (Kl h1 (Kl (Lo b (c+1)) (Ky h2))) (by decide)
theorem Fg{a b c d:Nat}(h1:a=b)(h2:c<a)(h3:b<d):c<d:=LD h2 (Kj (Ky h1) h3)
theorem FC{a b c:Nat}(h1:a<1000)(h2:b<=1000*c+a):b<=1000*(c+1):=Kl h2 (Lx (KN h1) (1000*c))
theorem EJ{a b:Nat}(h1:a<=b)(h2:b<=40):a+1<64:=Kj (LV (Kl h1 h2)) (by decide)
theorem GF{a b c:Nat}(h1:a<=b)(h2:b+c=20):a<1000:=Kj (Kl h1 (Kl (Lo b c) (Ky h2))) (by decide)
theorem Eg{a b:Int}(h1:(0:Int)<=a/\a<b):a=(↑a.toNat:Int):=(Mu h1.1).symm
theorem Dv{a b c:Nat}(h1:a<=100*b)(h2:c<=99):a+c<=100*(b+1):=LA h1 (Kl h2 (by decide:99<=100))
theorem Es{a b:Nat}(h1:a=(8:Nat))(h2:(0:Int)<=(↑b:Int)/\(↑b:Int)<(8:Int)):b<a:=Ks (Lc.mp h2.2) (Ky h1.symm)
theorem Eu{a b:Nat}(h1:a<=100*b)(h2:b<60):a<100000:=Kj (Kl h1 (LF 100 (KN h2))) (by decide)
theorem Bp{a:Nat}(h1:a<=(40:Nat)):(↑a:Int)<=(100:Int):=Lm (LY.mpr h1) (by decide)
theorem FX{a b c:Nat}(h1:a<=40)(h2:b<=c)(h3:c<=a):b<1000:=Kj (Kl h2 (Kl h3 h1)) (by decide)
theorem He{a:Nat}(h1:(↑a:Int)<(8:Int)):a<(8:Nat):=Lc.mp h1
theorem DN{a b c:Nat}(h1:a=b)(h2:b<=8)(h3:c+1=a):c<1000:=Kj (Kl (LJ c) (Kl (Ky h3) (Kl (Ky h1) h2))) (by decide)
theorem By{a b:Nat}(h1:a<b):(↑b:Int)≠(0:Int):=Int.ne_of_gt (Lc.mpr (Lr h1))
theorem Dr{a b c:Nat}(h1:a<=b)(h2:c<=1):a+c<=b+1:=LA h1 h2
theorem GP{a b:Nat}(h1:a<=4)(h2:b<=a):b<1000:=Kj (Kl h2 h1) (by decide)
theorem FE{a b:Nat}(h1:a<=8)(h2:a=b+1):b<1000:=Kj (Kl (LJ b) (Kl (Ky h2.symm) h1)) (by decide)
theorem Ha{a b c:Nat}(h1:a<=8)(h2:b+c=a):b<1000:=Kj (Kl (Lo b c) (Kl (Ky h2) h1)) (by decide)
theorem Ei{a b c:Nat}(h1:a<=8)(h2:b+c=a):c<1000:=Kj (Kl (Md c b) (Kl (Ky h2) h1)) (by decide)
theorem Gb{a b c:Nat}(h1:a<b)(h2:b+1=c):a+1<c:=Ks (Nat.succ_lt_succ h1) (Ky h2)
theorem Dl{a:Int}(h1:(0:Int)<=a):a=(↑a.toNat:Int):=Int.eq_natCast_toNat.mpr h1
theorem DT{a b c:Nat}(h1:a<Min.min b c):a<b:=Ks h1 (LP b c)
theorem Gy{a b:Nat}(h1:a+b<200):a<1000:=Kj (Lo a b) (LD h1 (by decide))
theorem DL{a b:Nat}(h1:a<40)(h2:b=a):b<1000:=Kj (Ky h2) (LD h1 (by decide))
theorem Bs{a:Nat}:(↑(a+(1:Nat)):Int)-(1:Int)=(↑a:Int):=Int.sub_eq_iff_eq_add.mpr rfl
theorem GW{a b c:Nat}(h1:a<=b)(h2:c<=1):c+a<=b+1:=Kl (LA h2 h1) (Ky (Nd 1 b))
theorem Bn{a b:Nat}(h1:a-b<1):a-b=0:=Nat.lt_one_iff.mp h1
theorem D0{a b:Nat}(h1:a<=4)(h2:b<=1000*a):b<1000000:=Kj (Kl h2 (LF 1000 h1)) (by decide)
theorem GZ{a b c:Nat}(h1:a+1<b-c):1<b-c:=Nat.lt_of_add_left_lt h1
theorem Hg{a:Int}{b:Nat}(h1:(0:Int)<=a/\a<(↑b:Int)):(0:Int)<=a/\a<=(↑b:Int)-(1:Int):=⟨h1.1,Int.le_sub_one_of_lt h1.2⟩
theorem GL{a b:Nat}(h1:a<=4)(h2:b<=4*a):b<1000:=Kj (Kl h2 (LF 4 h1)) (by decide)
theorem GC{a:Nat}(h1:(↑a:Int)<(12:Int)):a<(12:Nat):=Lc.mp h1
theorem FP{a b c:Nat}(h1:a+1<=b+1+c):a+1<=b+(c+1):=Kl h1 (Ky (Lz b 1 c))
theorem Fx{a b:Nat}(h1:a<=40)(h2:b<=a):b+1<64:=Kj (LV (Kl h2 h1)) (by decide)
theorem G5{a b:Nat}(h1:(↑a:Int)>(↑b:Int)):b<a:=Lc.mp h1
theorem GH{a b:Nat}(h1:a<=b)(h2:b<10):a<999:=Kj h1 (LD h2 (by decide))
theorem DY{a:Int}(h1:(0:Int)<=a): -(2:Int)^(62:Nat)<a:=LB (by decide) h1
theorem Dm{a:Nat}(h1:a<(40:Nat)):(0:Int)<=(↑a:Int)/\(↑a:Int)<=(1000000:Int):=⟨Lv a,Lm (LY.mpr (KN h1)) (by decide)⟩
theorem Fp{a b:Nat}(h1:a=b+(1:Nat)):(↑a:Int)-(1:Int)=(↑b:Int):=Int.sub_eq_iff_eq_add.mpr (congrArg Nat.cast h1)
theorem Et{a b:Nat}(h1:a<8)(h2:b=a+1):b<=8:=le_of_eq_of_le h2 h1
theorem BF{a:Nat}(h1:(↑a:Int)=(1:Int)):a=(1:Nat):=Eq.symm ((fun{m n}=>Mv.mp) (id (Eq.symm h1)))
theorem Du{a:Nat}(h1:a<100):0+a<200:=Kj (Ky (MS a)) (LD h1 (by decide))
theorem Dg{a b c:Nat}(h1:a<b)(h2:c<a):c<b:=LD h2 h1
theorem Fa{a b:Nat}(h1:a=b)(h2:b<=40):a+1<1000:=Kj (LV (Kl (Ky h1) h2)) (by decide)
theorem Dk{a b:Nat}(h1:¬a<b):¬(↑a:Int)<(↑b:Int):=fun q=>h1 (Lc.mp q)
theorem De{a b c:Int}(h1:a=b)(h2:a<=c):¬c<b:=fun q=>MH c (LB q (Lm (LZ h1.symm) h2))
theorem Gs{a:Int}(h1:a<=(1000000:Int)):a<(2:Int)^(62:Nat):=LC h1 (by decide)
theorem Go{a b:Nat}(h1:¬(↑a:Int)>(↑b:Int)):¬b<a:=fun q=>h1 (Lc.mpr q)
theorem DI{a b c:Nat}(h1:a<=1000*b+c):a<=1000*b+(c+1):=NG h1
theorem Dw{a b:Nat}(h1:1<a)(h2:b+1=a):0<b:=Mf (Ks h1 (Ky h2.symm))
theorem Gd{a b:Nat}(h1:a<=8)(h2:b<=a):b+1<1000:=Kj (LV (Kl h2 h1)) (by decide)
theorem FF{a b:Nat}(h1:a<=40)(h2:b<=a):b<64:=Kj (Kl h2 h1) (by decide)
theorem F3{a b:Nat}(h1:a<=8)(h2:b=a):b<1000:=Kj (Kl (Ky h2) h1) (by decide)
theorem EM{a b c:Nat}(h1:a<b):a+1<=b+c:=Nat.le_add_right_of_le h1
theorem ER{a b:Nat}(h1:a=b)(h2:b<=40):a<1000:=Kj (Kl (Ky h1) h2) (by decide)
theorem Fi{a b c:Nat}(h1:a<Min.min b c)(h2:b=a):False:=Lj a (Ks h1 (Kl (LP b c) (Ky h2)))
theorem Dx{a:Nat}(h1:(1:Nat)<=a)(h2:a<=(8:Nat)):(1:Int)<=(↑a:Int)/\(↑a:Int)<=(8:Int):=⟨LY.mpr h1,LY.mpr h2⟩
theorem GN{a:Nat}(h1:(↑a:Int)>(1:Int)):(1:Nat)<a:=Lc.mp h1
theorem GJ{a:Nat}(h1:a<4):a+4+1<=8:=Nm (K6 h1) 5
theorem FO{a b c:Nat}(h1:a<=b)(h2:c<=a+1):c<=b+1:=Kl h2 (LV h1)
theorem Gn{a b:Nat}(h1:a=8)(h2:b+1=a):b<8:=Ks (LW b) (Ky (h2.trans h1))
theorem Dt{a b:Nat}(h1:¬a=b)(h2:¬a<b):¬a<b+1:=fun q=>(NC (K6 q)).elim h2 h1
theorem Fm{a:Nat}(h1:(↑a:Int)>(0:Int)):(0:Nat)<a:=Int.natCast_pos.mp h1
theorem G9{a:Nat}(h1:a+1<=8):1+a<1000:=Kj (Kl (Ky (Nd 1 a)) h1) (by decide)
theorem BO{a b c:Nat}(h1:a=b)(h2:c+1=a):b=c+1:=h1.symm.trans h2.symm
theorem F8{a b c d:Nat}(h1:a=b)(h2:c+1=a)(h3:d+1=b):c=d:=Nat.succ.inj (h2.trans (h1.trans h3.symm))
theorem Da{a b:Nat}(h1:a<b+1)(h2:¬a=b):a<b:=MU (K6 h1) h2
theorem F6{a b c:Nat}(h1:a<b)(h2:b<=c+1):a<=c:=K6 (Ks h1 h2)
theorem BM{a b:Nat}(h1:(↑a:Int)=(↑b:Int)):a=b:=Mv.mp h1
theorem GT{a b:Nat}(h1:¬a>b):¬(↑a:Int)>(↑b:Int):=fun q=>h1 (Lc.mp q)
theorem Ez{a b c:Nat}(h1:a=b)(h2:c<b):c<=a:=Kl (KN h2) (Ky h1.symm)
theorem DQ{a:Int}(h1:(0:Int)<=a/\a<=(100:Int)):a<(↑(1000000:Nat):Int):=LC h1.2 (by decide)
theorem GU{a b:Nat}(h1:a>b):(↑a:Int)>(↑b:Int):=Lc.mpr h1
theorem EU{a b c:Nat}(h1:¬a<b-c):b-c<=a:=Lg h1
theorem BE{a b c d:Nat}(h1:a=b)(h2:c+1=b)(h3:d+1=a):d=c:=Nat.succ.inj (h3.trans (h1.trans h2.symm))
theorem FG{a b:Nat}(h1:a<b):0<b:=Lr h1
theorem Fu{a:Nat}(h1:¬a>(12:Nat)):¬(↑a:Int)>(12:Int):=fun q=>h1 (Lc.mp q)
theorem BN{a:Nat}(h1:a=(1:Nat)):(↑a:Int)=(1:Int):=Int.neg_inj.mp (congrArg Neg.neg (congrArg Nat.cast h1))
theorem EY{a b:Nat}(h1:a<=(8:Nat))(h2:a=b+(1:Nat)):¬(↑b:Int)=(8:Int):=fun q=>Lj 8 (Kl (Ky ((congrArg (·+1) (Mv.mp q)).symm.trans h2.symm)) h1)
theorem GM{a b:Nat}(h1:a+1=b)(h2:b<=8):a<=8:=Kl (LJ a) (Kl (Ky h1) h2)
theorem EP{a b:Nat}(h1:a=b+1):0<a:=Nat.lt_of_sub_eq_succ h1
theorem En{a:Nat}(h1:a>(12:Nat)):(↑a:Int)>(12:Int):=Int.lt_of_toNat_lt h1
theorem Gp{a b:Nat}(h1:a<b)(h2:b<=8):a<=8:=KN (Ks h1 h2)
theorem G8{a b:Nat}(h1:a=b+1):b<a:=Ky h1.symm
theorem Ek{a b:Nat}(h1:a<b):a<b+1:=Nat.lt_add_right 1 h1
theorem Ft{a b:Nat}(h1:(a=(0:Nat)->b=(2:Nat)))(h2:(a≠(0:Nat)->b=(0:Nat))):(↑b:Int)<=(2:Int):=LY.mpr (q2 h1 h2)
theorem FJ{a b c d:Nat}(h1:a=b)(h2:c=b+1)(h3:d=a+1):d=c:=h3.trans ((congrArg (·+1) h1).trans h2.symm)
theorem DK{a b c:Int}(h1:a<b):¬(b<=a/\a<=c):=fun q=>MH a (LB h1 q.1)
theorem yR{a b:Nat}(h1:a<=b)(h2:¬a<b):a=b:=LR h1 (Lg h2)
theorem FA{a:Nat}(h1:a=1):a<8:=Kj (Ky h1) (by decide)
theorem FL{a b:Nat}(h1:a=b+1):a<=b+1:=Ky h1
theorem Gr{a:Nat}(h1:a=2):1<a:=Ks (by decide) (Ky h1.symm)
theorem BR{a b:Nat}(h1:0<a)(h2:b=a):0<b:=Mz h1 (id (Eq.symm h2))
theorem Fd{a:Nat}(h1:(1:Nat)<a):(0:Int)<(↑a:Int):=Lc.mpr (Lr h1)
theorem Fj{a b:Int}(h1:a>b)(h2:a=(0:Int))(h3:(0:Int)<=b):False:=MH 0 (LC h3 (LB h1 (LZ h2)))
theorem D9{a b:Nat}(h1:a<=b):a<=b+1:=Nat.le_add_right_of_le h1
theorem Ge{a b:Nat}(h1:a=2)(h2:b+1=a):b=1:=BE h1 rfl h2
theorem Fo{a b:Nat}(h1:1<=a)(h2:b=a):0<b:=BR h1 h2
theorem DW{a b:Nat}(h1:a+1=b):¬b<a:=fun q=>Lj b (LD q (Ky h1))
theorem ET{a b:Nat}(h1:a<b):(↑a:Int)<=(↑b:Int):=LY.mpr (KN h1)
theorem Gw{a:Nat}(h1:¬a>12):a<=12:=Lg h1
theorem D8{a:Nat}(h1:a=8):1<a:=Ks (by decide) (Ky h1.symm)
theorem DO{a b:Int}(h1:(0:Int)<=a):b<=b+(a+(0:Int)):=Int.le_add_of_nonneg_right (Lm h1 (LZ (Int.add_zero a).symm))
theorem Hd{a:Nat}(h1:a=2):0<a:=Nat.lt_of_sub_eq_succ h1
theorem GI{a b:Int}(h1:(0:Int)<=a):b<=b+a:=Int.le_add_of_nonneg_right h1
theorem Fw{a b:Nat}(h1:a=b):¬a<b:=fun q=>Lj b (Kj (Ky h1.symm) q)
theorem EN{a:Nat}(h1:a=(1:Nat)):(0:Int)<(↑a:Int):=Lc.mpr (Ks Nu (Ky h1.symm))
theorem Gk{a b:Nat}(h1:a<=8)(h2:b=a):b<=8:=le_of_eq_of_le h2 h1
theorem Dy{a b:Nat}(h1:¬a<=b):b<=a:=Nat.le_of_not_ge h1
theorem FY{a:Nat}(h1:a<(40:Nat)):¬(↑a:Int)=(40:Int):=fun q=>MA h1 (Mv.mp q)
theorem G3{a b:Nat}(h1:a=(8:Nat))(h2:b+(1:Nat)=a):(↑b:Int)=(7:Int):=congrArg Int.ofNat (Nat.succ.inj (h2.trans h1):b=7)
theorem Ep{a:Nat}:(1:Int)+(↑a:Int)+(4:Int)=(↑(a+(4:Nat)+(1:Nat)):Int):=(congrArg (·+4) (Int.add_comm 1 (a:Int))).trans (Int.add_right_comm (a:Int) 1 4)
theorem Fl{a b c:Nat}(h1:a=(8:Nat))(h2:b+(1:Nat)=a)(h3:c=b+(1:Nat)):(↑c:Int)=(8:Int):=Nat.ToInt.of_eq (congrArg NatCast.natCast (id (Eq.symm h3))) (congrArg NatCast.natCast h1) h2
theorem Dj{a b:Nat}(h1:a+(b+1)=20):a+1+b=20:=(Lz a 1 b).trans h1
theorem BG{a b:Nat}(h1:(↑a:Int)=(↑b:Int))(h2:a<b):False:=MA h2 (Mv.mp h1)
theorem F4{a:Nat}(h1:a<=(8:Nat)):(↑a:Int)<=(100:Int):=Lm (LY.mpr h1) (by decide)
theorem Gu{a b:Nat}(h1:a=b):a+1≠b:=fun q=>Lj a (Kl (Ky q) (Ky h1.symm))
theorem Fq{a b:Int}(h1:a<=b)(h2:b<=a):a=b:=Int.le_antisymm h1 h2
theorem D6{a:Nat}:a-1+2≠a:=MB (Ls (Nl (Lk (a-1))))
theorem Gm{a b:Nat}(h1:a+1<=b)(h2:b=a):False:=Lj a (Kl h1 (Ky h2))
theorem DE{a:Nat}(h1:0<a)(h2:a<=1):a=1:=Eq.symm (LR h1 h2)
theorem GB{a:Nat}(h1:(1:Nat)<a):¬(↑a:Int)=(1:Int):=fun q=>MB h1 (Mv.mp q)
theorem D7{a:Nat}{b:Int}(h1:a+(4:Nat)<(4:Nat)):(0:Int)<=b/\b<=(1000000:Int):=absurd h1 (Nr.mpr (Md 4 a))
theorem GE{a b:Nat}(h1:a=b):¬(↑a:Int)≠(↑b:Int):=not_not_intro (congrArg Nat.cast h1)
theorem Bt{a:Nat}:1<=a+1:=Md 1 a
theorem FM{a b:Nat}(h1:¬a=b):(↑a:Int)≠(↑b:Int):=AF h1
theorem GR{a:Nat}(h1:0<a)(h2:0=a):False:=BG (congrArg Nat.cast h2) h1
theorem DZ{a b:Nat}(h1:a=b):a+1=b+1:=BO rfl (congrFun (congrArg HAdd.hAdd (id (Eq.symm h1))) 1)
theorem GG{a:Nat}:(1:Int)+(↑a:Int)=(↑(a+(1:Nat)):Int):=Int.add_comm 1 (a:Int)
theorem Gc{a:Nat}:¬((0:Int)<=(-1:Int)/\(-1:Int)<=(↑a:Int)-(1:Int)):=of_decide_eq_false rfl
theorem F7{a:Nat}:¬((0:Int)<=(↑a:Int)/\(↑a:Int)<=(↑a:Int)-(1:Int)):=fun q=>MH _ (Int.lt_of_le_sub_one q.2)
theorem Gx{a b c:Int}:a+(b+c)=b+(a+c):=Int.add_left_comm a b c
theorem EO{a:Nat}(h1:¬a=(0:Nat)):¬(↑a:Int)=(0:Int):=Int.ofNat_ne_zero.mpr h1
theorem GK{a:Nat}(h1:a=(8:Nat)):(↑a:Int)=(8:Int):=Int.neg_inj.mp (congrArg Neg.neg (congrArg Nat.cast h1))
theorem G6{a b:Nat}(h1:a+1=b+1):a=b:=Nat.add_right_cancel h1
theorem EK{a:Nat}(h1:a=(40:Nat)):(↑a:Int)=(40:Int):=Int.neg_inj.mp (congrArg Neg.neg (congrArg Nat.cast h1))
theorem Fe{a:Nat}:a<a+1:=Nat.lt_add_one a
theorem Ej{a b:Nat}:a<=a+b:=Lo a b
theorem G0{a b:Nat}(h1:a+1=0):a=b:=absurd h1 (L9 a)
theorem GX{a b:Nat}(h1:0=a+1):b=a:=absurd h1.symm (L9 a)
theorem J1{a b:Nat}:(-(↑(a+(1:Nat)):Int)+(↑b:Int)).toNat=b-(a+(1:Nat)):=(congrArg Int.toNat (Int.add_comm _ _)).trans (Int.toNat_sub b (a+1))
theorem FR{a:Nat}(h1:a<2):a=0\/a=1:=(Nat.lt_or_ge a 1).elim (fun q=> .inl (Nat.lt_one_iff.mp q)) fun q=> .inr (LR (K6 h1) q)
theorem Kf{a:Int}(h1:(0:Int)<=a/\a<(↑(1000000:Nat):Int)):(((-9223372036854775808:Int)<=a/\a<(9223372036854775808:Int))/\(-9223372036854775808:Int)<=Max.max a (0:Int)/\Max.max a (0:Int)<(9223372036854775808:Int))/\(Max.max a (0:Int)=(0:Int)\/(-9223372036854775808:Int)<=a/\a<(9223372036854775808:Int)):=by have p:=And.intro (Lm (by decide:(-9223372036854775808:Int)<=0) h1.1) (LO h1.2 (by decide:((1000000:Nat):Int)<9223372036854775808));exact⟨⟨p,rwl (Int.max_eq_left h1.1) p⟩,.inr p⟩
theorem J6{a b:Nat}(h1:a<b):b+1-(a+1)<b+1-a:=Ks (Ls (Ky (Nat.add_sub_add_right b 1 a))) (Ky (Nat.succ_sub (KN h1)).symm)
theorem J4{a b:Nat}(h1:a+1<=b):b-a=b-(a+1)+1:=(Ln (M8 h1)).symm
theorem JW{a b:Nat}(h1:a<(1000000:Nat))(h2:b<a):(↑b:Int)<(2:Int)^(63:Nat)-(1:Int):=LO (Lc.mpr (LD h2 h1)) (by decide)
theorem J8{a b:Nat}:a-(b+1)=Min.min (a-(b+1)) a:=(LQ (M9 a (b+1))).symm
theorem Kb{a:Int}(h1:(-1000000000000:Int)<a/\a<(1000000000000:Int)):a.natAbs<(2:Nat)^(40:Nat):=(Int.natAbs_eq a).elim (fun e=>Lc.mp (LC (LZ e.symm) (LO h1.2 (by decide)))) fun e=>Lc.mp (Int.lt_of_neg_lt_neg (LB (LO (by decide) h1.1) (LZ e)))
theorem Ke{a:Int}(h1:(-1000000000000:Int)<a/\a<(1000000000000:Int)):a.natAbs<(2:Nat)^(60:Nat):=LD (Kb h1) (by decide)
theorem J7{a b c:Nat}(h1:a<=b):a<=b-c+c:=Kl h1 (Nl (Lk (b-c)))
theorem Di{a b c:Nat}(h1:a+b<c):b<c:=Kj (Md b a) h1
theorem Ie{a b c d e:Nat}(h1:a+100+20*b<c)(h2:d<=7):a+1+Min.min d e<c:=Kj (Kl (Lx (Kl (LP d e) h2) (a+1)) (Kl (Lx (by decide:8<=100) a) (Lo (a+100) (20*b)))) h1
theorem H9{a b c d:Nat}(h1:a+100+20*(b+1)<c)(h2:d=a+1):d+3+100+20*b<c:=by subst h2;exact bz (k:=104) h1 (by decide)
theorem DH{a:Nat}: -(↑(a+(1:Nat)):Int)<(0:Int):=Int.neg_neg_of_pos (Lc.mpr (Mi a))
theorem IJ{a b c:Nat}(h1:a=b)(h2:(↑c:Int).toNat<b):c<a:=Ks h2 (Ky h1.symm)
theorem HG{a b:Nat}(h1:a+1<=b):b-(a+1)<b:=Nat.sub_lt (Ks (Mi a) h1) (Mi a)
theorem HF{a:Nat}{b:Int}(h1:a<(1000000:Nat))(h2:b.toNat<a):b<(2:Int)^(63:Nat):=LC (Int.self_le_toNat b) (LO (Lc.mpr (LD h2 h1)) (by decide))
theorem ID{a:Int}(h1:(0:Int)<=a/\a<(↑(1000000:Nat):Int)):a.toNat<(1000000:Nat):=(Mm h1.1).mpr h1.2
theorem HP{a b c:Nat}(h1:a<Min.min b c):a<=b:=KN (Ks h1 (LP b c))
theorem HH{a b c:Nat}(h1:a<=b):Min.min a c<=b:=Kl (LP a c) h1
theorem HS{a b:Nat}:0+Min.min a b<=a:=Kl (Ky (MS _)) (LP a b)
theorem JN{a:Int}(h1:(0:Int)<=a/\a<(↑(1000000:Nat):Int)):a.toNat<=(2:Nat)^(24:Nat):=KN (LD ((Mm h1.1).mpr h1.2) (by decide))
theorem JP{a:Nat}(h1:a<60):¬a/30+1>300:=fun q=>Lj 60 (Kj (Kl (by decide:60<=300) (Kl (K6 q) (Nat.div_le_self a 30))) h1)
theorem I5{a b c:Nat}(h1:a+100+20*(b+1)<c):a+3+100+20*b<c:=bz (k:=103) h1 (by decide)
theorem IA{a b c:Nat}(h1:a+5+5*(b+1)<c):a+1+5<c:=Kj (Lo (a+6) (5*b)) (bw (k:=6) h1 (by decide))
theorem I8{a b c:Nat}(h1:a+5+5*(b+1)<c):a+1+1+5+5*b<c:=bw (k:=7) h1 (by decide)
theorem JR{a b c:Nat}(h1:a+100+20*b<c):a+64<c:=Kj (Kl (Lx (by decide:64<=100) a) (Lo (a+100) (20*b))) h1
theorem IP{a:Nat}{b:Int}(h1:(↑a:Int)<b):a<b.toNat:=Int.lt_toNat.mpr h1
theorem HJ{a b c:Nat}(h1:a+5+5*(b+1)<c):a+5<c:=Kj (Lo (a+5) (5*b)) (bw (k:=5) h1 (by decide))
theorem HU{a b c:Nat}(h1:a+5+5*(b+1)<c):a+1+5+5*b<c:=bw (k:=6) h1 (by decide)
theorem JG{a b:Nat}(h1:a+b<(1000000:Nat)):(↑b:Int)<(↑(1000000:Nat):Int):=Lc.mpr (Kj (Md b a) h1)
theorem Hz{a b:Nat}(h1:a+(1:Nat)<=b):(0:Int)<= -((↑a:Int)+(1:Int))+(↑b:Int)/\ -((↑a:Int)+(1:Int))+(↑b:Int)<(↑b:Int):=⟨Lm (show (0:Int)<=(b:Int)+ -((a:Int)+1) from Int.sub_nonneg_of_le (LY.mpr h1)) (LZ (Int.add_comm _ _)),LB (Int.add_lt_add_right (Int.neg_neg_of_pos (Lc.mpr (Mi a))) (b:Int)) (LZ (Int.zero_add _))⟩
theorem HD{a b c d:Nat}(h1:a<b)(h2:c<=d)(h3:d<a):c<b:=Kj h2 (LD h3 h1)
theorem Jc{a b c:Nat}(h1:a+b+c<1000):a<1000:=Kj (Kl (Lo a b) (Lo (a+b) c)) h1
theorem Jw{a b c:Nat}(h1:a+b+c<1000):a+b<1000:=Kj (Lo (a+b) c) h1
theorem HR{a:Nat}(h1:a<=100):1+300+5+5*a<1000:=Kj (Lx (LF 5 h1) (1+300+5)) (by decide)
theorem IM{a:Nat}(h1:a<=100):4+100+20*a<9900:=Kj (Lx (LF 20 h1) (4+100)) (by decide)
theorem HC{a b:Nat}(h1:a<64)(h2:b=a):b<64:=Kj (Ky h2) h1
theorem Ik{a b c:Nat}(h1:a+b<c):a<c:=Kj (Lo a b) h1
theorem HY{a:Nat}(h1:a<(1000000:Nat)):(↑a:Int)<(2:Int)^(63:Nat):=LO (Lc.mpr h1) (by decide)
theorem Jz{a:Int}(h1:a<(↑(1000000:Nat):Int)):a<(2:Int)^(63:Nat):=LO h1 (by decide)
theorem Ig{a:Int}(h1: -(2:Int)^(62:Nat)<a): -(2:Int)^(64:Nat)<a:=LO (by decide) h1
theorem JE{a b:Nat}(h1:a=b):a<=b:=Ky h1
theorem Ji{a b:Nat}(h1:a+(1:Nat)<=b): -(↑b:Int)<= -(↑(a+(1:Nat)):Int):=Int.neg_le_neg (LY.mpr h1)
theorem Hv{a:Int}(h1:a<(2:Int)^(62:Nat)):a<(2:Int)^(64:Nat):=LO h1 (by decide)
theorem Jn{a b:Nat}(h1:a+5<b):a<b:=Kj (Lo a 5) h1
theorem JM{a:Nat}{b:Int}(h1:a<b.toNat):(0:Int)<(↑b.toNat:Int)-(↑a:Int):=Int.sub_pos_of_lt (Lc.mpr h1)
theorem Ja{a:Nat}(h1:7<=a/\a<=14):a<15:=Kj h1.2 (by decide)
theorem Jh{a:Nat}(h1:a<1000000):a<=2^24:=KN (LD h1 (by decide))
theorem IW{a:Nat}(h1:(-1:Int)= -(↑(a+(1:Nat)):Int)):a=(0:Nat):=Nat.succ.inj (Mv.mp (Int.neg_inj.mp h1)).symm
theorem Jo{a b:Nat}(h1:(-1:Int)=(↑a:Int)):a=b-(1:Nat):=absurd h1 (Int.ne_of_lt (LB (by decide) (Lv a)))
theorem HZ{a b:Nat}(h1:a<b)(h2:b<=a):False:=Lj a (Ks h1 h2)
theorem It{a:Int}(h1:(0:Int)<=a): -(2:Int)^(63:Nat)<=a:=Lm (by decide) h1
theorem IC{a b:Nat}:(↑a:Int)-(↑b:Int)-(1:Int)=(↑a:Int)-(↑(b+(1:Nat)):Int):=Int.sub_sub (a:Int) (b:Int) 1
theorem Ib{a:Nat}(h1:7<=a):a≠6:=MB (Ks (by decide) h1)
theorem Jd{a b c d:Nat}(h1:a=b)(h2:b<=c)(h3:d=a):Min.min b c=d:=(LQ h2).trans (h1.symm.trans h3.symm)
theorem IT{a:Nat}:(↑a:Int)-(1:Int)-(↑(0:Nat):Int)=(↑a:Int)-(1:Int):=Int.sub_zero _
theorem Hs{a:Nat}:(↑a:Int)-(↑a:Int)<=(0:Int):=LZ (Int.sub_self _)
end TD.Internal
namespace TD.Internal
open PySem PySem.W PyProof.Rows
noncomputable def zY (e:KX):Bool:=if h:e.ctorIdx=23 then Expr.Name.elim (motive_1:=fun _=>Bool) e h fun x _=>x==("__name__":Str) else false
noncomputable def FH (s:Mc):Bool:=if h:s.ctorIdx=5 then Stmt.Assign.elim (motive_2:=fun _=>Bool) s h fun ts _ _=>ts.all zY else false
noncomputable def az (p:Program):Program:={p with main:={p.main with body:=p.main.body.filter fun s=>!FH s}}
noncomputable abbrev Hl (r:OpenRow):Prop:=LeftO r.prog (az r.prog) [] (fun s=>xlAt (az r.prog) [] s&&recOk (RowW.records r.toRowW) s) (Hook.obs Hook.none) (Hook.val Hook.none) 4000
end TD.Internal
namespace TD.Internal
open PySem (Str Addr)
set_option genCtorIdx true in
inductive ae where
 |none|bool (b:Bool)|int (i:Int)|tup (vs:List ae)|ref (a:Addr)|frz (xs:List ae)|str (x:Str)
set_option genCtorIdx true in
inductive cU where
 |list (xs:List ae)|dict0|inst (d:Addr)|flds (fs:List (Option ae))
noncomputable def cU.isA:cU->Nat->Option Bool
 | .list _,c=>some (c==2)
 | .dict0,_=>some false
 | .inst _,_=>Option.none
 | .flds _,_=>Option.none
noncomputable abbrev Mem:=Addr->Option cU
noncomputable def Mem.set (m:Mem) (a:Addr) (o:cU):Mem:=fun b=>if b=a then some o else m b
set_option genCtorIdx true in
inductive ie where
 |int|bool|list|tuple|str|ValueError|DealError|BadTable|BadShares|BadHeir|BadThing|BadRing|BadOrder|Full|BadNote
noncomputable def ie.code:ie->Nat
 | .int=>0| .bool=>1| .list=>2| .tuple=>3| .str=>4| .ValueError=>5| .DealError=>6| .BadTable=>7| .BadShares=>8| .BadHeir=>9| .BadThing=>10
 | .BadRing=>11| .BadOrder=>12| .Full=>13| .BadNote=>14
set_option genCtorIdx true in
inductive z9 where|add|sub|mul|fdiv|mod
set_option genCtorIdx true in
inductive vV where|eq|ne|lt|le|gt|ge|inn|notin
set_option genCtorIdx true in
inductive B1 where
 |len|all|sum|minL|list|tuple|sorted|int|lrange|lrev
set_option genCtorIdx true in
inductive i5 where|plain|range|enum
set_option genCtorIdx true in
inductive Tg where|one (i:Nat)|two (i j:Nat)
mutual
inductive Ex where
 |nm (i:Nat)|int (i:Int)|bool (b:Bool)|none|glob (x:String)
 |bin (op:z9) (a b:Ex)|not (a:Ex)|neg (a:Ex)|boolop (isAnd:Bool) (es:fC)
 |cmp (op:vV) (a b:Ex)|cmp2 (op1 op2:vV) (a b c:Ex)|isc (pos:Bool) (a:Ex) (c:Option Bool)
 |call (f:Nat) (args:fC)|b1 (b:B1) (a:Ex)|isinst (a:Ex) (c:ie)
 |append (o e:Ex)|pop (o:Ex) (i:fC)|index (o e:Ex)
 |sub (a i:Ex)|slice (up:Bool) (a i:Ex)|mm (mx:Bool) (a b:Ex)|lst (es:fC)|tup (es:fC)
 |comp (elt:Ex) (t:Tg) (k:i5) (src:Ex) (cond:fC)
 |str (x:String)|dict0
 |attr (o:Ex) (f:Nat)|meth (o:Ex) (f:Nat) (args:fC)|new (f:Nat) (args:fC)|cut (a:Ex) (i j:Int)
inductive fC where
 |nil|cons (e:Ex) (es:fC)
end
inductive Flow where|next|brk|cont|ret (v:ae)
mutual
inductive St where
 |expr (e:Ex)|ret (e:Ex)|asg (i:Nat) (e:Ex)|asgTwo (i j:Nat) (e:Ex)|asgSub (o i e:Ex)
 |ifs (c:Ex) (t e:eM)|fors (t:Tg) (k:i5) (src:Ex) (b:eM)|whiles (c:Ex) (b:eM)
 |raise (c:ie) (msg:String)
 |callS (f:Nat) (args:fC)|asgAttr (o:Ex) (f:Nat) (e:Ex)|newR (f:Nat) (args:fC)|methR (o:Ex) (f:Nat) (args:fC)
 |word (f:Nat) (args:fC) (i j q:Nat) (cs ds es:List ie) (ws:List String) (w:String) (n:Nat)
inductive eM where
 |nil|cons (s:St) (ss:eM)
end
noncomputable def aK:List St->eM
 | []=> .nil
 |s::r=> .cons s (aK r)
noncomputable abbrev aL:=List (Option ae)
noncomputable def bS:aL->Nat->Option ae
 | [],_=>Option.none
 |v::r,n=>match n with|0=>v|n+1=>bS r n
noncomputable def ay:aL->Nat->ae->aL
 | [],_,_=>[]
 |x::r,n,v=>match n with|0=>some v::r|n+1=>x::ay r n v
noncomputable def iG:Option cU->Option (List ae)
 |Option.none=>Option.none
 |some (.list xs)=>some xs
 |some _=>Option.none
noncomputable def lst (m:Mem):ae->Option (List ae)
 | .ref a=>iG (m a)
 | .frz xs=>some xs
 |_=>Option.none
noncomputable def seq (m:Mem):ae->Option (List ae)
 | .tup vs=>some vs
 |v=>lst m v
inductive ef where
 |none|int (i:Int)|list (ds:List ef)|tup (ds:List ef)|str (x:Str)
mutual
noncomputable def ef.beq:ef->ef->Bool
 | .none,e=>match e with| .none=>true|_=>false
 | .int i,e=>match e with| .int j=>i==j|_=>false
 | .list a,e=>match e with| .list b=>ef.beqs a b|_=>false
 | .tup a,e=>match e with| .tup b=>ef.beqs a b|_=>false
 | .str x,e=>match e with| .str y=>x==y|_=>false
noncomputable def ef.beqs:List ef->List ef->Bool
 | [],l=>l.isEmpty
 |a::r,l=>match l with|b::t=>ef.beq a b&&ef.beqs r t| []=>false
end
mutual
noncomputable def Reads (m:Mem):ef->ae->Prop
 | .none,v=>v= .none
 | .int i,v=>v= .int i
 | .list ds,v=>∃xs,lst m v=some xs/\ju m ds xs
 | .tup ds,v=>∃xs,v= .tup xs/\ju m ds xs
 | .str x,v=>v= .str x
noncomputable def ju (m:Mem):List ef->List ae->Prop
 | [],xs=>xs= []
 |d::ds,xs=>∃y ys,xs=y::ys/\Reads m d y/\ju m ds ys
end
noncomputable def br:Nat:=1000000
noncomputable def small (i:Int):Prop:= -(2^62)<i/\i<2^62
noncomputable def oi (i:Int):Prop:= -1000000000000<i/\i<1000000000000
noncomputable def bf (m:Mem) (xs:List ae) (Q:ae->Mem->Prop):Prop:=xs.length<br/\∀a,m a=Option.none->Q (.ref a) (m.set a (.list xs))
noncomputable def gq (op:z9) (a b:ae) (Q:ae->Mem->Prop) (m:Mem):Prop:=
 match op with
 | .add=>(∃x y,a= .int x/\b= .int y/\Q (.int (x+y)) m)\/(∃x y xs ys,a= .ref x/\b= .ref y/\lst m (.ref x)=some xs/\lst m (.ref y)=some ys/\bf m (xs++ys) Q)
 | .sub=>∃x y,a= .int x/\b= .int y/\Q (.int (x-y)) m
 | .mul=>(∃x y,a= .int x/\b= .int y/\(small x\/small y)/\Q (.int (x*y)) m)\/(∃x n xs,a= .ref x/\b= .int n/\lst m (.ref x)=some xs/\0<=n/\n<br/\bf m (Kk n.toNat xs).flatten Q)
 | .fdiv=>∃x y,a= .int x/\b= .int y/\(y≠0/\oi y)/\Q (.int (x.fdiv y)) m
 | .mod=>∃x y,a= .int x/\b= .int y/\(y≠0/\oi y)/\Q (.int (x.fmod y)) m
noncomputable def oW:Nat->ef->Bool
 |0,_=>false
 |n+1,d=>match d with
  | .list ds=>ds.all (oW n)
  | .tup ds=>ds.all (oW n)
  | .str x=>x.cps.all (·<0x110000)
  |_=>true
noncomputable def CB (a b:ae) (Q:Bool->Prop) (m:Mem):Prop:=
 (∃x y,a= .bool x/\b= .bool y/\Q (x==y))\/(∃x y:Str,a= .str x/\b= .str y/\Q (x==y))\/(∃d e,Reads m d a/\Reads m e b/\oW 8 d=true/\oW 8 e=true/\Q (ef.beq d e))
noncomputable def JX (a b:ae) (Q:Bool->Prop) (m:Mem):Prop:=
 ∃d es xs,seq m b=some xs/\Reads m d a/\ju m es xs/\oW 8 d=true/\es.all (oW 7)=true/\Q (es.any fun e=>ef.beq e d)
noncomputable def cE (op:vV) (a b:ae) (Q:Bool->Mem->Prop) (m:Mem):Prop:=
 match op with
 | .eq=>CB a b (fun r=>Q r m) m
 | .ne=>CB a b (fun r=>Q (!r) m) m
 | .inn=>JX a b (fun r=>Q r m) m
 | .notin=>JX a b (fun r=>Q (!r) m) m
 | .lt=>∃x y,a= .int x/\b= .int y/\Q (decide (x<y)) m
 | .le=>∃x y,a= .int x/\b= .int y/\Q (decide (x<=y)) m
 | .gt=>∃x y,a= .int x/\b= .int y/\Q (decide (x>y)) m
 | .ge=>∃x y,a= .int x/\b= .int y/\Q (decide (x>=y)) m
noncomputable def isA (m:Mem):ae->ie->Option Bool
 | .none,_=>some false
 | .bool _,c=>some (c.code.ble 1)
 | .int _,c=>some (c.code==0)
 | .tup _,c=>some (c.code==3)
 | .ref a,c=>(m a).bind fun o=>o.isA c.code
 | .frz _,_=>Option.none
 | .str _,c=>some (c.code==4)
noncomputable def mu (k c:Nat):Bool:=c==k||(c==5||c==6)
noncomputable abbrev iZ:Nat->Mem->Prop:=fun _ _=>False
noncomputable abbrev I7:Nat->aL->Mem->Prop:=fun _ _ _=>False
noncomputable def bP (n:Int):List ae:=(Kt n.toNat).map fun(k:Nat)=> .int k
noncomputable def Av (xs:List ae) (Q:ae->Mem->Prop) (m:Mem):Prop:=∃is:List Int,xs=is.map .int/\is.length<64/\∀js:List Int,js.Perm is->js.Pairwise (·<=·)->bf m (js.map .int) Q
noncomputable def gj (b:B1) (v:ae) (Q:ae->Mem->Prop) (m:Mem):Prop:=
 match b with
 | .len=>∃xs,seq m v=some xs/\xs.length<br/\Q (.int xs.length) m
 | .all=>∃bs:List Bool,lst m v=some (bs.map .bool)/\Q (.bool (bs.all id)) m
 | .sum=>∃is:List Int,lst m v=some (is.map .int)/\(∀i∈is,small i)/\is.length<br/\Q (.int is.sum) m
 | .minL=>∃(is:List Int),lst m v=some (is.map .int)/\is≠ []/\is.length<br/\∀M:Int,M∈is->(∀a∈is,M<=a)->Q (.int M) m
 | .list=>∃xs,seq m v=some xs/\bf m xs Q
 | .tuple=>∃xs,lst m v=some xs/\xs.length<br/\Q (.tup xs) m
 | .sorted=>∃xs,lst m v=some xs/\Av xs Q m
 | .int=>∃x,v= .bool x/\Q (.int (if x then 1 else 0)) m
 | .lrange=>∃n,v= .int n/\(0<=n/\n<br)/\bf m (bP n) Q
 | .lrev=>∃a xs,v= .ref a/\m a=some (.list xs)/\xs.length<br/\bf m xs.reverse Q
noncomputable def eh (i:Int) (n:Nat):Option Nat:=
 if 0<=i then (if i.toNat<n then some i.toNat else Option.none) else (if (-i).toNat<=n then some (n-(-i).toNat) else Option.none)
noncomputable def gm (v:ae) (i:ae) (Q:ae->Mem->Prop) (m:Mem):Prop:=
 ∃k xs j x,i= .int k/\seq m v=some xs/\eh k xs.length=some j/\xs[j]? =some x/\xs.length<br/\Q x m
noncomputable def eN (k:Int) (n:Nat):Nat:=if 0<=k then k.toNat else n-(-k).toNat
noncomputable def uY (up:Bool) (xs:List ae) (k:Int):List ae:=match up with
 |true=>xs.drop (eN k xs.length)
 |false=>xs.take (eN k xs.length)
noncomputable def Ho (up:Bool) (x y:ae) (Q:ae->Mem->Prop) (m:Mem):Prop:=∃a xs k,x= .ref a/\m a=some (.list xs)/\y= .int k/\xs.length<br/\bf m (uY up xs k) Q
noncomputable def As (mx:Bool) (a b:Int):Int:=match mx with
 |true=>if b>a then b else a
 |false=>if b<a then b else a
noncomputable def Hq (mx:Bool) (x y:ae) (Q:ae->Mem->Prop) (m:Mem):Prop:=∃a b,x= .int a/\y= .int b/\Q (.int (As mx a b)) m
noncomputable def j0:Nat->List ae->List ae
 |_,[]=>[]
 |i,x::r=> .tup [.int (i:Nat),x]::j0 (i+1) r
theorem jE:∀(us:List ae) (i:Nat),(j0 i us).length=us.length
 | [],_=>rfl
 |_::r,i=>congrArg NJ (jE r (i+1))
theorem gS:∀(us:List ae) (i j:Nat),(j0 i us)[j]? =us[j]?.map fun x=> .tup [.int ((i+j:Nat):Int),x]
 | [],_,_=>rfl
 |x::r,i,0=>rfl
 |x::r,i,j+1=>by
  show (j0 (i+1) r)[j]? =_
  refine rwl (gS r (i+1) j ..) (rwl (Lz ..) ?_);rfl
noncomputable def dX (k:i5) (v:ae) (Q:List ae->Prop) (m:Mem):Prop:=
 match k with
 | .plain=>∃xs,seq m v=some xs/\xs.length<br/\Q xs
 | .range=>∃n,v= .int n/\(0<=n/\n<br)/\Q (bP n)
 | .enum=>∃xs,lst m v=some xs/\xs.length<br/\Q (j0 0 xs)
noncomputable def stands (k:i5) (v:ae) (m m':Mem):Prop:=
 match k with
 | .range=>True
 | .plain=>lst m' v=lst m v
 | .enum=>lst m' v=lst m v
noncomputable def zE (t:Tg) (x:ae) (loc:aL) (l:aL):Prop:=
 match t with
 | .one i=>l=ay loc i x
 | .two i j=>∃a b,x= .tup [a,b]/\l=ay (ay loc i a) j b
noncomputable def tg (t:Tg) (x:ae) (loc:aL) (k:aL->Prop):Prop:=∃l,zE t x loc l/\k l
noncomputable def compLoop (f:ae->(List ae->Mem->Prop)->Mem->Prop) (ok:Mem->Prop):List ae->List ae->(List ae->Mem->Prop)->Mem->Prop
 | [],acc,Q,m=>Q acc m
 |x::xs,acc,Q,m=>f x (fun vs m'=>ok m'/\compLoop f ok xs (acc++vs) Q m') m
noncomputable def qp (R:Flow->aL->Mem->Prop) (I:aL->Mem->Prop) (fl:Flow) (l:aL) (m:Mem):Prop:=match fl with
 | .next=>I l m
 | .cont=>I l m
 | .brk=>R .next l m
 | .ret v=>R (.ret v) l m
noncomputable def forLoop (f:ae->(Flow->aL->Mem->Prop)->aL->Mem->Prop) (ok:Mem->Prop):List ae->(Flow->aL->Mem->Prop)->aL->Mem->Prop
 | [],Q,l,m=>Q .next l m
 |x::xs,Q,l,m=>f x (qp Q fun l' m'=>ok m'/\forLoop f ok xs Q l' m') l m
noncomputable def ib (c:(Bool->Mem->Prop)->aL->Mem->Prop) (f:(Flow->aL->Mem->Prop)->aL->Mem->Prop):Nat->(Flow->aL->Mem->Prop)->aL->Mem->Prop
 |0,_,_,_=>False
 |n+1,Q,l,m=>c (fun t m'=>(t=true->f (qp Q fun l' m''=>ib c f n Q l' m'') l m')/\(t=false->Q .next l m')) l m
noncomputable abbrev bb:=Nat->List ae->(ae->Mem->Prop)->(Nat->Mem->Prop)->Mem->Prop
noncomputable def CF (m:Mem) (x:ae):Prop:=∃a xs,x= .ref a/\m a=some (.list xs)
noncomputable def isNone:ae->Bool
 | .none=>true
 |_=>false
noncomputable def zN (t:Bool):ae->Bool
 | .bool u=>u==t
 |_=>false
noncomputable def i9:Option Bool->ae->Bool
 |Option.none=>isNone
 |some t=>zN t
noncomputable def oO (Q:Bool->Mem->Prop) (v:ae) (m:Mem):Prop:=∃b,v= .bool b/\Q b m
noncomputable def xP (k:Bool) (W:Mem->Prop) (P:Bool->Mem->Prop) (b:Bool) (m:Mem):Prop:=(b=k->W m)/\(b=(!k)->P b m)
noncomputable def xR (T E:Mem->Prop) (b:Bool) (m:Mem):Prop:=(b=true->T m)/\(b=false->E m)
noncomputable def wJ (Q:ae->Mem->Prop) (x y:ae) (m2:Mem):Prop:=∃a xs,x= .ref a/\m2 a=some (.list xs)/\xs.length<br/\Q .none (m2.set a (.list (xs++ [y])))
noncomputable def AH (Q:ae->Mem->Prop) (x:ae) (ks:List ae) (m2:Mem):Prop:=∃a xs k j y,x= .ref a/\m2 a=some (.list xs)/\xs.length<br/\(ks= []/\k= -1\/ks= [.int k])/\eh k xs.length=some j/\xs[j]? =some y/\Q y (m2.set a (.list (xs.eraseIdx j)))
noncomputable def C1 (Q:ae->Mem->Prop) (x y:ae) (m2:Mem):Prop:=∃(a:Addr) (is:List Int) (i:Int),x= .ref a/\m2 a=some (.list (is.map .int))/\y= .int i/\i∈is/\is.length<br/\Q (.int (is.idxOf i:Nat)) m2
noncomputable def AQ (x y v:ae) (K:Mem->Prop) (m:Mem):Prop:=∃a k xs,x= .ref a/\y= .int k/\m a=some (.list xs)/\xs.length<br/\(0<=k/\k.toNat<xs.length)/\K (m.set a (.list (xs.set k.toNat v)))
noncomputable def de:Nat->String
 |0=>"rows"|1=>"held"|_=>""
noncomputable def zu (m:Mem) (x:ae) (d:Addr) (fs:List (Option ae)):Prop:=∃a,x= .ref a/\m a=some (.inst d)/\m d=some (.flds fs)
noncomputable def wg (x:ae) (f:Nat) (Q:ae->Mem->Prop) (m:Mem):Prop:=∃d fs v,f<2/\zu m x d fs/\bS fs f=some v/\Q v m
noncomputable def AE (x:ae) (f:Nat) (v:ae) (K:Mem->Prop) (m:Mem):Prop:=∃d fs,f<2/\zu m x d fs/\fs.length=2/\K (m.set d (.flds (ay fs f v)))
noncomputable def C5 (m:Mem) (x:ae):Prop:=∃a d fs,x= .ref a/\m a=some (.inst d)/\m d=some (.flds fs)
noncomputable def A6 (K:ae->Mem->Prop) (m:Mem):Prop:=∀a d,m a=Option.none->m d=Option.none->a≠d->K (.ref a) ((m.set d (.flds [Option.none,Option.none])).set a (.inst d))
noncomputable def BU (x:ae) (i j:Int) (Q:ae->Mem->Prop) (m:Mem):Prop:=∃xs,lst m x=some xs/\xs.length<br/\bf m ((xs.drop (eN i xs.length)).take (eN j xs.length-eN i xs.length)) Q
noncomputable def pV (t:Tg) (loc:aL) (B:aL->(Bool->Mem->Prop)->Mem->Prop) (V:aL->(ae->Mem->Prop)->Mem->Prop) (x:ae) (Q':List ae->Mem->Prop) (m':Mem):Prop:=
 tg t x loc (fun l=>B l (xR (fun m2=>V l (fun y m3=>Q' [y] m3) m2) (fun m2=>Q' [] m2)) m')
mutual
noncomputable def bk (C:bb) (G:String->Option ae) (X:Nat->Mem->Prop):Ex->aL->(ae->Mem->Prop)->Mem->Prop
 | .nm i,loc,Q,m=>∃v,bS loc i=some v/\Q v m
 | .int i,_,Q,m=>Q (.int i) m
 | .bool b,_,Q,m=>Q (.bool b) m
 | .none,_,Q,m=>Q .none m
 | .glob x,_,Q,m=>∃v,G x=some v/\Q v m
 | .bin op a b,loc,Q,m=>bk C G X a loc (fun x m1=>bk C G X b loc (fun y m2=>gq op x y Q m2) m1) m
 | .not a,loc,Q,m=>bk C G X a loc (oO fun b m1=>Q (.bool !b) m1) m
 | .neg a,loc,Q,m=>bk C G X a loc (fun x m1=>∃i,x= .int i/\Q (.int (-i)) m1) m
 | .boolop k es,loc,Q,m=>mM C G X k es loc (fun b m1=>Q (.bool b) m1) m
 | .cmp op a b,loc,Q,m=>bk C G X a loc (fun x m1=>bk C G X b loc (fun y m2=>cE op x y (fun r m3=>Q (.bool r) m3) m2) m1) m
 | .cmp2 o1 o2 a b c,loc,Q,m=>bk C G X a loc (fun x m1=>bk C G X b loc (fun y m2=>cE o1 x y (xR (fun m3=>bk C G X c loc (fun z m4=>cE o2 y z (fun r' m5=>Q (.bool r') m5) m4) m3) (fun m3=>Q (.bool false) m3)) m2) m1) m
 | .isc p a c,loc,Q,m=>bk C G X a loc (fun x m1=>Q (.bool (i9 c x==p)) m1) m
 | .call f args,loc,Q,m=>lx C G X args loc (fun vs m1=>C f vs Q X m1) m
 | .b1 b a,loc,Q,m=>bk C G X a loc (fun x m1=>gj b x Q m1) m
 | .isinst a c,loc,Q,m=>bk C G X a loc (fun x m1=>∃b,isA m1 x c=some b/\Q (.bool b) m1) m
 | .append o e,loc,Q,m=>bk C G X o loc (fun x m1=>CF m1 x/\bk C G X e loc (fun y m2=>wJ Q x y m2) m1) m
 | .pop o i,loc,Q,m=>bk C G X o loc (fun x m1=>CF m1 x/\lx C G X i loc (fun ks m2=>AH Q x ks m2) m1) m
 | .index o e,loc,Q,m=>bk C G X o loc (fun x m1=>CF m1 x/\bk C G X e loc (fun y m2=>C1 Q x y m2) m1) m
 | .sub a i,loc,Q,m=>bk C G X a loc (fun x m1=>bk C G X i loc (fun y m2=>gm x y Q m2) m1) m
 | .slice up a i,loc,Q,m=>bk C G X a loc (fun x m1=>bk C G X i loc (fun y m2=>Ho up x y Q m2) m1) m
 | .mm mx a b,loc,Q,m=>bk C G X a loc (fun x m1=>bk C G X b loc (fun y m2=>Hq mx x y Q m2) m1) m
 | .lst es,loc,Q,m=>lx C G X es loc (fun vs m1=>bf m1 vs Q) m
 | .tup es,loc,Q,m=>lx C G X es loc (fun vs m1=>vs.length<br/\Q (.tup vs) m1) m
 | .comp elt t k src cond,loc,Q,m=>bk C G X src loc (fun v m1=>dX k v (fun xs=>
   compLoop (pV t loc (fun l P m=>mM C G iZ true cond l P m) (fun l P m=>bk C G iZ elt l P m)) (stands k v m1) xs [] (fun ys m'=>bf m' ys Q) m1) m1) m
 | .str x,_,Q,m=>Q (.str (Str.ofString x)) m
 | .dict0,_,Q,m=>∀a,m a=Option.none->Q (.ref a) (m.set a .dict0)
 | .attr o f,loc,Q,m=>bk C G X o loc (fun x m1=>wg x f Q m1) m
 | .meth o f args,loc,Q,m=>bk C G X o loc (fun x m1=>C5 m1 x/\lx C G X args loc (fun vs m2=>C f (x::vs) Q X m2) m1) m
 | .new f args,loc,Q,m=>lx C G X args loc (fun vs m1=>A6 (fun x m2=>C f (x::vs) (fun r m3=>r= .none/\Q x m3) X m2) m1) m
 | .cut a i j,loc,Q,m=>bk C G X a loc (fun x m1=>BU x i j Q m1) m
noncomputable def mM (C:bb) (G:String->Option ae) (X:Nat->Mem->Prop) (isAnd:Bool):fC->aL->(Bool->Mem->Prop)->Mem->Prop
 | .nil,_,Q,m=>Q isAnd m
 | .cons e es,loc,Q,m=>bk C G X e loc (oO (xP isAnd (mM C G X isAnd es loc Q) Q)) m
noncomputable def lx (C:bb) (G:String->Option ae) (X:Nat->Mem->Prop):fC->aL->(List ae->Mem->Prop)->Mem->Prop
 | .nil,_,Q,m=>Q [] m
 | .cons e es,loc,Q,m=>bk C G X e loc (fun v m1=>lx C G X es loc (fun vs m2=>Q (v::vs) m2) m1) m
end
noncomputable def lN:ae->Prop
 | .none=>True
 | .bool _=>True
 | .int _=>True
 |_=>False
noncomputable def oa (t:Tg) (B:(Flow->aL->Mem->Prop)->aL->Mem->Prop) (x:ae) (Q':Flow->aL->Mem->Prop) (l':aL) (m':Mem):Prop:=tg t x l' (fun l=>B Q' l m')
noncomputable def lK (W:aL->Mem->Prop) (R:Flow->aL->Mem->Prop) (fl:Flow) (l:aL) (m:Mem):Prop:=match fl with
 | .next=>W l m
 | .brk=>R .brk l m
 | .cont=>R .cont l m
 | .ret v=>R (.ret v) l m
noncomputable def iK (Q:ae->Mem->Prop) (fl:Flow) (_:aL) (m:Mem):Prop:=match fl with
 | .ret v=>Q v m
 | .next=>Q .none m
 | .brk=>False
 | .cont=>False
noncomputable abbrev tk (X:Nat->aL->Mem->Prop) (loc:aL):Nat->Mem->Prop:=fun k m=>k=0/\X 0 loc m
noncomputable abbrev Hn (X:Nat->aL->Mem->Prop):Nat->aL->Mem->Prop:=fun k l m=>k=0/\X 0 l m
noncomputable def cR (k:Nat) (cs:List ie):List Bool:=cs.map fun c=>mu k c.code
noncomputable def Gq (c:Nat) (cs:List ie) (ws:List String) (Q:ae->Mem->Prop) (m:Mem):Prop:=(7<=c/\c<=14)/\((cR c cs).filter id).length=1/\∃w,ws[(cR c cs).idxOf true]? =some w/\∀m',(∀a o,m a=some o->m' a=some o)->Q (.str (Str.ofString w)) m'
mutual
noncomputable def vP (C:bb) (G:String->Option ae):St->(Flow->aL->Mem->Prop)->(Nat->aL->Mem->Prop)->aL->Mem->Prop
 | .expr e,Q,X,loc,m=>bk C G iZ e loc (fun v m1=>lN v/\Q .next loc m1) m
 | .ret e,Q,X,loc,m=>bk C G (tk X loc) e loc (fun v m1=>Q (.ret v) loc m1) m
 | .asg i e,Q,X,loc,m=>bk C G (tk X loc) e loc (fun v m1=>Q .next (ay loc i v) m1) m
 | .asgTwo i j e,Q,X,loc,m=>bk C G iZ e loc (fun v m1=>tg (.two i j) v loc (fun l=>Q .next l m1)) m
 | .asgSub o i e,Q,X,loc,m=>bk C G iZ e loc (fun v m1=>bk C G iZ o loc (fun x m2=>bk C G iZ i loc (fun y m3=>AQ x y v (fun m4=>Q .next loc m4) m3) m2) m1) m
 | .ifs c t e,Q,X,loc,m=>bk C G (tk X loc) c loc (oO (xR (bJ C G t Q X loc) (bJ C G e Q X loc))) m
 | .fors t k src b,Q,X,loc,m=>bk C G iZ src loc (fun v m1=>dX k v (fun xs=>
   forLoop (oa t (fun Q' l m'=>bJ C G b Q' (Hn X) l m')) (stands k v m1) xs Q loc m1) m1) m
 | .whiles c b,Q,X,loc,m=>∃n,ib (fun Q' l' m'=>bk C G iZ c l' (oO Q') m') (fun Q' l' m'=>bJ C G b Q' I7 l' m') n Q loc m
 | .raise c _,_,X,loc,m=>X c.code loc m
 | .callS f args,Q,X,loc,m=>lx C G iZ args loc (fun vs m1=>C f vs (fun v m2=>lN v/\Q .next loc m2) (fun c m'=>X c loc m') m1) m
 | .newR f args,_,X,loc,m=>lx C G iZ args loc (fun vs m1=>∀x,m1 x=Option.none->C f (.ref x::vs) (fun _ _=>False) (fun c m'=>X c loc m') m1) m
 | .methR o f args,_,X,loc,m=>bk C G iZ o loc (fun x m1=>C5 m1 x/\lx C G iZ args loc (fun vs m2=>C f (x::vs) (fun _ _=>False) (fun c m'=>X c loc m') m2) m1) m
 | .word f args i j q cs ds es ws w n,Q,X,loc,m=>((i<loc.length/\bS loc i=Option.none)/\j<loc.length/\j≠i/\q<loc.length)/\X 0 loc m/\lx C G iZ args loc (fun vs m1=>C f vs (fun _ _=>False) (fun c m'=>Gq c (cs++ds++es) (ws++Kk n w) (fun v m2=>∀l,Q (.ret v) l m2) m') m1) m
 | .asgAttr o f e,Q,X,loc,m=>bk C G iZ e loc (fun v m1=>bk C G iZ o loc (fun x m2=>AE x f v (fun m3=>Q .next loc m3) m2) m1) m
noncomputable def bJ (C:bb) (G:String->Option ae):eM->(Flow->aL->Mem->Prop)->(Nat->aL->Mem->Prop)->aL->Mem->Prop
 | .nil,Q,_,loc,m=>Q .next loc m
 | .cons s ss,Q,X,loc,m=>vP C G s (lK (fun l m1=>bJ C G ss Q X l m1) Q) X loc m
end
structure Fn where
 name:String
 np:Nat
 vars:List String
 body:eM
 own:Bool:=false
noncomputable def bh (vs:List ae) (n:Nat):aL:=vs.map some++Kk n Option.none
noncomputable def oD (FT:Nat->Option Fn) (G:String->Option ae):Nat->bb
 |0=>fun _ _ _ _ _=>False
 |n+1=>fun f vs Q X m=>∃fn,FT f=some fn/\vs.length=fn.np/\bJ (oD FT G n) G fn.body (iK Q) (fun c _ m'=>X c m') (bh vs (fn.vars.length-fn.np)) m
end TD.Internal
namespace TD.Internal
open PySem PyProof.Rows
structure Cx where
 prog:Program
 w:World
 base:Lw
 mg:Str->Option KC
 mb:Str->Option KC
 gens:Array GenState
 os:OsState
mutual
noncomputable def aP (W:Cx) (h:Lw):ae->KC->Prop
 | .none,v=>v= .none
 | .bool b,v=>v= .bool b
 | .int i,v=>∃t,v= .int i t
 | .tup vs,v=>∃a xs,v= .ref a/\IsTup h a (LK xs)/\aJ W h vs xs
 | .ref a,v=>v= .ref a
 | .frz vs,v=>∃a xs,v= .ref a/\W.base.IsList a (LK xs)/\aJ W h vs xs
 | .str x,v=>∃t,v= .str x t
noncomputable def aJ (W:Cx) (h:Lw):List ae->List KC->Prop
 | [],xs=>xs= []
 |v::vs,xs=>∃y ys,xs=y::ys/\aP W h v y/\aJ W h vs ys
end
noncomputable def kP (o:Obj):Prop:=o.cls= .type "tuple"/\∃xs n,o.data= .seq xs n
noncomputable def tw (o:Obj) (m:Str->Option KC):Prop:=∃es ep,o.data= .dict es ep/\StrKeys es/\∀name,nsFind es name=m name
noncomputable def fJ (o o':Obj):Prop:=o'=o\/((∃m,tw o m)/\∀m,tw o m->tw o' m)
theorem fJ.refl(o:Obj):fJ o o:= .inl rfl
theorem fJ.trans{a b c:Obj}(x:fJ a b)(y:fJ b c):fJ a c:=by
 rcases x with rfl|⟨hx,kx⟩
 ·exact y
 ·rcases y with rfl|⟨_,ky⟩
  ·exact .inr ⟨hx,kx⟩
  ·exact .inr ⟨hx,fun m q=>ky m (kx m q)⟩
theorem fJ.ns{a b:Obj}{m:Str->Option KC}(x:fJ a b)(h:tw a m):tw b m:=by
 rcases x with rfl|⟨_,k⟩
 ·exact h
 ·exact k m h
theorem fJ.eq{a b:Obj}(x:fJ a b)(h:∀es ep,a.data≠ .dict es ep):b=a:=by
 rcases x with rfl|⟨⟨m,es,ep,hd,_⟩,_⟩
 ·rfl
 ·exact absurd hd (h es ep)
noncomputable def cM (h h':Lw):Prop:=∀b o,h.get? b=some o->kP o->h'.get? b=some o
mutual
theorem aP.keep{W:Cx}{h h':Lw}(k:cM h h'):∀{v:ae} {x:KC},aP W h v x->aP W h' v x
 | .none,_,e=>e
 | .bool _,_,e=>e
 | .int _,_,e=>e
 | .ref _,_,e=>e
 | .tup vs,_,⟨a,xs,e,⟨o,ho,hc,n,hd⟩,r⟩=>by
   exact⟨a,xs,e,⟨_,k a o ho ⟨hc,_,n,hd⟩,hc,n,hd⟩,aJ.keep k r⟩
 | .frz vs,_,⟨a,xs,e,hl,r⟩=>⟨a,xs,e,hl,aJ.keep k r⟩
 | .str _,_,e=>e
theorem aJ.keep{W:Cx}{h h':Lw}(k:cM h h'):∀{vs:List ae} {xs:List KC},aJ W h vs xs->aJ W h' vs xs
 | [],_,e=>e
 |_::_,_,⟨y,ys,e,a,b⟩=>⟨y,ys,e,aP.keep k a,aJ.keep k b⟩
end
noncomputable def jP (W:Cx) (h:Lw) (a:Addr):cU->Prop
 | .list xs=>∃vs,h.PlainList a (LK vs)/\aJ W h xs vs
 | .dict0=>∃o es n,h.get? a=some o/\o.cls= .type "dict"/\o.data= .dict es n
 | .inst d=>∃o C,h.get? a=some o/\W.mg (Str.ofString "Estate")=some (.ref C)/\o.cls= .ref C/\o.dict=some d/\(∀c,o.data≠ .cls c)/\(∀vs,o.data≠ .fields vs)/\d≠a
 | .flds fs=>∃mA,h.Ns1 a mA/\h.ExactDictFk a/\Within mA [Str.ofString "rows",Str.ofString "held"]/\∀i v,i<2->bS fs i=some v->∃y,mA (Str.ofString (de i))=some y/\aP W h v y
theorem jP.at{W:Cx}{h h':Lw}{a:Addr}{o:cU}(r:jP W h a o)(k:∀x,h.get? a=some x->h'.get? a=some x)(kf:cM h h'):jP W h' a o:=by
 cases o with
 |list xs=>obtain⟨vs,⟨n,hn⟩,q⟩:=r;exact⟨vs,⟨n,k _ hn⟩,q.keep kf⟩
 |dict0=>obtain⟨o,es,n,hn,q⟩:=r;exact⟨o,es,n,k _ hn,q⟩
 |inst d=>obtain⟨o,C,hn,q⟩:=r;exact⟨o,C,k _ hn,q⟩
 |flds fs=>obtain⟨mA,h1,h2,h3,h4⟩:=r;exact⟨mA,h1.at k,h2.at k,h3,fun i v hi hv=>let ⟨y,a,b⟩:=h4 i v hi hv;⟨y,a,b.keep kf⟩⟩
noncomputable def iM (W:Cx) (mem:Mem) (h:Lw):Prop:=∀a o,mem a=some o->jP W h a o/\W.base.get? a=none
structure bC(W:Cx)(mem:Mem)(s:Kv):Prop where
 stays:W.base.StaysIn s.heap
 mems:iM W mem s.heap
 gens:s.gens=W.gens
 os:s.os=W.os
structure aM(D:Addr->Prop)(mem:Mem)(h:Lw)(mem':Mem)(h':Lw):Prop where
 alive:∀b,h'.get? b=none->h.get? b=none
 keep:∀b o,h.get? b=some o->mem b=none->¬D b->∃o',h'.get? b=some o'/\fJ o o'
 grow:∀b,mem b=none->mem' b≠none->h.get? b=none
theorem aM.refl{D:Addr->Prop}{mem:Mem}{h:Lw}:aM D mem h mem h:=⟨fun _ e=>e,fun _ o e _ _=>⟨o,e,.refl o⟩,fun _ a b=>absurd a b⟩
theorem aM.none'{D:Addr->Prop}{m1 m2:Mem}{h1 h2:Lw}(x:aM D m1 h1 m2 h2){b:Addr}{o:Obj}(e:h1.get? b=some o)(hm:m1 b=none):m2 b=none:=by
 cases q:m2 b with
 |none=>rfl
 |some o'=>have:=x.grow b hm (by refine rwl q ?_;simp);rw[this] at e;injection e
theorem aM.trans{D:Addr->Prop}{m1 m2 m3:Mem}{h1 h2 h3:Lw}(x:aM D m1 h1 m2 h2)(y:aM D m2 h2 m3 h3):aM D m1 h1 m3 h3 where
 alive:=fun b e=>x.alive b (y.alive b e)
 keep:=fun b o e hm hD=>by
  refine af (x.keep b o e hm hD:) fun o2 e2 a2=>?_
  refine af (y.keep b _ e2 (x.none' e hm) hD:) fun o3 e3 a3=>?_
  exact⟨o3,e3,a2.trans a3⟩
 grow:=fun b hm h3'=>by
  cases q:m2 b with
  |some o'=>exact x.grow b hm (by refine rwl q ?_;simp)
  |none=>exact x.alive b (y.grow b q h3')
theorem aM.mono{D D':Addr->Prop}{m1 m2:Mem}{h1 h2:Lw}(x:aM D m1 h1 m2 h2)(k:∀b,D b->D' b):aM D' m1 h1 m2 h2:=
 ⟨x.alive,fun b o e hm hD=>x.keep b o e hm fun q=>hD (k b q),x.grow⟩
noncomputable abbrev fb:Addr->Prop:=fun _=>False
theorem jq{h h':Lw}(k:∀b o,h.get? b=some o->h'.get? b=some o)(b:Addr)(e:h'.get? b=none):h.get? b=none:=by
 cases q:h.get? b with
 |none=>rfl
 |some o=>rw[k b o q] at e;injection e
theorem aM.of_keeps{D:Addr->Prop}{mem:Mem}{h h':Lw}(k:∀b o,h.get? b=some o->h'.get? b=some o):aM D mem h mem h':=
 ⟨jq k,fun b o e _ _=>⟨o,k b o e,.refl o⟩,fun _ a b=>absurd a b⟩
theorem jP.notFixed{W:Cx}{h:Lw}{b:Addr}{a:cU}{o:Obj}(r:jP W h b a)(e:h.get? b=some o):¬kP o:=by
 rintro ⟨hf,_⟩
 cases a with
 |list xs=>obtain⟨vs,⟨n,hn⟩,_⟩:=r;rw[e] at hn;(injection hn with hn;cases hn);simp at hf
 |dict0=>obtain⟨o,es,n,hn,hc,_⟩:=r;rw[e] at hn;(injection hn with hn;cases hn);rw[hf] at hc;exact absurd hc (by simp)
 |inst d=>obtain⟨o,C,hn,_,hc,_⟩:=r;rw[e] at hn;(injection hn with hn;cases hn);rw[hf] at hc;exact absurd hc (by simp)
 |flds fs=>obtain⟨mA,_,⟨o,hn,hc,_⟩,_⟩:=r;rw[e] at hn;(injection hn with hn;cases hn);rw[hf] at hc;exact absurd hc (by simp)
theorem iM.notFixed{W:Cx}{mem:Mem}{h:Lw}(M:iM W mem h){b:Addr}{o:Obj}(e:h.get? b=some o)(hf:kP o):mem b=none:=by
 cases q:mem b with
 |none=>rfl
 |some a=>exact absurd hf ((M b a q).1.notFixed e)
noncomputable def Hj (D:Addr->Prop) (h:Lw):Prop:=∀b o,D b->h.get? b=some o->¬kP o
theorem kP.notDict{o:Obj}(h:kP o):∀es ep,o.data≠ .dict es ep:=fun es ep q=>by obtain⟨_,xs,n,hd⟩:=h;rw[hd] at q;injection q
theorem aM.keepF{W:Cx}{D:Addr->Prop}{mem mem':Mem}{h h':Lw}(x:aM D mem h mem' h')(M:iM W mem h)(hD:Hj D h):cM h h':=
 fun b o e hf=>by
  refine af (x.keep b o e (M.notFixed e hf) fun d=>hD b o d e hf:) fun o' e' a=>?_
  exact rwl e' (rwl (a.eq hf.notDict) rfl)
theorem cM.of_keeps{h h':Lw}(k:∀b o,h.get? b=some o->h'.get? b=some o):cM h h':=fun b o e _=>k b o e
theorem jP.of_keeps{W:Cx}{h h':Lw}(k:∀b o,h.get? b=some o->h'.get? b=some o){a:Addr}{o:cU}(r:jP W h a o):jP W h' a o:=r.at (k a) (.of_keeps k)
theorem iM.of_keeps{W:Cx}{mem:Mem}{h h':Lw}(M:iM W mem h)(k:∀b o,h.get? b=some o->h'.get? b=some o):iM W mem h':=
 fun a o e=>⟨(M a o e).1.of_keeps k,(M a o e).2⟩
theorem jP.there{W:Cx}{h:Lw}{b:Addr}{a:cU}(r:jP W h b a):∃o,h.get? b=some o:=by
 cases a with
 |list xs=>obtain⟨vs,⟨n,hn⟩,_⟩:=r;exact⟨_,hn⟩
 |dict0=>obtain⟨o,es,n,hn,_⟩:=r;exact⟨_,hn⟩
 |inst d=>obtain⟨o,C,hn,_⟩:=r;exact⟨_,hn⟩
 |flds fs=>obtain⟨mA,_,⟨o,hn,_⟩,_⟩:=r;exact⟨_,hn⟩
theorem iM.fresh{W:Cx}{mem:Mem}{h:Lw}(M:iM W mem h){a:Addr}(ha:h.get? a=none):mem a=none:=by
 cases q:mem a with
 |none=>rfl
 |some o=>obtain⟨o',e⟩:=(M a o q).1.there;rw[ha] at e;injection e
theorem bC.of_keeps{W:Cx}{mem:Mem}{s s':Kv}(M:bC W mem s)(k:∀b o,s.heap.get? b=some o->s'.heap.get? b=some o)(hg:s'.gens=s.gens:=by rfl)(ho:s'.os=s.os:=by rfl):bC W mem s':=
 ⟨fun b x e=>k _ _ (M.stays b x e),M.mems.of_keeps k,hg.trans M.gens,ho.trans M.os⟩
theorem bC.upd{W:Cx}{mem:Mem}{s s':Kv}(M:bC W mem s){a:Addr}{o o₀:cU}(ha:mem a=some o₀)(hs:Heap.SameBut a s.heap s'.heap)
  (r:cM s.heap s'.heap->jP W s'.heap a o) (hg:s'.gens=s.gens:=by rfl) (ho:s'.os=s.os:=by rfl):bC W (mem.set a o) s':=by
 have hb:=(M.mems a o₀ ha)
 have kf:cM s.heap s'.heap:=fun b x e hf=>by
  by_cases hba:b=a
  ·subst hba;exact absurd hf (hb.1.notFixed e)
  ·refine rwl (hs.2 b hba) ?_;exact e
 refine⟨fun b x e=>?_,fun b x e=>?_,hg.trans M.gens,ho.trans M.os⟩
 ·by_cases hba:b=a
  ·subst hba;rw[hb.2] at e;injection e
  ·refine rwl (hs.2 b hba) ?_;exact M.stays b x e
 ·unfold Mem.set at e
  split at e
  ·rename_i q;subst q;cases e;exact⟨r kf,hb.2⟩
  ·rename_i q
   refine aq (M.mems b x e:) fun r' n'=>?_
   exact⟨r'.at (fun _ e=>(hs.2 b q).trans e) kf,n'⟩
theorem aM.upd{D:Addr->Prop}{mem:Mem}{h h':Lw}{a:Addr}{o o₀:cU}(ha:mem a=some o₀)(hs:Heap.SameBut a h h')(hl:h'.get? a≠none):aM D mem h (mem.set a o) h':=
 ⟨fun b e=>by
  by_cases hb:b=a
  ·subst hb;exact absurd e hl
  ·refine rwb (hs.2 b hb) ?_;exact e,fun b x e hm _=>⟨x,by
  have hb:b≠a:=by rintro rfl;rw[ha] at hm;injection hm
  refine rwl (hs.2 b hb) ?_;exact e,.refl x⟩,fun b hm h'=>by
  unfold Mem.set at h'
  split at h'
  ·rename_i hb;subst hb;rw[ha] at hm;injection hm
  ·exact absurd hm h'⟩
structure jg(W:Cx)(env:Env)(vis:List (Nat×Str))(loc:aL)(h:Lw):Prop where
 kind:env.scope.kind= .function
 glob:env.globals=mainGlobals
 blt:env.builtins=builtinsNs
 ns:∃m,h.Ns env.locals m/\∀i x v,(i,x)∈vis->bS loc i=some v->env.kindOf x=some .local->∃y,m x=some y/\aP W h v y
 cell:∀i x v k,(i,x)∈vis->bS loc i=some v->env.kindOf x=some k->k= .cell\/k= .free->∃c y,env.cells.lookup x=some c/\h.IsCell c (some y)/\aP W h v y
 cellk:∀x k,env.kindOf x=some k->k= .cell\/k= .free->∃c,env.cells.lookup x=some c
 cells:∀x c,env.cells.lookup x=some c->∃o,h.IsCell c o
 apart:∀x y c,env.cells.lookup x=some c->env.cells.lookup y=some c->x=y
noncomputable def gk (env:Env) (b:Addr):Prop:=b=env.locals\/∃x,env.cells.lookup x=some b
theorem jg.there{W:Cx}{env:Env}{vis:List (Nat×Str)}{loc:aL}{h:Lw}(R:jg W env vis loc h){b:Addr}(hb:gk env b):∃o,h.get? b=some o/\((∃es n,o.data= .dict es n)\/∃v,o.data= .cell v):=by
 rcases hb with rfl|⟨x,hx⟩
 ·refine af R.ns fun m w4r0_1 _=>?_
  refine iU w4r0_1 ?_;clear w4r0_1;intro o es ep e hd _
  exact⟨o,e,.inl ⟨es,ep,hd⟩⟩
 ·refine cG (R.cells x b hx:) fun o o' e hd=>?_
  exact⟨o',e,.inr ⟨o,hd⟩⟩
theorem jg.dok{W:Cx}{env:Env}{vis:List (Nat×Str)}{loc:aL}{h:Lw}(R:jg W env vis loc h):Hj (gk env) h:=fun b o hb e hf=>by
 refine af (R.there hb:) fun o' e' hd=>?_
 rw[e] at e';(injection e' with e';cases e')
 obtain⟨_,xs,n,hx⟩:=hf
 rcases hd with ⟨es,n',hd⟩|⟨v,hd⟩<;>rw[hx] at hd<;>injection hd
theorem Hj.none{h:Lw}:Hj fb h:=fun _ _ hb=>hb.elim
theorem jg.keep{W:Cx}{env:Env}{vis:List (Nat×Str)}{loc:aL}{h h':Lw}(R:jg W env vis loc h)(k:cM h h')
  (kd:∀b o,gk env b->h.get? b=some o->∃o',h'.get? b=some o'/\fJ o o'):jg W env vis loc h':=by
 have kc:∀x c v,env.cells.lookup x=some c->h.IsCell c v->h'.IsCell c v:=fun x c v hx ⟨o,e,hd⟩=>by
  refine af (kd c o (.inr ⟨x,hx⟩) e:) fun o' e' hd'=>?_
  rw[hd'.eq fun es ep q=>by rw[hd] at q;cases q] at e'
  exact⟨o,e',hd⟩
 refine⟨R.kind,R.glob,R.blt,?_,fun i x v k' h1 h2 h3 h4=>?_,R.cellk,fun x c hx=>?_,R.apart⟩
 ·refine af R.ns fun m w9r0_1 q=>?_
  refine iU w9r0_1 ?_;clear w9r0_1;intro o es ep e hd r
  refine af (kd _ o (.inl rfl) e:) fun o' e' hd'=>?_
  refine zi (hd'.ns ⟨es,ep,hd,r⟩:) fun es' ep' r'=>?_
  exact⟨m,⟨o',es',ep',e',r'⟩,fun i x v h1 h2 h3=>let ⟨y,a,b⟩:=q i x v h1 h2 h3;⟨y,a,b.keep k⟩⟩
 ·refine bB (R.cell i x v k' h1 h2 h3 h4:) fun c y a b d=>?_
  exact⟨c,y,a,kc x c _ a b,d.keep k⟩
 ·refine aO (R.cells x c hx:) fun o ho=>?_
  exact⟨o,kc x c _ hx ho⟩
structure bx(W:Cx)(env:Env)(vis:List (Nat×Str))(loc:aL)(mem:Mem)(s:Kv):Prop where
 m:bC W mem s
 e:jg W env vis loc s.heap
 sep:∀b,gk env b->mem b=none
 new:∀b,gk env b->W.base.get? b=none
theorem bx.step{W:Cx}{env:Env}{vis:List (Nat×Str)}{loc:aL}{mem mem':Mem}{s s':Kv}(R:bx W env vis loc mem s)(M:bC W mem' s')(x:aM fb mem s.heap mem' s'.heap):bx W env vis loc mem' s' where
 m:=M
 e:=R.e.keep (x.keepF R.m.mems .none) fun b o hb e=>let ⟨o',e',a⟩:=x.keep b o e (R.sep b hb) id;⟨o',e',a⟩
 sep:=fun b hb=>let ⟨_,e,_⟩:=R.e.there hb;x.none' e (R.sep b hb)
 new:=R.new
noncomputable def l6 (h:Lw) (L:Addr):Lw:=⟨(h.objs.toList.take L).toArray,h.life⟩
theorem p3{h:Lw}{L b:Addr}(hb:b<L):(l6 h L).get? b=h.get? b:=by
 unfold Heap.get? l6
 simp only[MD]
 refine rwl (L7 hb) ?_
 simp
theorem n0{h:Lw}{L b:Addr}(hb:L<=b):(l6 h L).get? b=none:=by
 unfold Heap.get? l6
 simp only[MD]
 have hb': @LE.le Nat _ L b:=hb
 exact rwl (Lu (by simp only[Le];exact HH hb')) rfl
noncomputable def rh (h:Lw) (L:Addr):List (Addr×Obj):=(Kt h.objs.size).filterMap fun b=>if L<b then (h.get? b).map fun o=>(b,o) else none
theorem nv{h:Lw}{L b:Addr}{o:Obj}:(b,o)∈rh h L↔L<b/\h.get? b=some o:=by
 unfold rh
 rw[Ml]
 constructor
 ·rintro ⟨c,hc,e⟩
  split at e
  ·rename_i hl
   refine af (KD.mp e:) fun o' ho e'=>?_
   cases e';exact⟨hl,ho⟩
  ·injection e
 ·rintro ⟨hl,ho⟩
  exact⟨b,KS.mpr (Heap.lt_size ho),by refine rwl (if_pos hl) (rwl ho ?_);rfl⟩
theorem rU{h:Lw}{L:Addr}{m:Str->Option KC}(hn:h.Ns L m):Fr (l6 h L) L h m/\News (l6 h L) L h (rh h L):=by
 refine⟨⟨hn,fun b o e=>?_,?_⟩,fun p hp=>?_⟩
 ·by_cases hb:b<L
  ·rw[p3 hb] at e;exact e
  ·rw[n0 (Lg hb)] at e;injection e
 ·refine(?_:(h.objs.toList.take L).toArray.size<=L)
  simp only[KJ,Le];exact LP _ _
 ·obtain⟨b,o⟩:=p
  refine aq (nv.mp hp:) fun hl ho=>?_
  exact⟨ho,MB hl,n0 (KN hl)⟩
structure bV(L:Addr)(h h':Lw):Prop where
 keep:∀b o,b≠L->h.get? b=some o->h'.get? b=some o
 ns:∀m,h.Ns L m->h'.Ns L m
theorem bV.of_fr{h h':Lw}{L:Addr}{m:Str->Option KC}(hn:h.Ns L m){news:List (Addr×Obj)}(F:Fr (l6 h L) L h' m)(N:News (l6 h L) L h' news)(hs:∀p∈rh h L,p∈news):bV L h h' where
 keep:=fun b o hb e=>by
  rcases Nat.lt_or_gt_of_ne hb with q|q
  ·exact F.keep b o (by refine rwl (p3 q) ?_;exact e)
  ·exact(N (b,o) (hs _ (nv.mpr ⟨q,e⟩))).1
 ns:=fun m' hn'=>by
  refine gf hn ?_;clear hn;intro o es ep e hd hk hf
  refine gf hn' ?_;clear hn';intro o' es' ep' e' hd' hk' hf'
  rw[e] at e';cases e';rw[hd] at hd';cases hd'
  have:m'=m:=funext fun x=>(hf' x).symm.trans (hf x)
  subst this;exact F.ns
theorem bV.of_keeps{L:Addr}{h h':Lw}(k:∀b o,h.get? b=some o->h'.get? b=some o):bV L h h':=⟨fun b o _ e=>k b o e,fun _ hn=>hn.keeps k⟩
theorem bV.alike{L:Addr}{h h':Lw}(k:bV L h h')(hL:∃m,h.Ns L m)(b:Addr)(o:Obj)(e:h.get? b=some o):∃o',h'.get? b=some o'/\fJ o o':=by
 by_cases hb:b=L
 ·subst hb
  refine aO hL ?_;clear hL;intro m hn
  refine mT (k.ns m hn:) fun o' es ep e' r=>?_
  refine⟨o',e',.inr ⟨⟨m,?_⟩,fun m' q=>?_⟩⟩
  ·obtain⟨o2,es2,ep2,e2,r2⟩:=hn;rw[e] at e2;cases e2;exact⟨es2,ep2,r2⟩
  ·refine zi q ?_;clear q;intro es3 ep3 r3
   refine mT (k.ns m' ⟨o,es3,ep3,e,r3⟩:) fun o4 es4 ep4 e4 r4=>?_
   rw[e'] at e4;cases e4;exact⟨es4,ep4,r4⟩
 ·exact⟨o,k.keep b o hb e,.refl o⟩
theorem bx.hasNs{W:Cx}{env:Env}{vis:List (Nat×Str)}{loc:aL}{mem:Mem}{s:Kv}(R:bx W env vis loc mem s):∃m,s.heap.Ns env.locals m:=let ⟨m,h,_⟩:=R.e.ns;⟨m,h⟩
theorem bx.keepF{W:Cx}{env:Env}{vis:List (Nat×Str)}{loc:aL}{mem:Mem}{s:Kv}(R:bx W env vis loc mem s){h':Lw}(k:bV env.locals s.heap h'):cM s.heap h':=fun b o e hf=>by
 refine af (k.alike R.hasNs b o e:) fun o' e' a=>?_
 exact rwl e' (rwl (a.eq hf.notDict) rfl)
theorem bx.keepM{W:Cx}{env:Env}{vis:List (Nat×Str)}{loc:aL}{mem:Mem}{s s':Kv}(R:bx W env vis loc mem s)(k:bV env.locals s.heap s'.heap)(hg:s'.gens=s.gens:=by rfl)(ho:s'.os=s.os:=by rfl):bC W mem s' where
 stays:=fun b x e=>k.keep b x (by rintro rfl;rw[R.new _ (.inl rfl)] at e;injection e) (R.m.stays b x e)
 mems:=fun b x e=>by
  refine aq (R.m.mems b x e:) fun r n=>?_
  have hb:b≠env.locals:=by rintro rfl;rw[R.sep _ (.inl rfl)] at e;injection e
  exact⟨r.at (fun x e=>k.keep _ _ hb e) (R.keepF k),n⟩
 gens:=hg.trans R.m.gens
 os:=ho.trans R.m.os
theorem bx.keepS{W:Cx}{env:Env}{vis:List (Nat×Str)}{loc:aL}{mem:Mem}{s:Kv}{h':Lw}(R:bx W env vis loc mem s)(k:bV env.locals s.heap h'):aM fb mem s.heap mem h' where
 alive:=fun b e=>by
  cases q:s.heap.get? b with
  |none=>rfl
  |some o=>obtain⟨o',e',_⟩:=k.alike R.hasNs b o q;rw[e] at e';injection e'
 keep:=fun b o e _ _=>k.alike R.hasNs b o e
 grow:=fun _ a b=>absurd a b
theorem bx.allocM{W:Cx}{env:Env}{vis:List (Nat×Str)}{loc:aL}{mem:Mem}{s s':Kv}(R:bx W env vis loc mem s)(k:bV env.locals s.heap s'.heap){a:Addr}{o:cU}(ha:s.heap.get? a=none)
  (r:cM s.heap s'.heap->jP W s'.heap a o) (hg:s'.gens=s.gens:=by rfl) (ho:s'.os=s.os:=by rfl):bC W (mem.set a o) s':=by
 have M:=R.keepM k hg ho
 refine⟨M.stays,fun b x e=>?_,M.gens,M.os⟩
 unfold Mem.set at e
 split at e
 ·rename_i hb;subst hb;cases e
  refine⟨r (R.keepF k),?_⟩
  cases q:W.base.get? b with
  |none=>rfl
  |some y=>rw[R.m.stays b y q] at ha;injection ha
 ·exact M.mems b x e
theorem bx.allocS{W:Cx}{env:Env}{vis:List (Nat×Str)}{loc:aL}{mem:Mem}{s:Kv}{h':Lw}(R:bx W env vis loc mem s)(k:bV env.locals s.heap h'){a:Addr}{o:cU}(ha:s.heap.get? a=none):aM fb mem s.heap (mem.set a o) h':=by
 have S:=R.keepS k
 refine⟨S.alive,S.keep,fun b hm h'=>?_⟩
 unfold Mem.set at h'
 split at h'
 ·rename_i hb;subst hb;exact ha
 ·exact absurd hm h'
end TD.Internal
namespace TD.Internal
open PySem PyProof.Rows PySem.W
structure z1(h0:Lw)(cls:KC)(a:Addr)(h:Lw):Prop where
 new:h0.get? a=none
 obj:∃oe vs a0,h.get? a=some oe/\oe.cls=cls/\oe.data= .fields vs/\vs[0]? =some a0/\vs[2]? =some .none/\
  (vs[1]? =some .none\/∃T oT ts,h0.get? T=none/\vs[1]? =some (.ref T)/\T≠a/\h.get? T=some oT/\oT.data= .fields ts/\ts[3]? =some .none)
theorem z1.back{h0 h1 h:Lw}{cls:KC}{a:Addr}(x:z1 h1 cls a h)(k:∀b,h1.get? b=none->h0.get? b=none):z1 h0 cls a h:=by
 obtain⟨n,oe,vs,a0,e1,e2,e3,e4,e5,q⟩:=x
 refine⟨k _ n,oe,vs,a0,e1,e2,e3,e4,e5,?_⟩
 rcases q with q|⟨T,oT,ts,q1,q⟩
 ·exact .inl q
 ·exact .inr ⟨T,oT,ts,k _ q1,q⟩
noncomputable def dm (base:Lw) (fs:List Env) (mem:Mem) (h:Lw):Prop:=
 ∀env∈fs,env.scope.kind= .function/\env.frame=some env.locals/\base.get? env.locals=none/\mem env.locals=none/\∃m,h.Ns env.locals m
noncomputable def Ag (fs:List Env):List Addr:=fs.filterMap (·.frame)
theorem dm.mem{base:Lw}{fs:List Env}{mem:Mem}{h:Lw}(F:dm base fs mem h){b:Addr}(hb:b∈Ag fs):base.get? b=none/\mem b=none/\∃m,h.Ns b m:=by
 refine af (Ml.mp hb:) fun env he hf=>?_
 refine IB (F env he:) fun _ h2 h3 h4 h5=>?_
 rw[h2] at hf
 cases hf
 exact⟨h3,h4,h5⟩
theorem dm.funs{base B:Lw}{mem:Mem}{h:Lw}:∀{fs:List Env},dm base fs mem h->(∀b∈Ag fs,B.get? b=none)->h.FunFrames B fs
 | [],_,_=>trivial
 |env::r,F,k=>by
  obtain⟨h1,h2,h3,h4,m,hn⟩:=F env (.head _)
  refine Heap.FunFrames.cons (by refine rwl h1 ?_;decide) h2 hn (k _ ?_) (dm.funs (fun e he=>F e (.tail _ he)) fun b hb=>k b ?_)
  ·exact Ml.mpr ⟨env,.head _,h2⟩
  ·refine af (Ml.mp hb:) fun e he hf=>?_
   exact Ml.mpr ⟨e,.tail _ he,hf⟩
theorem yb{h:Lw}{b:Addr}{o:Obj}{m:Str->Option KC}(hn:h.Ns b m)(e:h.get? b=some o)(sl:Array (Option KC)):fJ o {o with slots:=sl}:=by
 refine iU hn ?_;clear hn;intro o' es ep e' hd r
 rw[e] at e'
 cases e'
 exact .inr ⟨⟨m,es,ep,hd,r⟩,fun m' ⟨es',ep',hd',r'⟩=>⟨es',ep',hd',r'⟩⟩
theorem fN{h:Lw}{b:Addr}{o:Obj}{m:Str->Option KC}(hn:h.Ns b m)(e:h.get? b=some o):∀vs,o.data≠ .fields vs:=fun vs q=>by
 refine iU hn ?_;clear hn;intro o' es ep e' hd r
 rw[e] at e'
 (injection e' with e';cases e')
 rw[hd] at q
 injection q
structure gi(fs:List Env)(h0 h h':Lw):Prop where
 same:∀b o,h.get? b=some o->((∀vs,o.data≠ .fields vs)\/h0.get? b≠none)->b∉Ag fs->h'.get? b=some o
 fr:∀b o,h.get? b=some o->b∈Ag fs->∃o',h'.get? b=some o'/\fJ o o'
theorem gi.alike{fs:List Env}{h0 h h':Lw}(K:gi fs h0 h h'){b:Addr}{o:Obj}(e:h.get? b=some o)(k:(∀vs,o.data≠ .fields vs)\/h0.get? b≠none):∃o',h'.get? b=some o'/\fJ o o':=by
 by_cases hb:b∈Ag fs
 ·exact K.fr b o e hb
 ·exact⟨o,K.same b o e k hb,.refl o⟩
theorem dm.kept{base:Lw}{fs gs:List Env}{mem:Mem}{h0 h h':Lw}(F:dm base fs mem h)(K:gi gs h0 h h'):dm base fs mem h':=fun env he=>by
 obtain⟨h1,h2,h3,h4,m,hn⟩:=F env he
 refine⟨h1,h2,h3,h4,m,?_⟩
 refine mT hn ?_;clear hn;intro o es ep e r
 refine af (K.alike e (.inl (fN ⟨o,es,ep,e,r⟩ e)):) fun o' e' a=>?_
 refine zi (a.ns ⟨es,ep,r⟩:) fun es' ep' r'=>?_
 exact⟨o',es',ep',e',r'⟩
theorem aM.kept{D:Addr->Prop}{mem m':Mem}{h0 h h':Lw}{fs:List Env}(S:aM D mem h0 m' h)(K:gi fs h0 h h'):aM D mem h0 m' h':=by
 refine⟨fun b e=>?_,fun b o e hm hD=>?_,S.grow⟩
 ·cases q:h0.get? b with
  |none=>rfl
  |some o=>
   exfalso
   cases q1:h.get? b with
   |none=>rw[S.alive b q1] at q;injection q
   |some o1=>
    refine af (K.alike q1 (.inr (by refine rwl q ?_;exact fun z=>nomatch z)):) fun o' e' _=>?_
    rw[e] at e';injection e'
 ·refine af (S.keep b o e hm hD:) fun o1 e1 a1=>?_
  refine af (K.alike e1 (.inr (by refine rwl e ?_;exact fun z=>nomatch z)):) fun o2 e2 a2=>?_
  exact⟨o2,e2,a1.trans a2⟩
theorem jP.notFields{W:Cx}{h:Lw}{b:Addr}{o:cU}{x:Obj}(r:jP W h b o)(e:h.get? b=some x):∀vs,x.data≠ .fields vs:=by
 cases o with
 |list xs=>obtain⟨vs,⟨n,hn⟩,_⟩:=r;rw[e] at hn;cases hn;exact fun _ q=>nomatch q
 |dict0=>obtain⟨o,es,n,hn,_,hd⟩:=r;rw[e] at hn;cases hn;exact fun _ q=>by rw[hd] at q;injection q
 |inst d=>obtain⟨o,C,hn,_,_,_,_,hd,_⟩:=r;rw[e] at hn;cases hn;exact hd
 |flds fs=>obtain⟨mA,⟨o,es,ep,hn,hd,_⟩,_⟩:=r;rw[e] at hn;cases hn;exact fun _ q=>by rw[hd] at q;injection q
theorem bC.kept{W:Cx}{m':Mem}{s:Kv}{h0 h':Lw}{fs:List Env}(M:bC W m' s)(K:gi fs h0 s.heap h')(F:dm W.base fs m' s.heap)(hb:W.base.StaysIn h0):bC W m' {s with heap:=h'}:=by
 have kf:cM s.heap h':=fun b o e hf=>by
  have hd:∀vs,o.data≠ .fields vs:=fun vs q=>by obtain⟨_,xs,n,hx⟩:=hf;rw[hx] at q;injection q
  refine af (K.alike e (.inl hd):) fun o' e' a=>?_
  exact rwl e' (rwl (a.eq hf.notDict) rfl)
 refine⟨fun b o e=>?_,fun b o e=>?_,M.gens,M.os⟩
 ·exact K.same b o (M.stays b o e) (.inr (by refine rwl (hb b o e) ?_;exact fun z=>nomatch z)) fun q=>by rw[(F.mem q).1] at e;injection e
 ·refine aq (M.mems b o e:) fun r n=>?_
  refine⟨r.at (fun x hx=>K.same b x hx (.inl (r.notFields hx)) fun q=>by rw[(F.mem q).2.1] at e;injection e) kf,n⟩
end TD.Internal
namespace TD.Internal
open PySem PyProof.Rows PySem.W
theorem gi.trans{fs:List Env}{h0 h h1 h2:Lw}(x:gi fs h0 h h1)(y:gi fs h0 h1 h2):gi fs h0 h h2:=by
 refine⟨fun b o e k hb=>y.same b o (x.same b o e k hb) k hb,fun b o e hb=>?_⟩
 refine af (x.fr b o e hb:) fun o1 e1 a1=>?_
 refine af (y.fr b o1 e1 hb:) fun o2 e2 a2=>?_
 exact⟨o2,e2,a1.trans a2⟩
structure lR(h0:Lw)(cls:KC)(a:Addr)(fl:KC)(h:Lw):Prop where
 new:h0.get? a=none
 obj:∃oe vs a0 T oT ts,h.get? a=some oe/\oe.cls=cls/\oe.data= .fields vs/\vs[0]? =some a0/\vs[2]? =some .none/\h0.get? T=none/\vs[1]? =some (.ref T)/\T≠a/\h.get? T=some oT/\oT.data= .fields ts/\ts[3]? =some fl
theorem lR.exc{h0 h:Lw}{cls:KC}{a:Addr}(x:lR h0 cls a .none h):z1 h0 cls a h:=by
 obtain⟨n,oe,vs,a0,T,oT,ts,e1,e2,e3,e4,e5,q⟩:=x
 exact⟨n,oe,vs,a0,e1,e2,e3,e4,e5,.inr ⟨T,oT,ts,q⟩⟩
section
variable{M:Model}{A:Around}{E:KC->Kv->Prop}{s:Kv}{base h0:Lw}{env:Env}{outer:List Env}{mem:Mem}{a:Addr}{cls:KC}{Q:Unit->Kv->Prop}
theorem gi.al{fs:List Env}{h h':Lw}(K:gi fs h0 h h')(al:∀b,h.get? b=none->h0.get? b=none):∀b,h'.get? b=none->h0.get? b=none:=fun b e=>by
 cases q:h0.get? b with
 |none=>rfl
 |some o=>
  exfalso
  cases q1:h.get? b with
  |none=>rw[al b q1] at q;injection q
  |some o1=>
   refine af (K.alike q1 (.inr (by refine rwl q ?_;exact fun z=>nomatch z)):) fun o' e' _=>?_
   rw[e] at e';injection e'
theorem qo{oe:Obj}{vs:Array KC}{a0 head:KC}{hadNext:Bool}(hfr:A.frames=some (env::outer))(F:dm base (env::outer) mem s.heap)(hnew:h0.get? a=none)(al:∀b,s.heap.get? b=none->h0.get? b=none)
  (he:s.heap.get? a=some oe) (hd:oe.data= .fields vs) (hsz:1<vs.size) (h0':vs[0]? =some a0) (h2':vs[2]? =some .none)
  (hQ:∀h',lR h0 oe.cls a (rawInt env.locals) h'->gi (env::outer) h0 s.heap h'->Q () {s with heap:=h'}):
  KP M A (do let x<-frameOf env;let pl<-entryPlaceOf env.locals hadNext;let b<-EntryCells.newEntry head x .none (rawInt env.locals) .none pl;setField (.ref a) 1 b) Q E s:=by
 have hf:=(F env (.head _)).2.1
 have hF:=F.funs (B:=hideAll s.heap ([a]++Ag (env::outer))) fun b hb=>hideAll_none _ (KO _ hb)
 have hna:a∉Ag (env::outer):=fun hm=>by
  obtain⟨_,_,m,hn⟩:=F.mem hm
  exact fN hn he vs hd
 refine Kx (wpAny_frameOf_fun hfr hF hf fun h1 hs=>?_)
 refine Kx (wpAny_entryPlaceOf fun pl hpl=>?_)
 unfold EntryCells.newEntry newFields
 refine Kx (wpAny_newObj_type ?_ (hpl.sizeOk5 _ _ _ _ _))
 have e1:h1.get? a=some oe:=(hs.2.1 a hna).trans he
 generalize hob:({cls:= .type "traceback",dict:=none,data:= .fields ([head,.ref env.locals,.none,rawInt env.locals,.none]++(if pl.isEmpty then Kk 6 Value.none else pl)).toArray}:Obj)=ob
 have hnF:ob.isFreed=false:=by subst hob;rfl
 have e2:=Heap.get?_push_of_some (h:=h1) ob e1
 refine wpAny_setField e2 hd hsz (hQ _ ?_ ?_)
 ·have hT:h1.objs.size≠a:=MB (Heap.lt_size e1)
  have hd3:=Obj.data_mapFields hd (·.setIfInBounds 1 (Value.ref h1.objs.size))
  refine⟨hnew,_,_,a0,h1.objs.size,ob,([head,.ref env.locals,.none,rawInt env.locals,.none]++(if pl.isEmpty then Kk 6 Value.none else pl)).toArray,Heap.get?_update_self _ e2 (Obj.isFreed_of_fields hd3),Obj.cls_mapFields _ _,hd3,?_,?_,?_,by simp [hsz],hT,?_,?_,?_⟩
  ·refine rwl (Array.getElem?_setIfInBounds_ne (by decide)) ?_;exact h0'
  ·refine rwl (Array.getElem?_setIfInBounds_ne (by decide)) ?_;exact h2'
  ·refine al _ ?_
   exact hs.1▸Heap.get?_none_of_le (Lk _)
  ·refine rwl (Heap.get?_update_other _ _ (Ne.symm hT)) ?_
   exact Heap.get?_push_size h1 hnF
  ·exact rwb hob rfl
  ·first|(simp;done)|(rcases hpl with rfl|⟨_,_,_,_,_,_,_,rfl⟩<;>simp)
 ·have keep:∀b o,b≠a->h1.get? b=some o->((h1.push ob).update a (Obj.mapFields (·.setIfInBounds 1 (Value.ref h1.objs.size)))).get? b=some o:=fun b o hb e=>by
   refine rwl (Heap.get?_update_other _ _ (Ne.symm hb)) ?_
   exact Heap.get?_push_of_some _ e
  refine⟨fun b o e hk hb=>keep b o ?_ ((hs.2.1 b hb).trans e),fun b o e hb=>?_⟩
  ·rintro rfl
   rw[he] at e;(injection e with e;cases e)
   exact hk.elim (fun q=>q vs hd) fun q=>q hnew
  ·obtain⟨_,_,m,hn⟩:=F.mem hb
   refine aO (hs.2.2 b o e:) fun sl h3=>?_
   exact⟨_,keep b _ (fun q=>hna (q▸hb)) h3,yb hn e sl⟩
theorem AV{fs:List Env}{fl:KC}{f:Option Addr}(F:dm base fs mem s.heap)(X:lR h0 cls a fl s.heap)(al:∀b,s.heap.get? b=none->h0.get? b=none)
  (hQ:∀h',lR h0 cls a (f.elim .none fun f=>rawInt f) h'->gi fs h0 s.heap h'->Q () {s with heap:=h'}):KP M A (setFlight (.ref a) f) Q E s:=by
 obtain⟨hnew,oe,vs,a0,T,oT,ts,he,hcls,hd,h0',h2',hnT,h1,hTe,hT,hdT,h3⟩:=X
 have hsz3:3<ts.size:=(Array.getElem?_eq_some_iff.mp h3).1
 have other:∀b,b≠T->(s.heap.update T (Obj.mapFields (·.setIfInBounds 3 (f.elim Value.none fun f=>rawInt f)))).get? b=s.heap.get? b:=fun b hb=>Heap.get?_update_other _ _ (Ne.symm hb)
 unfold setFlight
 refine Kx (wpAny_field he hd h1 ?_)
 refine rwl (if_pos (by simp:(Value.ref T !=Value.none)=true)) ?_
 refine wpAny_setField hT hdT hsz3 (hQ _ ⟨hnew,oe,vs,a0,T,_,_,(other a (Ne.symm hTe)).trans he,hcls,hd,h0',h2',hnT,h1,hTe,Heap.get?_update_self _ hT (Obj.isFreed_of_fields (Obj.data_mapFields hdT _)),Obj.data_mapFields hdT _,by simp [hsz3]⟩ ⟨fun b o e hk hb=>?_,fun b o e hb=>?_⟩)
 ·have hbT:b≠T:=by
   rintro rfl
   rw[hT] at e;(injection e with e;cases e)
   rcases hk with hk|hk
   ·exact hk ts hdT
   ·exact hk hnT
  exact(other b hbT).trans e
 ·obtain⟨_,_,m,hn⟩:=F.mem hb
  have hbT:b≠T:=by
   rintro rfl
   rw[hT] at e;(injection e with e;cases e)
   exact fN hn hT ts hdT
  exact⟨o,(other b hbT).trans e,.refl o⟩
theorem w4{fl:KC}(hfr:A.frames=some (env::outer))(F:dm base (env::outer) mem s.heap)(X:lR h0 cls a fl s.heap)(al:∀b,s.heap.get? b=none->h0.get? b=none)
  (hQ:∀h',lR h0 cls a (rawInt env.locals) h'->gi (env::outer) h0 s.heap h'->Q () {s with heap:=h'}):KP M A (noteFrame (.ref a) env) Q E s:=by
 obtain⟨hnew,oe,vs,a0,T,oT,ts,he,hcls,hd,h0',h2',hnT,h1,hTe,hT,hdT,h3⟩:=id X
 have hf:=(F env (.head _)).2.1
 subst hcls
 unfold noteFrame
 simp only[hf]
 refine Kx (wpAny_field he hd h1 ?_)
 refine rwl (if_pos (by simp:(Value.ref T !=Value.none)=true)) ?_
 refine Kx (wpAny_field hT hdT h3 ?_)
 by_cases hfl:(fl==rawInt env.locals)=true
 ·refine rwl (if_pos hfl) ?_
  refine KV (hQ s.heap ?_ ⟨fun b o e _ _=>e,fun b o e _=>⟨o,e,.refl o⟩⟩)
  refine rwb (eq_of_beq hfl) ?_;exact X
 ·refine rwl (if_neg hfl) ?_
  refine Kx (wpAny_setField hT hdT (Array.getElem?_eq_some_iff.mp h3).1 ?_)
  have other:∀b,b≠T->(s.heap.update T (Obj.mapFields (·.setIfInBounds 3 Value.none))).get? b=s.heap.get? b:=fun b hb=>Heap.get?_update_other _ _ (Ne.symm hb)
  have K:gi (env::outer) h0 s.heap (s.heap.update T (Obj.mapFields (·.setIfInBounds 3 Value.none))):=by
   refine⟨fun b o e hk hb=>(other b ?_).trans e,fun b o e hb=>⟨o,(other b ?_).trans e,.refl o⟩⟩
   ·rintro rfl
    rw[hT] at e;(injection e with e;cases e)
    exact hk.elim (fun q=>q ts hdT) fun q=>q hnT
   ·rintro rfl
    obtain⟨_,_,m,hn⟩:=F.mem hb
    exact fN hn hT ts hdT
  exact qo (s:={s with heap:=s.heap.update T (Obj.mapFields (·.setIfInBounds 3 Value.none))}) hfr (F.kept K) hnew (K.al al) ((other a (Ne.symm hTe)).trans he) hd (Array.getElem?_eq_some_iff.mp h1).1 h0' h2' fun h' x k=>hQ h' x (K.trans k)
theorem yA(hfr:A.frames=some (env::outer))(F:dm base (env::outer) mem s.heap)(X:z1 h0 cls a s.heap)(al:∀b,s.heap.get? b=none->h0.get? b=none)
  (hQ:∀h',lR h0 cls a (rawInt env.locals) h'->gi (env::outer) h0 s.heap h'->Q () {s with heap:=h'}):KP M A (noteFrame (.ref a) env) Q E s:=by
 obtain⟨hnew,oe,vs,a0,e1,e2,e3,e4,e5,q⟩:=X
 rcases q with q|⟨T,oT,ts,t1,t2,t3,t4,t5,t6⟩
 ·have hf:=(F env (.head _)).2.1
  subst e2
  unfold noteFrame
  simp only[hf]
  refine Kx (wpAny_field e1 e3 q ?_)
  refine rwl (if_neg (by decide)) ?_
  exact qo hfr F hnew al e1 e3 (Array.getElem?_eq_some_iff.mp q).1 e4 e5 hQ
 ·exact w4 hfr F ⟨hnew,oe,vs,a0,T,oT,ts,e1,e2,e3,e4,e5,t1,t2,t3,t4,t5,t6⟩ al hQ
theorem tI{fs:List Env}{fl:KC}(F:dm base fs mem s.heap)(X:lR h0 cls a fl s.heap)(al:∀b,s.heap.get? b=none->h0.get? b=none)
  (hQ:∀h',lR h0 cls a .none h'->gi fs h0 s.heap h'->Q () {s with heap:=h'}):KP M A (setFlight (.ref a) none) Q E s:=AV (f:=none) F X al hQ
theorem nP(hfr:A.frames=some (env::outer))(F:dm base (env::outer) mem s.heap)(X:z1 h0 cls a s.heap)(al:∀b,s.heap.get? b=none->h0.get? b=none)
  (hQ:∀h',lR h0 cls a .none h'->gi (env::outer) h0 s.heap h'->Q () {s with heap:=h'}):KP M A (noteFrame (.ref a) env) (fun _ s₂=>KP M A (setFlight (.ref a) none) Q E s₂) E s:=
 yA hfr F X al fun h1 x1 k1=>tI (s:={s with heap:=h1}) (F.kept k1) x1 (k1.al al) fun h2 x2 k2=>hQ h2 x2 (k1.trans k2)
theorem uL(hfr:A.frames=some (env::outer))(F:dm base (env::outer) mem s.heap)(X:z1 h0 cls a s.heap)(al:∀b,s.heap.get? b=none->h0.get? b=none)
  (hQ:∀h',lR h0 cls a .none h'->gi (env::outer) h0 s.heap h'->Q () {s with heap:=h'}):KP M A (leaving env (.ref a)) Q E s:=by
 unfold leaving
 exact Kx (nP hfr F X al hQ)
end
end TD.Internal
namespace TD.Internal
open PySem PyProof.Rows
noncomputable def jU:List KC:=[.type "ValueError",.type "Exception",.type "BaseException",.type "object"]
noncomputable def oP:List Str:=["__init__","__getattribute__","__getattr__","__class__"]
noncomputable def pw (h:Lw) (C:Addr) (bm:List KC):Prop:=
 ∃nm q N bs hdct sn sub ab col dd k0 k1 k2 k3 k5,∃mN:Str->Option KC,h.get? C=some (excClassObj nm q C N bs bm hdct sn sub ab col dd k0 k1 k2 k3 k5 "ValueError.__new__")/\h.Ns N mN/\∀n∈oP,mN n=none
theorem pw.keeps{h h':Lw}{C:Addr}{bm:List KC}(x:pw h C bm)(hk:∀b o,h.get? b=some o->h'.get? b=some o):pw h' C bm:=by
 obtain⟨nm,q,N,bs,hdct,sn,sub,ab,col,dd,k0,k1,k2,k3,k5,mN,a,b,c⟩:=x
 exact⟨nm,q,N,bs,hdct,sn,sub,ab,col,dd,k0,k1,k2,k3,k5,mN,hk _ _ a,b.keeps hk,c⟩
noncomputable def fO (h:Lw) (C:Addr) (n:Str):Prop:=∃o cd,h.get? C=some o/\o.data= .cls cd/\cd.name=n
theorem fO.keeps{h h':Lw}{C:Addr}{n:Str}(x:fO h C n)(hk:∀b o,h.get? b=some o->h'.get? b=some o):fO h' C n:=by
 obtain⟨o,cd,a,b⟩:=x;exact⟨o,cd,hk _ _ a,b⟩
theorem fO.ne{h:Lw}{C C':Addr}{n n':Str}(x:fO h C n)(y:fO h C' n')(hn:n≠n'):C≠C':=fun q=>by
 subst q
 refine bB x ?_;clear x;intro o cd a b c
 refine bB y ?_;clear y;intro o' cd' a' b' c'
 rw[a] at a';(injection a' with a';cases a')
 rw[b] at b';(injection b' with b';cases b')
 exact hn (c.symm.trans c')
structure mY(h:Lw)(D C:Addr):Prop where
 d:pw h D jU
 c:pw h C (.ref D::jU)
section
variable{M:Model}{prog:Program}{w:World}{A:Around}{E:KC->Kv->Prop}{h:Lw}{g:Array GenState}{d:Drawn}{t:Nat}{os:OsState}{a D C:Addr}{o:Obj}
theorem mY.look(x:mY h D C){n:Str}(hn:n∈oP){y:Option KC}(hB:typeLookup (.type "ValueError") n=pure y){Q:Option KC->Kv->Prop}(hq:Q y ⟨h,g,d,t,os⟩):KP M A (typeLookup (.ref C) n) Q E ⟨h,g,d,t,os⟩:=by
 obtain⟨⟨nm,q,N,bs,hdct,sn,sub,ab,col,dd,k0,k1,k2,k3,k5,mD,hD,hND,hmD⟩,⟨nm',q',N',bs',hdct',sn',sub',ab',col',dd',k0',k1',k2',k3',k5',mN,hC,hN,hmN⟩⟩:=x
 have hrest:lookupAlong jU n=pure y:=by rw[typeLookup_eq,F.excBase_ValueError.mroIs] at hB;exact hB
 refine rwl (typeLookup_eq ..) ?_
 refine Kx (wpAny_mroOf_exc hC ?_)
 refine rwl (lookupAlong_cons ..) ?_
 refine Kx (wpAny_classOwn_exc hC hN ?_)
 refine rwl (hmN n hn) ?_
 refine(?_:KP _ _ (lookupAlong (.ref D::jU) n) _ _ _)
 refine rwl (lookupAlong_cons ..) ?_
 refine Kx (wpAny_classOwn_exc hD hND ?_)
 refine rwl (hmD n hn) ?_
 refine(?_:KP _ _ (lookupAlong jU n) _ _ _)
 refine rwl hrest ?_
 exact KV hq
theorem mY.sub(x:mY h D C){base:KC}{Q:Bool->Kv->Prop}(hq:Q ((Value.ref C:: .ref D::jU).contains base) ⟨h,g,d,t,os⟩):KP M A (isSubtype (.ref C) base) Q E ⟨h,g,d,t,os⟩:=by
 obtain⟨_,⟨nm',q',N',bs',hdct',sn',sub',ab',col',dd',k0',k1',k2',k3',k5',mN,hC,hN,hmN⟩⟩:=x
 exact wpAny_isSubtype_exc hC hq
theorem oh{T:String}{b:Bool}(hb:jU.contains (.type T)=b):(Value.ref C:: .ref D::jU).contains (.type T)=b:=by
 refine rwl L8 (rwl L8 (rwl hb ?_));rfl
theorem zq:typeLookup (.type "ValueError") "__class__"=pure (some (.builtin "object.__class__")):=by refine rwl (typeLookup_type ..) (rwl (builtinLookup_eq_fast ..) ?_);kernel_rfl
theorem pH{R:Result->Kv->Prop}(X:mY h D C)(hx:h.get? a=some o)(hc:o.cls= .ref C)(hq:R (.ok (.ret (.ref C))) ⟨h,g,d,t,os⟩):
  codeAny (model prog w) A (.call (.builtin "getset_descriptor.__get__") ⟨[.builtin "object.__class__",.ref a,.ref C],[]⟩) R ⟨h,g,d,t,os⟩:=by
 have hT5:(⟨h,g,d,t,os⟩:Kv).TypeIs (.builtin "object.__class__") "getset_descriptor":=F.typeOf_object_class
 have hcB:(Value.ref C:: .ref D::jU).contains (.type (".".intercalate ("object.__class__".cutAt '.').dropLast))=true:=by
  refine rwl F.owner_object_class ?_;exact oh (by decide+kernel)
 refine codeAny_call_builtin F.slot_gs_get.plain F.entry_gs_get (F.slot_gs_get.check _ _ _ _ _ _ _ _ hT5 (F.args_gs_get _ _ _) ?_)
 repeat (any_goals (first|assumption|(with_reducible refine wpAny_loadPart_at hx ?_;refine rwl hc ?_)|(with_reducible refine X.sub ?_;refine rwl hcB ?_)|wp_step))
 refine⟨Code.quiet_builtin _ (by decide+kernel),codeAny_builtin F.entry_object_class ?_⟩
 repeat (any_goals (first|assumption|(with_reducible refine wpAny_loadPart_at hx ?_;refine rwl hc ?_)|wp_step))
theorem mK{tk:Tok}{Q:Fin->Kv->Prop}(X:mY h D C)(hx:h.get? a=some o)(hc:o.cls= .ref C)(hq:Q (.done (.ret (.ref C))) ⟨h,g,d,t,os⟩):
  KP (model prog w) A (Builtin.«object.__getattribute__» ⟨[.ref a,.str "__class__" tk],[]⟩) Q E ⟨h,g,d,t,os⟩:=by
 have hT5:(⟨h,g,d,t,os⟩:Kv).TypeIs (.builtin "object.__class__") "getset_descriptor":=F.typeOf_object_class
 have f5:=F.typeOf_object_class
 have f6:=F.slot_gs_get.lookup
 have f7:=F.slot_gs_set.lookup
 have hm:("__class__":Str)∈oP:= .tail _ (.tail _ (.tail _ (.head _)))
 repeat (any_goals (first|assumption|(with_reducible refine wpAny_loadPart_at hx ?_;refine rwl hc ?_)|with_reducible refine X.look hm zq ?_|wp_step))
 refine pH X hx hc ?_
 repeat (any_goals (first|assumption|wp_step))
theorem rD{nameV:KC}{Q:Unit->Kv->Prop}(X:mY h D C)(hx:h.get? a=some o)(hc:o.cls= .ref C)(hq:Q () ⟨h,g,d,t,os⟩):KP M A (checkBuiltinCall "BaseException.__getattribute__" ⟨[.ref a,nameV],[]⟩) Q E ⟨h,g,d,t,os⟩:=by
 have hk:builtinKind "BaseException.__getattribute__"=some .slot:=by decide+kernel
 have hsplit:splitId "BaseException.__getattribute__"=some ("BaseException","__getattribute__"):=by decide+kernel
 have hcB:(Value.ref C:: .ref D::jU).contains (.type "BaseException")=true:=oh (by decide+kernel)
 have ha:=F.args_bexc_ga (.ref a) nameV
 simp only[checkBuiltinCall,hk,hsplit]
 refine Kx ?_
 ·unfold isInstance
  repeat (first|(with_reducible refine wpAny_loadPart_at hx ?_;refine rwl hc ?_)|(with_reducible refine X.sub ?_;refine rwl hcB ?_)|wp_step)
  exact hq
theorem r6{tk:Tok}{Q:KC->Kv->Prop}(X:mY h D C)(hx:h.get? a=some o)(hc:o.cls= .ref C)(hq:Q (.ref C) ⟨h,g,d,t,os⟩):KP (model prog w) A (getAttrBy (.ref a) (.str "__class__" tk) false) Q E ⟨h,g,d,t,os⟩:=by
 have FB:=F.attrBase_ValueError
 have f3:=FB.ga.bind (.ref a)
 have hx2:(Value.builtin "BaseException.__getattribute__"==Value.builtin "object.__getattribute__")=false:=by decide+kernel
 have hx1:(onTheHeap (Value.ref C)&&Value.builtin "BaseException.__getattribute__"==Value.builtin "object.__getattribute__")=false:=by refine rwl hx2 ?_;rfl
 have hm1:("__getattribute__":Str)∈oP:= .tail _ (.head _)
 have hm2:("__getattr__":Str)∈oP:= .tail _ (.tail _ (.head _))
 repeat (any_goals (first|assumption|(with_reducible refine wpAny_loadPart_at hx ?_;refine rwl hc ?_)|with_reducible refine X.look hm1 FB.ga.lookup ?_|with_reducible refine X.look hm2 FB.noGetattr ?_|wp_step))
 refine codeAny_call_builtin FB.ga.plain F.entry_bexc_ga (rD X hx hc (mK X hx hc ?_))
 repeat (any_goals (first|assumption|wp_step))
theorem oQ{Q:Option KC->Kv->Prop}(X:mY h D C)(hx:h.get? a=some o)(hc:o.cls= .ref C)(hq:Q (some (.ref C)) ⟨h,g,d,t+1,os⟩):KP (model prog w) A (getAttr? (.ref a) "__class__") Q E ⟨h,g,d,t,os⟩:=by
 unfold getAttr? getAttrBy?
 repeat (any_goals (first|assumption|with_reducible apply r6 X hx hc|wp_step))
end
end TD.Internal
namespace TD.Internal
open PySem PySem.W PyProof.Rows
noncomputable def gL:List String:=["BadTable","BadShares","BadHeir","BadThing","BadRing","BadOrder","Full","BadNote"]
noncomputable def kH (h:Lw) (n:Str):Bool:=match h.clsAt mainGlobals n with
 |some (_,_,cd)=>(h.nsMap cd.ns "__class__").isNone&&cd.name==n
 |none=>false
noncomputable def kT (s:Kv):Bool:=("DealError"::gL).all fun n=>kH s.heap (Str.ofString n)
noncomputable def nt (h:Lw) (n:Str) (chain:List Str):Bool:=h.ownExcOk n chain jU "ValueError.__new__"&&h.quietOk n
noncomputable def nZ (s:Kv):Bool:=nt s.heap "DealError" []&&gL.all fun n=>nt s.heap (Str.ofString n) ["DealError"]
noncomputable def ClsAt (mg:Str->Option KC) (h:Lw):Prop:=∃D,mg (Str.ofString "DealError")=some (.ref D)/\pw h D jU/\∀n∈gL,∃C,mg (Str.ofString n)=some (.ref C)/\pw h C (.ref D::jU)/\fO h C (Str.ofString n)
theorem ClsAt.keeps{mg:Str->Option KC}{h h':Lw}(x:ClsAt mg h)(hk:∀b o,h.get? b=some o->h'.get? b=some o):ClsAt mg h':=by
 refine bq x ?_;clear x;intro D h1 h2 h3
 exact⟨D,h1,h2.keeps hk,fun n hn=>let ⟨C,a,b,c⟩:=h3 n hn;⟨C,a,b.keeps hk,c.keeps hk⟩⟩
theorem wb{h:Lw}{n:Str}{chain:List Str}(x:nt h n chain=true)(y:kH h n=true):
  ∃C,h.nsMap mainGlobals n=some (.ref C)/\pw h C ((chain.map fun n=>(h.nsMap mainGlobals n).getD .none)++jU)/\fO h C n:=by
 refine aq (La.mp x:) fun x1 x2=>?_
 obtain⟨C,N,nm,q,bs,hdct,sn,sub,ab,col,dd,k0,k1,k2,k3,k5,hb,hC,hN,hq⟩:=Heap.ownExcQ_of_ok x1 x2
 unfold kH at y
 cases hf:h.clsAt mainGlobals n with
 |none=>rw[hf] at y;exact Bool.noConfusion y
 |some z=>
  obtain⟨C',o',cd'⟩:=z
  rw[hf] at y
  refine aq (La.mp y:) fun y1 y2=>?_
  refine cI (Heap.clsAt_spec hf:) fun hn' ho' hd'=>?_
  rw[hb] at hn'
  cases hn'
  refine⟨C,hb,⟨nm,q,N,bs,hdct,sn,sub,ab,col,dd,k0,k1,k2,k3,k5,_,hC,hN,fun m hm=>?_⟩,o',cd',ho',hd',beq_iff_eq.mp y2⟩
  rw[hC] at ho'
  cases ho'
  (injection hd' with hd';cases hd')
  rcases Kw.mp hm with rfl|hm
  ·exact hq _ (.head _)
  rcases Kw.mp hm with rfl|hm
  ·exact hq _ (.tail _ (.head _))
  rcases Kw.mp hm with rfl|hm
  ·exact hq _ (.tail _ (.tail _ (.head _)))
  rcases Kw.mp hm with rfl|hm
  ·exact MN.mp y1
  ·cases hm
theorem Co{s:Kv}(z:nZ s=true)(x:kT s=true):ClsAt (s.heap.nsMap mainGlobals) s.heap:=by
 have hx:=KI.mp x
 refine aq (La.mp z:) fun a b=>?_
 refine bq (wb a (hx _ (.head _)):) fun D h1 h2 _=>?_
 refine⟨D,h1,h2,fun n hn=>?_⟩
 refine bq (wb (KI.mp b n hn) (hx n (.tail _ hn)):) fun C h3 h4 h5=>?_
 refine⟨C,h3,?_,h5⟩
 have e:(["DealError"]:List Str).map (fun n=>(s.heap.nsMap mainGlobals n).getD .none)= [.ref D]:=by
  refine(?_: [(s.heap.nsMap mainGlobals (Str.ofString "DealError")).getD .none]=_)
  refine rwl h1 ?_;rfl
 rw[e] at h4
 exact h4
noncomputable def yl (o:OwnSpec) (n:Str) (chain:List Str):Bool:=o.name==n&&(o.chain==chain&&(o.bm==jU&&o.newId=="ValueError.__new__"))
noncomputable def nG (p:Program):Bool:=((ownsOf p).any fun o=>yl o "DealError" [])&&gL.all fun n=>(ownsOf p).any fun o=>yl o (Str.ofString n) ["DealError"]
theorem xU{h:Lw}{owns:List OwnSpec}(x:(owns.all fun o=>h.ownExcOk o.name o.chain o.bm o.newId&&h.quietOk o.name)=true){n:Str}{chain:List Str}(y:(owns.any fun o=>yl o n chain)=true):nt h n chain=true:=by
 refine af (Nk.mp y:) fun o ho hi=>?_
 refine aq (La.mp hi:) ?_;clear hi;intro h1 hi
 refine aq (La.mp hi:) ?_;clear hi;intro h2 hi
 refine aq (La.mp hi:) fun h3 h4=>?_
 have:=KI.mp x o ho
 rw[beq_iff_eq.mp h1,beq_iff_eq.mp h2,beq_iff_eq.mp h3,beq_iff_eq.mp h4] at this
 exact this
noncomputable abbrev fu (r:OpenRow):Prop:=LeftO r.prog (az r.prog) [] (fun s=>(xlAt (az r.prog) [] s&&kT s)&&recOk (RowW.records r.toRowW) s) (Hook.obs Hook.none) (Hook.val Hook.none) 4000
noncomputable abbrev Xt (r:OpenRow) (s:Kv):Bool:=(xlAt (az r.prog) [] s&&kT s)&&recOk (RowW.records r.toRowW) s
noncomputable abbrev EZ (r:OpenRow):Prop:=∀w,(openEnds treeTable r.prog w 4000).map (fun s=>seen ((recsOf (az r.prog)).map (·.name)) (ownsOf (az r.prog)) [] {s with gens:= #[]})=some (expectedOf (az r.prog))
noncomputable abbrev Gl (r:OpenRow):Prop:=∀w,(openEnds treeTable r.prog w 4000).map (fun s=>(s.heap.bltView,s.heap.keysOk (looseW (az r.prog) []) ((recsOf (az r.prog)).map (·.name)) ((litsOf (az r.prog)).map (·.1)) ((clssOf (az r.prog) (looseW (az r.prog) [])).map (·.name))&&s.heap.accountedOkI (importedModules r.prog.main.body)&&s.heap.isNs mainGlobals&&s.heap.isNs builtinsNs&&tablesOk (az r.prog) s.heap&&Xt r s&&(if true then s.gens.size==0 else !leftWithCleanup s.gens),tabsOk (az r.prog) s))=some (bltViewBooted,true,true)
noncomputable abbrev C9 (r:OpenRow):Prop:=∀w,(openEnds treeTable r.prog w 4000).map (fun s=>((pinSeenD (az r.prog) (drecsOf (az r.prog)) s,plainSeenE (az r.prog) (looseW (az r.prog) []) s,plainSeenD (az r.prog) [] s,wideSeen (az r.prog) s,clsSeenW (az r.prog) [] s),Hook.obs Hook.none s))=some ((pinGoodD (drecsOf (az r.prog)),plainGoodE (az r.prog) (looseW (az r.prog) []),plainGoodD (az r.prog) [],wideGood (az r.prog),clsGoodW (az r.prog) []),Hook.val Hook.none w)
theorem fu.of3{r:OpenRow}(a:EZ r)(b:Gl r)(c:C9 r):fu r:=fun w=>by
 refine af (KD.mp (a w):) fun s h1 h2=>?_
 have b:=b w
 have c:=c w
 rw[h1] at b c⊢
 have b:=Option.some.inj b
 have c:=Option.some.inj c
 have b1:=congrArg (fun x=>x.1) b
 have b2:=congrArg (fun x=>x.2.1) b
 have b3:=congrArg (fun x=>x.2.2) b
 have c1:=congrArg (fun x=>x.1.1) c
 have c2:=congrArg (fun x=>x.1.2.1) c
 have c3:=congrArg (fun x=>x.1.2.2.1) c
 have c4:=congrArg (fun x=>x.1.2.2.2.1) c
 have c5:=congrArg (fun x=>x.1.2.2.2.2) c
 have c6:=congrArg (fun x=>x.2) c
 dsimp only at h2 b1 b2 b3 c1 c2 c3 c4 c5 c6
 refine(?_:some _=some _)
 unfold openSeen openGood
 dsimp only
 exact rwl h2 (rwl b1 (rwl b2 (rwl b3 (rwl c1 (rwl c2 (rwl c3 (rwl c4 (rwl c5 (rwl c6 rfl)))))))))
theorem fu.owns{r:OpenRow}(hl:fu r)(ht:nG (az r.prog)=true):
  LeftO r.prog (az r.prog) [] (fun s=>(xlAt (az r.prog) [] s&&(kT s&&nZ s))&&recOk (RowW.records r.toRowW) s) (Hook.obs Hook.none) (Hook.val Hook.none) 4000:=fun w=>by
 refine af (KD.mp (hl w):) fun s h1 h2=>?_
 refine KD.mpr ⟨s,h1,?_⟩
 refine rwb h2 ?_
 have e1:=congrArg (fun x=>x.1.1) h2
 have hok:((ownsOf (az r.prog)).all fun o=>s.heap.ownExcOk o.name o.chain o.bm o.newId&&s.heap.quietOk o.name)=true:=congrArg Seen.ownsOk e1
 refine aq (La.mp ht:) fun t1 t2=>?_
 have ho:nZ s=true:=La.mpr ⟨xU hok t1,KI.mpr fun n hn=>xU hok (KI.mp t2 n hn)⟩
 unfold openSeen
 dsimp only
 exact rwl (ho ..) (rwl (Bool.and_true ..) rfl)
noncomputable abbrev JV (r:OpenRow) (mg:Str->Option KC) (h:Lw):Prop:=XL (az r.prog) [] mg h/\ClsAt mg h
theorem u2{r:OpenRow}(hl:fu r)(ht:nG (az r.prog)=true)
  (h1:(defOf (az r.prog) r.name).isSome=true) (h2:(defOf (az r.prog) r.name).map (fun x=>(x.1.params,x.1.body,x.1.scope))=r.prog.theDef r.name)
  (h3:(defOf (az r.prog) r.name).bind (fun x=>kwWritten? x.1.params.kwonlyargs x.1.params.kw_defaults)=(defOf (az r.prog) r.name).map (·.2))
  (hwr:(!r.writes||r.records.isEmpty)=true) (k1:r.wellSaid=true) (ok:(chainsOk (az r.prog)&&opensWell r.prog&&(frees r.toRowW&&r.within.isEmpty))=true) (hb:r.prog.bare) (hw:r.toRowW.promised)
  (call:∀d kwd,d.name=r.name->WalkO (az r.prog) [] (JV r) (Hook.says Hook.none) r.toRowW d kwd fun f vs=>PySem.call f vs):r.Holds:=by
 refine aO (MR.mp h1:) fun w16r0_0 hd=>?_
 obtain⟨d,kwd⟩:=w16r0_0
 rw[hd] at h2 h3
 refine PySem.W.holds_open (XP:=JV r) (YP:=Hook.says Hook.none) (hl.owns ht) (Hook.of Hook.none) (Hook.keeps Hook.none) (fun s e=>?_) (fun mg h h' x k=>⟨XL.keeps mg h h' x.1 k,x.2.keeps k⟩) hd h2.symm h3 (fun s e=>recFacts_of (La.mp e).2) hwr k1 ok hb hw (call d kwd (defOf_name hd))
 refine aq (La.mp (La.mp e).1:) fun e1 e2=>?_
 refine aq (La.mp e2:) ?_;clear e2;intro e2 e3
 exact⟨xl_of s e1,Co e3 e2⟩
end TD.Internal
namespace TD.Internal
open PySem PySem.W PyProof.Rows
noncomputable abbrev hZ (w:World) (os:OsState):Kv:=⟨boot_heap w.params,Array.mk [],boot_drawn,boot_toks,os⟩
noncomputable abbrev wz (r:OpenRow) (w:World) (os:OsState):Option Kv:=Fast.tw14082659384304107361 treeTable r.prog w (hZ w os).heap.objs.size ((hZ w os).heap.nsMap mainGlobals "__annotations__") 4000 (hZ w os) (topStub r.prog)
noncomputable abbrev vd (r:OpenRow):Prop:=∀w os,(wz r w os).map (fun s=>staticsOk (importedModules r.prog.main.body) (hZ w os).heap s.heap&&namesBound r.prog s.heap&&gensDone s&&laidKept (hZ w os).heap s.heap)=some true
noncomputable abbrev zA (r:OpenRow):Prop:=∀w os,(wz r w os).map (fun s=>Fast.tw5160383126252970620 ((recsOf (az r.prog)).map (·.name)) (ownsOf (az r.prog)) [] {s with gens:= #[]})=some (expectedOf (az r.prog))
noncomputable def x3 (h:Lw) (n:Str):Bool:=match Fast.tw1081197705613022005 h mainGlobals n with
 |some (_,_,cd)=>(Fast.tw8920871248978507458 h cd.ns "__class__").isNone&&cd.name==n
 |none=>false
theorem zK:x3=kH:=by
 funext h n
 unfold x3 kH
 refine rwb Fast.te1081197705613022005 (rwb Fast.te8920871248978507458 ?_)
 try rfl
noncomputable def EE (s:Kv):Bool:=("DealError"::gL).all fun n=>x3 s.heap (Str.ofString n)
noncomputable abbrev JS (r:OpenRow) (s:Kv):Bool:=(xlAt (az r.prog) [] s&&EE s)&&recOk (RowW.records r.toRowW) s
noncomputable abbrev yS (r:OpenRow):Prop:=∀w os,(wz r w os).map (fun s=>(s.heap.bltView,Fast.tw10880121769531294198 s.heap (looseW (az r.prog) []) ((recsOf (az r.prog)).map (·.name)) ((litsOf (az r.prog)).map (·.1)) ((clssOf (az r.prog) (looseW (az r.prog) [])).map (·.name))&&Fast.tw14722251495701143533 s.heap (importedModules r.prog.main.body)&&s.heap.isNs mainGlobals&&s.heap.isNs builtinsNs&&Fast.tw10994771534591457954 (az r.prog) s.heap))=some (bltViewBooted,true)
noncomputable abbrev yp (r:OpenRow):Prop:=∀w os,(wz r w os).map (fun s=>(JS r s,(if true then s.gens.size==0 else !leftWithCleanup s.gens),Fast.tw479339242167458305 (az r.prog) s))=some (true,true,true)
noncomputable abbrev yY (r:OpenRow):Prop:=∀w os,(wz r w os).map (fun s=>((pinSeenD (az r.prog) (drecsOf (az r.prog)) s,Fast.tw2386780881361962483 (az r.prog) (looseW (az r.prog) []) s,plainSeenD (az r.prog) [] s,Fast.tw7317090234206586261 (az r.prog) s,Fast.tw7369524293546568484 (az r.prog) [] s),Hook.obs Hook.none s))=some ((pinGoodD (drecsOf (az r.prog)),plainGoodE (az r.prog) (looseW (az r.prog) []),plainGoodD (az r.prog) [],wideGood (az r.prog),clsGoodW (az r.prog) []),Hook.val Hook.none w)
theorem r9{r:OpenRow}(e:opening r.prog=plainProg r.prog.main.scope.names)(f:∀s,fenceModules? r.prog s=some s)(h0:∀w:World,(boot_heap w.params).isNs mainGlobals=true)(a:vd r)(w:World):
  ∃os s,openEnds treeTable r.prog w 4000=some s/\wz r w os=some s:=by
 refine af (KD.mp (boot_open (N:=4000) e (by decide) f w):) fun w0r0_0 e1 e2=>?_
 obtain⟨h,gs,d,k,os⟩:=w0r0_0
 obtain⟨rfl,rfl,rfl,rfl⟩:h=boot_heap w.params/\gs=Array.mk []/\d=boot_drawn/\k=boot_toks:=by simpa using e2
 refine af (KD.mp (a w os):) fun s h1 h2=>?_
 refine⟨os,s,?_,h1⟩
 have h1':topRun treeTable r.prog w (hZ w os).heap.objs.size ((hZ w os).heap.nsMap mainGlobals "__annotations__") 4000 (hZ w os) (topStub r.prog)=some s:=by
  refine rwl Fast.te14082659384304107361 ?_;exact h1
 unfold openEnds
 refine rwl e1 ?_
 refine(?_:topFrom treeTable r.prog w 4000 (hZ w os)=some s)
 unfold topFrom
 have hg:((hZ w os).heap.isNs mainGlobals&&(hZ w os).gens.size==0)=true:=La.mpr ⟨h0 w,rfl⟩
 refine rwl hg ?_
 dsimp only
 refine rwl h1' ?_
 refine(?_:(match staticsOk (importedModules r.prog.main.body) (hZ w os).heap s.heap&&namesBound r.prog s.heap&&gensDone s&&laidKept (hZ w os).heap s.heap with|true=>some s|false=>none)=some s)
 exact rwl h2 rfl
theorem fu.ofQ{r:OpenRow}(e:opening r.prog=plainProg r.prog.main.scope.names)(f:∀s,fenceModules? r.prog s=some s)(h0:∀w:World,(boot_heap w.params).isNs mainGlobals=true)(a:vd r)(b:zA r)(c:yS r)(c':yp r)(d:yY r):fu r:=by
 refine .of3 (fun w=>?_) (fun w=>?_) (fun w=>?_)
 ·refine cG (r9 e f h0 a w:) fun os s h1 h2=>?_
  have b:=b w os
  rw[h2] at b
  refine rwl h1 ?_
  rw[<-Fast.te5160383126252970620] at b
  exact b
 ·refine cG (r9 e f h0 a w:) fun os s h1 h2=>?_
  have c:=c w os
  have c':=c' w os
  rw[h2] at c c'
  refine rwl h1 ?_
  rw[<-Fast.te10880121769531294198,<-Fast.te14722251495701143533,<-Fast.te10994771534591457954] at c
  rw[<-Fast.te479339242167458305] at c'
  unfold JS EE at c'
  rw[zK] at c'
  have c:=Option.some.inj c
  have c':=Option.some.inj c'
  have k1:=congrArg (fun x=>x.1) c
  have k2:=congrArg (fun x=>x.2) c
  have k3:=congrArg (fun x=>x.1) c'
  have k4:=congrArg (fun x=>x.2.1) c'
  have k5:=congrArg (fun x=>x.2.2) c'
  dsimp only at k1 k2 k3 k4 k5
  refine(?_:some _=some _)
  unfold Xt kT
  dsimp only
  rw[k1,k2,k3,k4,k5]
  rfl
 ·refine cG (r9 e f h0 a w:) fun os s h1 h2=>?_
  have d:=d w os
  rw[h2] at d
  refine rwl h1 ?_
  rw[<-Fast.te2386780881361962483,<-Fast.te7317090234206586261,<-Fast.te7369524293546568484] at d
  exact d
end TD.Internal
namespace TD.Internal
open PySem PySem.W PyProof.Rows
theorem FK:vd PySem.Challenge.rw_uf020018_12.row:=fun w os=>by kernel_rfl
theorem EW:zA PySem.Challenge.rw_uf020018_12.row:=fun w os=>by kernel_rfl
theorem Gg:yS PySem.Challenge.rw_uf020018_12.row:=fun w os=>by kernel_rfl
theorem Dc:yp PySem.Challenge.rw_uf020018_12.row:=fun w os=>by kernel_rfl
theorem FQ:yY PySem.Challenge.rw_uf020018_12.row:=fun w os=>by kernel_rfl
theorem zc:fu PySem.Challenge.rw_uf020018_12.row:= .ofQ (by kernel_rfl) (fun s=>rfl) (fun w=>by kernel_rfl) FK EW Gg Dc FQ
theorem x6:PySem.Challenge.rw_uf020018_12.wellSaid=true:=by kernel_rfl
theorem Ka:nG (az PySem.Challenge.rw_uf020018_12.row.prog)=true:=by kernel_rfl
theorem Kg:(defOf (az PySem.Challenge.rw_uf020018_12.row.prog) PySem.Challenge.rw_uf020018_12.row.name).isSome=true:=by kernel_rfl
theorem ti:(defOf (az PySem.Challenge.rw_uf020018_12.row.prog) PySem.Challenge.rw_uf020018_12.row.name).map (fun x=>(x.1.params,x.1.body,x.1.scope))=PySem.Challenge.rw_uf020018_12.row.prog.theDef PySem.Challenge.rw_uf020018_12.row.name:=by kernel_rfl
theorem hd3:(defOf (az PySem.Challenge.rw_uf020018_12.row.prog) PySem.Challenge.rw_uf020018_12.row.name).bind (fun x=>kwWritten? x.1.params.kwonlyargs x.1.params.kw_defaults)=(defOf (az PySem.Challenge.rw_uf020018_12.row.prog) PySem.Challenge.rw_uf020018_12.row.name).map (·.2):=by kernel_rfl
theorem Kd:(chainsOk (az PySem.Challenge.rw_uf020018_12.row.prog)&&opensWell PySem.Challenge.rw_uf020018_12.row.prog&&(frees PySem.Challenge.rw_uf020018_12.row.toRowW&&PySem.Challenge.rw_uf020018_12.row.within.isEmpty))=true:=by kernel_rfl
end TD.Internal
namespace TD.Internal
open PySem (Str Addr)
theorem zX{P P':Bool->Mem->Prop}(k:∀b m,P b m->P' b m){v:ae}{m:Mem}(h:oO P v m):oO P' v m:=by
 obtain⟨b,e,p⟩:=h;exact KF b ⟨e,k _ _ p⟩
theorem fX{loc:aL}{i:Nat}{x:ae}(h:i<loc.length):bS (ay loc i x) i=some x:=by
 induction loc generalizing i with
 |nil=>cases h
 |cons y r ih=>cases i with
  |zero=>rfl
  |succ i=>exact ih (Mf h)
theorem B0{loc:aL}{i:Nat}{x y:ae}:ay (ay loc i x) i y=ay loc i y:=by
 induction loc generalizing i with
 |nil=>rfl
 |cons z r ih=>cases i with
  |zero=>rfl
  |succ i=>exact congrArg (z::·) ih
theorem CU{loc:aL}{i:Nat}{x:ae}:(ay loc i x).length=loc.length:=by
 induction loc generalizing i with
 |nil=>rfl
 |cons z r ih=>cases i with
  |zero=>rfl
  |succ i=>exact congrArg (·+1) ih
section steps
variable{C:bb}{G:String->Option ae}{X:Nat->Mem->Prop}{Y:Nat->aL->Mem->Prop}{loc:aL}{Q:ae->Mem->Prop}{m:Mem}{R:Flow->aL->Mem->Prop}
theorem aw{FT:Nat->Option Fn}{n f:Nat}{fn:Fn}{vs:List ae}(hf:FT f=some fn)(hn:vs.length=fn.np)
  (h:bJ (oD FT G n) G fn.body (iK Q) (fun c _ m'=>X c m') (bh vs (fn.vars.length-fn.np)) m):oD FT G (n+1) f vs Q X m:=⟨fn,hf,hn,h⟩
theorem j8{i:Nat}{v:ae}(hv:bS loc i=some v)(h:Q v m):bk C G X (.nm i) loc Q m:=KF v ⟨hv,h⟩
theorem wc{i:Int}(h:Q (.int i) m):bk C G X (.int i) loc Q m:=h
theorem vq{op:z9}{a b:Ex}(h:bk C G X a loc (fun x m1=>bk C G X b loc (fun y m2=>gq op x y Q m2) m1) m):bk C G X (.bin op a b) loc Q m:=h
theorem DC{a:Ex}(h:bk C G X a loc (oO fun b m1=>Q (.bool !b) m1) m):bk C G X (.not a) loc Q m:=h
theorem cH{P:Bool->Mem->Prop}{b:Bool}(h:P b m):oO P (.bool b) m:=KF b ⟨rfl,h⟩
theorem vb{i:Int}(h:Q (.int (-i)) m):bk C G X (.neg (.int i)) loc Q m:=KF i ⟨rfl,h⟩
theorem jl{k:Bool}{es:fC}(h:mM C G X k es loc (fun b m1=>Q (.bool b) m1) m):bk C G X (.boolop k es) loc Q m:=h
theorem eY{k:Bool}{e:Ex}{es:fC}{P:Bool->Mem->Prop}(h:bk C G X e loc (oO (xP k (mM C G X k es loc P) P)) m):mM C G X k (.cons e es) loc P m:=h
theorem dR{k b:Bool}{P:Bool->Mem->Prop}(h:P b m):xP k (mM C G X k .nil loc P) P b m:=And.intro (fun e=>e▸h) fun _=>h
theorem kS{W:Mem->Prop}{P:Bool->Mem->Prop}(h:W m):xP true W P true m:=And.intro (fun _=>h) fun e=>Bool.noConfusion e
theorem gJ{W:Mem->Prop}{P:Bool->Mem->Prop}(h:P false m):xP true W P false m:=And.intro (fun e=>Bool.noConfusion e) fun _=>h
theorem iq{W:Mem->Prop}{P:Bool->Mem->Prop}(h:W m):xP false W P false m:=And.intro (fun _=>h) fun e=>Bool.noConfusion e
theorem l5{W:Mem->Prop}{P:Bool->Mem->Prop}(h:P true m):xP false W P true m:=And.intro (fun e=>Bool.noConfusion e) fun _=>h
theorem gD{k:Bool}{W:Mem->Prop}{P:Bool->Mem->Prop}{b:Bool}(h1:b=k->W m)(h2:b=!k->P b m):xP k W P b m:=And.intro h1 h2
theorem mF{op:vV}{a b:Ex}(h:bk C G X a loc (fun x m1=>bk C G X b loc (fun y m2=>cE op x y (fun r m3=>Q (.bool r) m3) m2) m1) m):bk C G X (.cmp op a b) loc Q m:=h
theorem B7{o1 o2:vV}{a b c:Ex}(h:bk C G X a loc (fun x m1=>bk C G X b loc (fun y m2=>cE o1 x y (xR (fun m3=>bk C G X c loc (fun z m4=>cE o2 y z (fun r' m5=>Q (.bool r') m5) m4) m3) (fun m3=>Q (.bool false) m3)) m2) m1) m):bk C G X (.cmp2 o1 o2 a b c) loc Q m:=h
theorem vG{p:Bool}{a:Ex}{c:Option Bool}(h:bk C G X a loc (fun x m1=>Q (.bool (i9 c x==p)) m1) m):bk C G X (.isc p a c) loc Q m:=h
theorem qP{f:Nat}{args:fC}(h:lx C G X args loc (fun vs m1=>C f vs Q X m1) m):bk C G X (.call f args) loc Q m:=h
theorem qk{P:List ae->Mem->Prop}(h:P [] m):lx C G X .nil loc P m:=h
theorem lO{e:Ex}{es:fC}{P:List ae->Mem->Prop}(h:bk C G X e loc (fun v m1=>lx C G X es loc (fun vs m2=>P (v::vs) m2) m1) m):lx C G X (.cons e es) loc P m:=h
theorem Fy{b:B1}{a:Ex}(h:bk C G X a loc (fun x m1=>gj b x Q m1) m):bk C G X (.b1 b a) loc Q m:=h
noncomputable def w6 (Q:ae->Mem->Prop) (m:Mem) (o:Option Bool):Prop:=∃b,o=some b/\Q (.bool b) m
theorem yT{a:Ex}{c:ie}(h:bk C G X a loc (fun x m1=>w6 Q m1 (isA m1 x c)) m):bk C G X (.isinst a c) loc Q m:=h
theorem ou{o:Option Bool}{b:Bool}(e:o=some b)(h:Q (.bool b) m):w6 Q m o:=KF b ⟨e,h⟩
theorem kQ{o e:Ex}(h:bk C G X o loc (fun x m1=>CF m1 x/\bk C G X e loc (fun y m2=>wJ Q x y m2) m1) m):bk C G X (.append o e) loc Q m:=h
theorem iW{P:Prop}{a:Addr}{xs:List ae}(e:m a=some (.list xs))(h:P):CF m (.ref a)/\P:=⟨⟨a,xs,rfl,e⟩,h⟩
theorem fK{a:Addr}{y:ae}{xs:List ae}(e:m a=some (.list xs))(hl:xs.length<br)(h:Q .none (m.set a (.list (xs++ [y])))):wJ Q (.ref a) y m:=⟨a,xs,rfl,e,hl,h⟩
theorem Ea{o:Ex}{i:fC}(h:bk C G X o loc (fun x m1=>CF m1 x/\lx C G X i loc (fun ks m2=>AH Q x ks m2) m1) m):bk C G X (.pop o i) loc Q m:=h
theorem w8{a:Addr}{xs:List ae}{j:Nat}{y:ae}(e:m a=some (.list xs))(hl:xs.length<br)(hp:eh (-1) xs.length=some j)(hy:xs[j]? =some y)
  (h:Q y (m.set a (.list (xs.eraseIdx j)))):AH Q (.ref a) [] m:=⟨a,xs,-1,j,y,rfl,e,hl,.inl ⟨rfl,rfl⟩,hp,hy,h⟩
theorem AB{o e:Ex}(h:bk C G X o loc (fun x m1=>CF m1 x/\bk C G X e loc (fun y m2=>C1 Q x y m2) m1) m):bk C G X (.index o e) loc Q m:=h
theorem FZ{a:Addr}{is:List Int}{i:Int}(e:m a=some (.list (is.map .int)))(hi:i∈is)(hl:is.length<br)(h:Q (.int (is.idxOf i:Nat)) m):C1 Q (.ref a) (.int i) m:=⟨a,is,i,rfl,e,rfl,hi,hl,h⟩
theorem sU{a i:Ex}(h:bk C G X a loc (fun x m1=>bk C G X i loc (fun y m2=>gm x y Q m2) m1) m):bk C G X (.sub a i) loc Q m:=h
theorem dG{v:ae}{k:Int}{xs:List ae}{j:Nat}{x:ae}(e:seq m v=some xs)(hp:eh k xs.length=some j)(hx:xs[j]? =some x)(hl:xs.length<br)(h:Q x m):gm v (.int k) Q m:=⟨k,xs,j,x,rfl,e,hp,hx,hl,h⟩
theorem rR{up:Bool}{a i:Ex}(h:bk C G X a loc (fun x m1=>bk C G X i loc (fun y m2=>Ho up x y Q m2) m1) m):bk C G X (.slice up a i) loc Q m:=h
theorem pE{up:Bool}{a:Addr}{xs:List ae}{k:Int}(e:m a=some (.list xs))(hl:xs.length<br)(h:bf m (uY up xs k) Q):Ho up (.ref a) (.int k) Q m:=⟨a,xs,k,rfl,e,rfl,hl,h⟩
theorem Jk{mx:Bool}{a b:Ex}(h:bk C G X a loc (fun x m1=>bk C G X b loc (fun y m2=>Hq mx x y Q m2) m1) m):bk C G X (.mm mx a b) loc Q m:=h
theorem JO{mx:Bool}{a b:Int}(h:Q (.int (As mx a b)) m):Hq mx (.int a) (.int b) Q m:=⟨a,b,rfl,rfl,h⟩
theorem vx{es:fC}(h:lx C G X es loc (fun vs m1=>bf m1 vs Q) m):bk C G X (.lst es) loc Q m:=h
theorem Bm{es:fC}(h:lx C G X es loc (fun vs m1=>vs.length<br/\Q (.tup vs) m1) m):bk C G X (.tup es) loc Q m:=h
theorem av{xs:List ae}(hl:xs.length<br)(h:∀a,m a=none->Q (.ref a) (m.set a (.list xs))):bf m xs Q:=⟨hl,h⟩
theorem rN{x y:Int}(h:Q (.int (x+y)) m):gq .add (.int x) (.int y) Q m:=Or.inl ⟨x,y,rfl,rfl,h⟩
theorem v5{x y:Int}(h:Q (.int (x-y)) m):gq .sub (.int x) (.int y) Q m:=KF x ⟨y,rfl,rfl,h⟩
theorem lj{x y:Int}(hs:small x\/small y)(h:Q (.int (x*y)) m):gq .mul (.int x) (.int y) Q m:=Or.inl ⟨x,y,rfl,rfl,hs,h⟩
theorem z8{x y:Int}(hy:y≠0/\oi y)(h:Q (.int (x.fdiv y)) m):gq .fdiv (.int x) (.int y) Q m:=KF x ⟨y,rfl,rfl,hy,h⟩
theorem rV{x y:Int}(hy:y≠0/\oi y)(h:Q (.int (x.fmod y)) m):gq .mod (.int x) (.int y) Q m:=KF x ⟨y,rfl,rfl,hy,h⟩
theorem bZ{x y:Addr}{xs ys:List ae}(hx:lst m (.ref x)=some xs)(hy:lst m (.ref y)=some ys)(h:bf m (xs++ys) Q):gq .add (.ref x) (.ref y) Q m:=Or.inr ⟨x,y,xs,ys,rfl,rfl,hx,hy,h⟩
theorem n7{x y:Int}{P:Bool->Mem->Prop}(h:P (decide (x<y)) m):cE .lt (.int x) (.int y) P m:=KF x ⟨y,rfl,rfl,h⟩
theorem zL{x y:Int}{P:Bool->Mem->Prop}(h:P (decide (x<=y)) m):cE .le (.int x) (.int y) P m:=KF x ⟨y,rfl,rfl,h⟩
theorem uG{x y:Int}{P:Bool->Mem->Prop}(h:P (decide (x>y)) m):cE .gt (.int x) (.int y) P m:=KF x ⟨y,rfl,rfl,h⟩
theorem Cb{x y:Int}{P:Bool->Mem->Prop}(h:P (decide (x>=y)) m):cE .ge (.int x) (.int y) P m:=KF x ⟨y,rfl,rfl,h⟩
theorem mZ{x y:Int}{P:Bool->Mem->Prop}(h:P (decide (x=y)) m):cE .eq (.int x) (.int y) P m:=Or.inr (Or.inr ⟨.int x,.int y,rfl,rfl,rfl,rfl,h⟩)
theorem vn{x y:Int}{P:Bool->Mem->Prop}(h:P (decide (x≠y)) m):cE .ne (.int x) (.int y) P m:=
 Or.inr (Or.inr ⟨.int x,.int y,rfl,rfl,rfl,rfl,by refine(?_:P (!(x==y)) m);refine rwl (by by_cases q:x=y<;>simp [q]:(!(x==y))=decide (x≠y)) ?_;exact h⟩)
theorem rQ{v:ae}{xs:List ae}(e:seq m v=some xs)(hl:xs.length<br)(h:Q (.int xs.length) m):gj .len v Q m:=KF xs ⟨e,hl,h⟩
theorem rj{v:ae}{bs:List Bool}(e:lst m v=some (bs.map .bool))(h:Q (.bool (bs.all id)) m):gj .all v Q m:=KF bs ⟨e,h⟩
theorem CG{v:ae}{is:List Int}(e:lst m v=some (is.map .int))(hs:∀i∈is,small i)(hl:is.length<br)(h:Q (.int is.sum) m):gj .sum v Q m:=KF is ⟨e,hs,hl,h⟩
theorem iD{v:ae}{xs:List ae}(e:seq m v=some xs)(h:bf m xs Q):gj .list v Q m:=KF xs ⟨e,h⟩
theorem dC{n:Int}(hl:0<=n/\n<br)(h:bf m (bP n) Q):gj .lrange (.int n) Q m:=KF n ⟨rfl,hl,h⟩
theorem AG{a:Addr}{xs:List ae}(e:m a=some (.list xs))(hl:xs.length<br)(h:bf m xs.reverse Q):gj .lrev (.ref a) Q m:=KF a ⟨xs,rfl,e,hl,h⟩
theorem Cm{b:Bool}(h:Q (.int (if b then 1 else 0)) m):gj .int (.bool b) Q m:=KF b ⟨rfl,h⟩
theorem qC(h:R .next loc m):bJ C G .nil R Y loc m:=h
theorem lQ{s:St}{ss:eM}(h:vP C G s (lK (fun l m1=>bJ C G ss R Y l m1) R) Y loc m):bJ C G (.cons s ss) R Y loc m:=h
theorem d9{W:aL->Mem->Prop}(h:W loc m):lK W R .next loc m:=h
theorem sF{W:aL->Mem->Prop}{v:ae}(h:R (.ret v) loc m):lK W R (.ret v) loc m:=h
theorem zr{v:ae}(h:Q v m):iK Q (.ret v) loc m:=h
theorem wQ(h:Q .none m):iK Q .next loc m:=h
theorem rk{e:Ex}(h:bk C G iZ e loc (fun v m1=>lN v/\R .next loc m1) m):vP C G (.expr e) R Y loc m:=h
theorem xW{i j:Nat}{e:Ex}(h:bk C G iZ e loc (fun v m1=>tg (.two i j) v loc (fun l=>R .next l m1)) m):vP C G (.asgTwo i j e) R Y loc m:=h
theorem xc{i j:Nat}{a b:ae}{K:aL->Prop}(h:K (ay (ay loc i a) j b)):tg (.two i j) (.tup [a,b]) loc K:=KF _ ⟨KF a ⟨b,rfl,rfl⟩,h⟩
theorem yr{o i e:Ex}(h:bk C G iZ e loc (fun v m1=>bk C G iZ o loc (fun x m2=>bk C G iZ i loc (fun y m3=>AQ x y v (fun m4=>R .next loc m4) m3) m2) m1) m):vP C G (.asgSub o i e) R Y loc m:=h
theorem BA{a:Addr}{k:Int}{v:ae}{xs:List ae}{K:Mem->Prop}(e:m a=some (.list xs))(hl:xs.length<br)(h0:0<=k)(hk:k.toNat<xs.length)(h:K (m.set a (.list (xs.set k.toNat v)))):AQ (.ref a) (.int k) v K m:=⟨a,k,xs,rfl,rfl,e,hl,⟨h0,hk⟩,h⟩
theorem Bq{c:Ex}{t e:eM}(h:bk C G (tk Y loc) c loc (oO (xR (bJ C G t R Y loc) (bJ C G e R Y loc))) m):vP C G (.ifs c t e) R Y loc m:=h
theorem fj{T E:Mem->Prop}(h:T m):xR T E true m:=And.intro (fun _=>h) fun e=>Bool.noConfusion e
theorem dB{T E:Mem->Prop}(h:E m):xR T E false m:=And.intro (fun e=>Bool.noConfusion e) fun _=>h
theorem bt{T E:Mem->Prop}{b:Bool}(h1:b=true->T m)(h2:b=false->E m):xR T E b m:=And.intro h1 h2
theorem AN{c:ie}{g:String}(h:Y c.code loc m):vP C G (.raise c g) R Y loc m:=h
theorem Am{f:Nat}{args:fC}(h:lx C G iZ args loc (fun vs m1=>C f vs (fun v m2=>lN v/\R .next loc m2) (fun c m'=>Y c loc m') m1) m):vP C G (.callS f args) R Y loc m:=h
theorem Bi{x y:Str}{P:Bool->Mem->Prop}(h:P (!(x==y)) m):cE .ne (.str x) (.str y) P m:=Or.inr (Or.inl ⟨x,y,rfl,rfl,h⟩)
theorem CY{o:Ex}{f:Nat}(h:bk C G X o loc (fun x m1=>wg x f Q m1) m):bk C G X (.attr o f) loc Q m:=h
theorem Cu{o:Ex}{f:Nat}{args:fC}(h:bk C G X o loc (fun x m1=>C5 m1 x/\lx C G X args loc (fun vs m2=>C f (x::vs) Q X m2) m1) m):bk C G X (.meth o f args) loc Q m:=h
theorem Gj{f:Nat}{args:fC}(h:lx C G X args loc (fun vs m1=>A6 (fun x m2=>C f (x::vs) (fun r m3=>r= .none/\Q x m3) X m2) m1) m):bk C G X (.new f args) loc Q m:=h
theorem Ew{a:Ex}{i j:Int}(h:bk C G X a loc (fun x m1=>BU x i j Q m1) m):bk C G X (.cut a i j) loc Q m:=h
theorem xg{o e:Ex}{f:Nat}(h:bk C G iZ e loc (fun v m1=>bk C G iZ o loc (fun x m2=>AE x f v (fun m3=>R .next loc m3) m2) m1) m):vP C G (.asgAttr o f e) R Y loc m:=h
theorem bE{a d:Addr}{fs:List (Option ae)}{f:Nat}{v:ae}(h1:m a=some (.inst d))(h2:m d=some (.flds fs))(hf:f<2)(hv:bS fs f=some v)(h:Q v m):wg (.ref a) f Q m:=⟨d,fs,v,hf,⟨a,rfl,h1,h2⟩,hv,h⟩
theorem nX{a d:Addr}{fs:List (Option ae)}{f:Nat}{v:ae}{K:Mem->Prop}(h1:m a=some (.inst d))(h2:m d=some (.flds fs))(hf:f<2)(hl:fs.length=2)(h:K (m.set d (.flds (ay fs f v)))):AE (.ref a) f v K m:=⟨d,fs,hf,⟨a,rfl,h1,h2⟩,hl,h⟩
theorem ek{a d:Addr}{fs:List (Option ae)}{P:Prop}(h1:m a=some (.inst d))(h2:m d=some (.flds fs))(h:P):C5 m (.ref a)/\P:=⟨⟨a,d,fs,rfl,h1,h2⟩,h⟩
theorem Ci{f:Nat}{args:fC}(h:lx C G iZ args loc (fun vs m1=>∀x,m1 x=Option.none->C f (.ref x::vs) (fun _ _=>False) (fun c m'=>Y c loc m') m1) m):vP C G (.newR f args) R Y loc m:=h
theorem AS{o:Ex}{f:Nat}{args:fC}(h:bk C G iZ o loc (fun x m1=>C5 m1 x/\lx C G iZ args loc (fun vs m2=>C f (x::vs) (fun _ _=>False) (fun c m'=>Y c loc m') m2) m1) m):vP C G (.methR o f args) R Y loc m:=h
theorem nV{v:ae}{xs:List ae}{P:List ae->Prop}(e:lst m v=some xs)(hl:xs.length<br)(h:P (j0 0 xs)):dX .enum v P m:=KF xs ⟨e,hl,h⟩
theorem A9{x y:Str}{P:Bool->Mem->Prop}(h:P (x==y) m):cE .eq (.str x) (.str y) P m:=Or.inr (Or.inl ⟨x,y,rfl,rfl,h⟩)
theorem ik{P:Prop}(h:P):lN .none/\P:=⟨trivial,h⟩
theorem BX{t:Tg}{k:i5}{src:Ex}{b:eM}(h:bk C G iZ src loc (fun v m1=>dX k v (fun xs=>forLoop (oa t (fun Q' l m'=>bJ C G b Q' (Hn Y) l m')) (stands k v m1) xs R loc m1) m1) m):vP C G (.fors t k src b) R Y loc m:=h
theorem ar{v:ae}{xs:List ae}{P:List ae->Prop}(e:seq m v=some xs)(hl:xs.length<br)(h:P xs):dX .plain v P m:=KF xs ⟨e,hl,h⟩
theorem aV{n:Int}{P:List ae->Prop}(hl:0<=n/\n<br)(h:P (bP n)):dX .range (.int n) P m:=KF n ⟨rfl,hl,h⟩
theorem au{I:aL->Mem->Prop}(h:I loc m):qp R I .next loc m:=h
theorem d8{I:aL->Mem->Prop}{v:ae}(h:R (.ret v) loc m):qp R I (.ret v) loc m:=h
theorem bg{f:ae->(Flow->aL->Mem->Prop)->aL->Mem->Prop}{ok:Mem->Prop}{xs:List ae}(I:Nat->aL->Mem->Prop)(h0:I 0 loc m)
  (step:∀i x l m,xs[i]? =some x->I i l m->∀P:aL->Mem->Prop,(∀l' m',ok m'/\I (i+1) l' m'->P l' m')->f x (qp R P) l m)
  (done:∀l m,I xs.length l m->R .next l m):forLoop f ok xs R loc m:=by
 induction xs generalizing I loc m with
 |nil=>exact done _ _ h0
 |cons y r ih=>exact step 0 y _ _ rfl h0 _ fun l' m' q=>⟨q.1,ih (fun i=>I (i+1)) q.2 (fun i x l m e hI=>step (i+1) x l m e hI) done⟩
end steps
end TD.Internal
namespace TD.Internal
open PySem PyProof.Rows
noncomputable def nI (sc:Scope) (x:Str):Bool:=match sc.names.lookup x with
 |some .local=>true
 |some .cell=>true
 |some .free=>true
 |_=>false
noncomputable def yy (sc:Scope) (x:Str):Bool:=sc.names.lookup x==some .globalImplicit
noncomputable def gK (x:Str):Bool:=!(x==("__debug__":Str))&& !(x==("__classdict__":Str))&& !(x==("":Str))
noncomputable def bW (sc:Scope) (s:String) (x:Str):Bool:=x==Str.ofString s&&yy sc x&&gK x
noncomputable def z9.op:z9->Operator
 | .add=> .Add
 | .sub=> .Sub
 | .mul=> .Mult
 | .fdiv=> .FloorDiv
 | .mod=> .Mod
noncomputable def vV.op:vV->CmpOp
 | .eq=> .Eq
 | .ne=> .NotEq
 | .lt=> .Lt
 | .le=> .LtE
 | .gt=> .Gt
 | .ge=> .GtE
 | .inn=> .In
 | .notin=> .NotIn
noncomputable def vp (op:z9) (o:Operator):Bool:=o==op.op
noncomputable def mG (op:vV) (o:CmpOp):Bool:=o==op.op
theorem zM{op:z9}{o:Operator}(h:vp op o=true):o=op.op:=beq_iff_eq.mp h
theorem z2{op:vV}{o:CmpOp}(h:mG op o=true):o=op.op:=beq_iff_eq.mp h
noncomputable def B1.call:B1->String
 | .len=>"len"| .all=>"all"| .sum=>"sum"| .minL=>"min"| .list=>"list"| .tuple=>"tuple"| .sorted=>"sorted"| .int=>"int"| .lrange=>"list"| .lrev=>"list"
noncomputable def B1.inner:B1->Option String
 | .lrange=>some "range"| .lrev=>some "reversed"|_=>none
noncomputable def ie.name:ie->String
 | .int=>"int"| .bool=>"bool"| .list=>"list"| .tuple=>"tuple"| .str=>"str"| .ValueError=>"ValueError"| .DealError=>"DealError"| .BadTable=>"BadTable"| .BadShares=>"BadShares"| .BadHeir=>"BadHeir"| .BadThing=>"BadThing"
 | .BadRing=>"BadRing"| .BadOrder=>"BadOrder"| .Full=>"Full"| .BadNote=>"BadNote"
noncomputable def ie.bi:ie->String
 | .int=>"int"| .bool=>"bool"| .list=>"list"|_=>""
noncomputable def i5.call:i5->Option String
 | .plain=>none| .range=>some "range"| .enum=>some "enumerate"
noncomputable def i5.two (k:i5) (t:Tg):Bool:=match k with| .enum=>(match t with| .two _ _=>true| .one _=>false)|_=>true
noncomputable def kK (e:KX):Bool:=!(e.ctorIdx==16)
noncomputable def rC (o:KX) (ap p:Pos):Bool:=kK o&&ap.endLine==p.line
noncomputable def ig {α:Type} (xs:List α) (k:α->Bool):Bool:=match xs with| [x]=>k x|_=>false
noncomputable def vh {α:Type} (xs:List α) (k:α->α->Bool):Bool:=match xs with| [x,y]=>k x y|_=>false
noncomputable def mS (a b:Nat) (k:a=b->Bool):Bool:=if h:a=b then k h else false
theorem nb{p:Prop}(h:false=true):p:=Bool.noConfusion h
theorem aN{a b:Nat}{k:a=b->Bool}(h:mS a b k=true):∃e,k e=true:=by
 unfold mS at h
 by_cases q:a=b
 ·rw[dif_pos q] at h;exact⟨q,h⟩
 ·rw[dif_neg q] at h;exact nb h
noncomputable def gR (e:KX) (k:Str->Bool):Bool:=mS e.ctorIdx 23 fun h=>Expr.Name.elim (motive_1:=fun _=>Bool) e h fun x _=>k x
theorem gM{e:KX}{k:Str->Bool}(h:gR e k=true):∃x p,e= .Name x p/\k x=true:=by
 obtain⟨hc,h⟩:=aN h
 exact Expr.Name.elim (motive_1:=fun e=>∀hc:e.ctorIdx=23,(Expr.Name.elim (motive_1:=fun _=>Bool) e hc fun x _=>k x)=true->∃x p,e= .Name x p/\k x=true) e hc (fun x p _ h=>⟨x,p,rfl,h⟩) hc h
@[elab_as_elim] theorem bM{e:KX}{k:Str->Bool}(h:gR e k=true){P:KX->Prop}(kk:∀x p,k x=true->P (.Name x p)):P e:=by
 obtain⟨hc,h⟩:=aN h
 exact Expr.Name.elim (motive_1:=fun e=>∀hc:e.ctorIdx=23,(Expr.Name.elim (motive_1:=fun _=>Bool) e hc fun x _=>k x)=true->P e) e hc (fun x p _ h=>kk x p h) hc h
noncomputable def eo (e:KX) (k:Const->Bool):Bool:=mS e.ctorIdx 19 fun h=>Expr.Constant.elim (motive_1:=fun _=>Bool) e h fun c _ _=>k c
@[elab_as_elim] theorem bu{e:KX}{k:Const->Bool}(h:eo e k=true){P:KX->Prop}(kk:∀c n p,k c=true->P (.Constant c n p)):P e:=by
 obtain⟨hc,h⟩:=aN h
 exact Expr.Constant.elim (motive_1:=fun e=>∀hc:e.ctorIdx=19,(Expr.Constant.elim (motive_1:=fun _=>Bool) e hc fun c _ _=>k c)=true->P e) e hc (fun c n p _ h=>kk c n p h) hc h
noncomputable def wk (e:KX) (k:KX->Operator->KX->Bool):Bool:=mS e.ctorIdx 2 fun h=>Expr.BinOp.elim (motive_1:=fun _=>Bool) e h fun l o r _=>k l o r
@[elab_as_elim] theorem iI{e:KX}{k:KX->Operator->KX->Bool}(h:wk e k=true){P:KX->Prop}(kk:∀l o r p,k l o r=true->P (.BinOp l o r p)):P e:=by
 obtain⟨hc,h⟩:=aN h
 exact Expr.BinOp.elim (motive_1:=fun e=>∀hc:e.ctorIdx=2,(Expr.BinOp.elim (motive_1:=fun _=>Bool) e hc fun l o r _=>k l o r)=true->P e) e hc (fun l o r p _ h=>kk l o r p h) hc h
noncomputable def C6 (e:KX) (k:UnaryOp->KX->Bool):Bool:=mS e.ctorIdx 3 fun h=>Expr.UnaryOp.elim (motive_1:=fun _=>Bool) e h fun o x _=>k o x
theorem Au{e:KX}{k:UnaryOp->KX->Bool}(h:C6 e k=true):∃o x p,e= .UnaryOp o x p/\k o x=true:=by
 obtain⟨hc,h⟩:=aN h
 exact Expr.UnaryOp.elim (motive_1:=fun e=>∀hc:e.ctorIdx=3,(Expr.UnaryOp.elim (motive_1:=fun _=>Bool) e hc fun o x _=>k o x)=true->∃o x p,e= .UnaryOp o x p/\k o x=true) e hc (fun o x p _ h=>⟨o,x,p,rfl,h⟩) hc h
@[elab_as_elim] theorem lD{e:KX}{k:UnaryOp->KX->Bool}(h:C6 e k=true){P:KX->Prop}(kk:∀o x p,k o x=true->P (.UnaryOp o x p)):P e:=by
 obtain⟨hc,h⟩:=aN h
 exact Expr.UnaryOp.elim (motive_1:=fun e=>∀hc:e.ctorIdx=3,(Expr.UnaryOp.elim (motive_1:=fun _=>Bool) e hc fun o x _=>k o x)=true->P e) e hc (fun o x p _ h=>kk o x p h) hc h
noncomputable def nj (e:KX) (k:BoolOp->(List KX)->Bool):Bool:=mS e.ctorIdx 0 fun h=>Expr.BoolOp.elim (motive_1:=fun _=>Bool) e h fun o x _=>k o x
@[elab_as_elim] theorem j4{e:KX}{k:BoolOp->(List KX)->Bool}(h:nj e k=true){P:KX->Prop}(kk:∀o x p,k o x=true->P (.BoolOp o x p)):P e:=by
 obtain⟨hc,h⟩:=aN h
 exact Expr.BoolOp.elim (motive_1:=fun e=>∀hc:e.ctorIdx=0,(Expr.BoolOp.elim (motive_1:=fun _=>Bool) e hc fun o x _=>k o x)=true->P e) e hc (fun o x p _ h=>kk o x p h) hc h
noncomputable def wm (e:KX) (k:KX->(List CmpOp)->(List KX)->Bool):Bool:=mS e.ctorIdx 15 fun h=>Expr.Compare.elim (motive_1:=fun _=>Bool) e h fun l o r _=>k l o r
@[elab_as_elim] theorem iz{e:KX}{k:KX->(List CmpOp)->(List KX)->Bool}(h:wm e k=true){P:KX->Prop}(kk:∀l o r p,k l o r=true->P (.Compare l o r p)):P e:=by
 obtain⟨hc,h⟩:=aN h
 exact Expr.Compare.elim (motive_1:=fun e=>∀hc:e.ctorIdx=15,(Expr.Compare.elim (motive_1:=fun _=>Bool) e hc fun l o r _=>k l o r)=true->P e) e hc (fun l o r p _ h=>kk l o r p h) hc h
noncomputable def vl (e:KX) (k:KX->(List KX)->(List Keyword)->Pos->Bool):Bool:=mS e.ctorIdx 16 fun h=>Expr.Call.elim (motive_1:=fun _=>Bool) e h fun f es ks p=>k f es ks p
theorem t9{e:KX}{k:KX->(List KX)->(List Keyword)->Pos->Bool}(h:vl e k=true):∃f es ks p,e= .Call f es ks p/\k f es ks p=true:=by
 obtain⟨hc,h⟩:=aN h
 exact Expr.Call.elim (motive_1:=fun e=>∀hc:e.ctorIdx=16,(Expr.Call.elim (motive_1:=fun _=>Bool) e hc fun f es ks p=>k f es ks p)=true->∃f es ks p,e= .Call f es ks p/\k f es ks p=true) e hc (fun f es ks p _ h=>⟨f,es,ks,p,rfl,h⟩) hc h
@[elab_as_elim] theorem qQ{e:KX}{k:KX->(List KX)->(List Keyword)->Pos->Bool}(h:vl e k=true){P:KX->Prop}(kk:∀f es ks p,k f es ks p=true->P (.Call f es ks p)):P e:=by
 obtain⟨hc,h⟩:=aN h
 exact Expr.Call.elim (motive_1:=fun e=>∀hc:e.ctorIdx=16,(Expr.Call.elim (motive_1:=fun _=>Bool) e hc fun f es ks p=>k f es ks p)=true->P e) e hc (fun f es ks p _ h=>kk f es ks p h) hc h
noncomputable def tD (e:KX) (k:KX->Str->Pos->Bool):Bool:=mS e.ctorIdx 20 fun h=>Expr.Attribute.elim (motive_1:=fun _=>Bool) e h fun o n p=>k o n p
@[elab_as_elim] theorem gr{e:KX}{k:KX->Str->Pos->Bool}(h:tD e k=true){P:KX->Prop}(kk:∀o n p,k o n p=true->P (.Attribute o n p)):P e:=by
 obtain⟨hc,h⟩:=aN h
 exact Expr.Attribute.elim (motive_1:=fun e=>∀hc:e.ctorIdx=20,(Expr.Attribute.elim (motive_1:=fun _=>Bool) e hc fun o n p=>k o n p)=true->P e) e hc (fun o n p _ h=>kk o n p h) hc h
noncomputable def uU (e:KX) (k:KX->KX->Bool):Bool:=mS e.ctorIdx 21 fun h=>Expr.Subscript.elim (motive_1:=fun _=>Bool) e h fun a i _=>k a i
@[elab_as_elim] theorem f9{e:KX}{k:KX->KX->Bool}(h:uU e k=true){P:KX->Prop}(kk:∀a i p,k a i=true->P (.Subscript a i p)):P e:=by
 obtain⟨hc,h⟩:=aN h
 exact Expr.Subscript.elim (motive_1:=fun e=>∀hc:e.ctorIdx=21,(Expr.Subscript.elim (motive_1:=fun _=>Bool) e hc fun a i _=>k a i)=true->P e) e hc (fun a i p _ h=>kk a i p h) hc h
noncomputable def lb (e:KX) (k:(List KX)->Bool):Bool:=mS e.ctorIdx 24 fun h=>Expr.List.elim (motive_1:=fun _=>Bool) e h fun a _=>k a
theorem xO{e:KX}{k:(List KX)->Bool}(h:lb e k=true):∃a p,e= .List a p/\k a=true:=by
 obtain⟨hc,h⟩:=aN h
 exact Expr.List.elim (motive_1:=fun e=>∀hc:e.ctorIdx=24,(Expr.List.elim (motive_1:=fun _=>Bool) e hc fun a _=>k a)=true->∃a p,e= .List a p/\k a=true) e hc (fun a p _ h=>⟨a,p,rfl,h⟩) hc h
@[elab_as_elim] theorem gy{e:KX}{k:(List KX)->Bool}(h:lb e k=true){P:KX->Prop}(kk:∀a p,k a=true->P (.List a p)):P e:=by
 obtain⟨hc,h⟩:=aN h
 exact Expr.List.elim (motive_1:=fun e=>∀hc:e.ctorIdx=24,(Expr.List.elim (motive_1:=fun _=>Bool) e hc fun a _=>k a)=true->P e) e hc (fun a p _ h=>kk a p h) hc h
noncomputable def CV (e:KX) (k:(List KX)->Bool):Bool:=mS e.ctorIdx 25 fun h=>Expr.Tuple.elim (motive_1:=fun _=>Bool) e h fun a _ _=>k a
@[elab_as_elim] theorem vf{e:KX}{k:(List KX)->Bool}(h:CV e k=true){P:KX->Prop}(kk:∀a n p,k a=true->P (.Tuple a n p)):P e:=by
 obtain⟨hc,h⟩:=aN h
 exact Expr.Tuple.elim (motive_1:=fun e=>∀hc:e.ctorIdx=25,(Expr.Tuple.elim (motive_1:=fun _=>Bool) e hc fun a _ _=>k a)=true->P e) e hc (fun a n p _ h=>kk a n p h) hc h
noncomputable def Hh (e:KX) (k:KX->(List Comprehension)->Scope->Bool):Bool:=mS e.ctorIdx 8 fun h=>Expr.ListComp.elim (motive_1:=fun _=>Bool) e h fun a gs sc _=>k a gs sc
theorem Ap{e:KX}{k:KX->(List Comprehension)->Scope->Bool}(h:Hh e k=true):∃a gs sc p,e= .ListComp a gs sc p/\k a gs sc=true:=by
 obtain⟨hc,h⟩:=aN h
 exact Expr.ListComp.elim (motive_1:=fun e=>∀hc:e.ctorIdx=8,(Expr.ListComp.elim (motive_1:=fun _=>Bool) e hc fun a gs sc _=>k a gs sc)=true->∃a gs sc p,e= .ListComp a gs sc p/\k a gs sc=true) e hc (fun a gs sc p _ h=>⟨a,gs,sc,p,rfl,h⟩) hc h
@[elab_as_elim] theorem wU{e:KX}{k:KX->(List Comprehension)->Scope->Bool}(h:Hh e k=true){P:KX->Prop}(kk:∀a gs sc p,k a gs sc=true->P (.ListComp a gs sc p)):P e:=by
 obtain⟨hc,h⟩:=aN h
 exact Expr.ListComp.elim (motive_1:=fun e=>∀hc:e.ctorIdx=8,(Expr.ListComp.elim (motive_1:=fun _=>Bool) e hc fun a gs sc _=>k a gs sc)=true->P e) e hc (fun a gs sc p _ h=>kk a gs sc p h) hc h
noncomputable def zz (e:KX) (k:(List (Option KX))->(List KX)->Bool):Bool:=mS e.ctorIdx 6 fun h=>Expr.Dict.elim (motive_1:=fun _=>Bool) e h fun a b _=>k a b
@[elab_as_elim] theorem tU{e:KX}{k:(List (Option KX))->(List KX)->Bool}(h:zz e k=true){P:KX->Prop}(kk:∀a b p,k a b=true->P (.Dict a b p)):P e:=by
 obtain⟨hc,h⟩:=aN h
 exact Expr.Dict.elim (motive_1:=fun e=>∀hc:e.ctorIdx=6,(Expr.Dict.elim (motive_1:=fun _=>Bool) e hc fun a b _=>k a b)=true->P e) e hc (fun a b p _ h=>kk a b p h) hc h
noncomputable def Cy (e:KX):Bool:=zz e fun a b=>a.isEmpty&&b.isEmpty
noncomputable def c0 {α:Type} (o:Option α) (k:α->Bool):Bool:=match o with|some x=>k x|none=>false
noncomputable def El (up:Bool) (l u:Option KX) (k:KX->Bool):Bool:=match up with|true=>u.isNone&&c0 l k|false=>l.isNone&&c0 u k
noncomputable def JU (up:Bool) (e:KX) (k:KX->Bool):Bool:=mS e.ctorIdx 26 fun h=>Expr.Slice.elim (motive_1:=fun _=>Bool) e h fun l u st _=>st.isNone&&El up l u k
noncomputable def qE (e:KX) (k:KX->List KX->Pos->Bool):Bool:=vl e fun f es ks p=>ks.isEmpty&&k f es p
noncomputable def fF (e:KX) (k:Str->List KX->Bool):Bool:=qE e fun f es _=>gR f fun x=>k x es
noncomputable def tT (e:KX) (n:String) (k:KX->List KX->Bool):Bool:=qE e fun f es p=>tD f fun o n' ap=>rC o ap p&&(n'==Str.ofString n&&k o es)
theorem bX{α:Type}{o:Option α}{k:α->Bool}(h:c0 o k=true):∃x,o=some x/\k x=true:=by
 cases o with
 |none=>exact Bool.noConfusion (h:false=true)
 |some x=>exact⟨x,rfl,h⟩
@[elab_as_elim] theorem cQ{α:Type}{o:Option α}{k:α->Bool}(h:c0 o k=true){P:Option α->Prop}(kk:∀x,k x=true->P (some x)):P o:=by
 cases o with
 |none=>exact Bool.noConfusion (h:false=true)
 |some x=>exact kk x h
theorem no{α:Type}{x:α}{p:Prop}(h:none=some x):p:=nomatch h
theorem sN{α:Type}{xs:List α}{k:α->Bool}(h:ig xs k=true):∃x,xs= [x]/\k x=true:=by
 cases xs with
 |nil=>exact nb h
 |cons x r=>cases r with
  |nil=>exact⟨x,rfl,h⟩
  |cons _ _=>exact nb h
@[elab_as_elim] theorem bc{α:Type}{xs:List α}{k:α->Bool}(h:ig xs k=true){P:List α->Prop}(kk:∀x,k x=true->P ([x])):P xs:=by
 cases xs with
 |nil=>exact nb h
 |cons x r=>cases r with
  |nil=>exact kk x h
  |cons _ _=>exact nb h
@[elab_as_elim] theorem eQ{α:Type}{xs:List α}{k:α->α->Bool}(h:vh xs k=true){P:List α->Prop}(kk:∀x y,k x y=true->P ([x,y])):P xs:=by
 cases xs with
 |nil=>exact nb h
 |cons x r=>cases r with
  |nil=>exact nb h
  |cons y r=>cases r with
   |nil=>exact kk x y h
   |cons _ _=>exact nb h
theorem xr{e:KX}{k:KX->List KX->Pos->Bool}(h:qE e k=true):∃f es p,e= .Call f es [] p/\k f es p=true:=by
 refine CC (t9 h:) ?_;clear h;intro f es ks p e13r0_4 h
 subst e13r0_4
 cases ks with
 |nil=>exact⟨f,es,p,rfl,h⟩
 |cons _ _=>exact nb h
@[elab_as_elim] theorem jy{e:KX}{k:KX->List KX->Pos->Bool}(h:qE e k=true){P:KX->Prop}(kk:∀f es p,k f es p=true->P (.Call f es [] p)):P e:=by
 refine qQ h ?_;clear h;intro f es ks p h
 cases ks with
 |nil=>exact kk f es p h
 |cons _ _=>exact nb h
theorem sT{e:KX}{k:Str->Bool}(h:gR e k=true):e.ctorIdx=23:=(aN h).1
theorem jN{e:KX}{k:Const->Bool}(h:eo e k=true):e.ctorIdx=19:=(aN h).1
theorem AY{e:KX}{k:KX->Operator->KX->Bool}(h:wk e k=true):e.ctorIdx=2:=(aN h).1
theorem yL{e:KX}{k:UnaryOp->KX->Bool}(h:C6 e k=true):e.ctorIdx=3:=(aN h).1
theorem uF{e:KX}{k:BoolOp->List KX->Bool}(h:nj e k=true):e.ctorIdx=0:=(aN h).1
theorem r5{e:KX}{k:KX->List CmpOp->List KX->Bool}(h:wm e k=true):e.ctorIdx=15:=(aN h).1
theorem eu{e:KX}{k:KX->List KX->Pos->Bool}(h:qE e k=true):e.ctorIdx=16:=(aN h).1
theorem rf{e:KX}{k:KX->KX->Bool}(h:uU e k=true):e.ctorIdx=21:=(aN h).1
theorem z4{e:KX}{k:(List KX)->Bool}(h:lb e k=true):e.ctorIdx=24:=(aN h).1
theorem z7{e:KX}{k:(List (Option KX))->(List KX)->Bool}(h:zz e k=true):e.ctorIdx=6:=(aN h).1
theorem Aj{e:KX}{k:(List KX)->Bool}(h:CV e k=true):e.ctorIdx=25:=(aN h).1
theorem Cj{e:KX}{k:KX->List Comprehension->Scope->Bool}(h:Hh e k=true):e.ctorIdx=8:=(aN h).1
theorem kl{e:KX}{k:Str->List KX->Bool}(h:fF e k=true):∃x px es p,e= .Call (.Name x px) es [] p/\k x es=true:=by
 refine mT (xr h:) ?_;clear h;intro f es p e14r0_3 h
 subst e14r0_3
 refine cG (gM h:) ?_;clear h;intro x px e15r0_2 h
 subst e15r0_2
 exact⟨x,px,es,p,rfl,h⟩
@[elab_as_elim] theorem bI{e:KX}{k:Str->List KX->Bool}(h:fF e k=true){P:KX->Prop}(kk:∀x px es p,k x es=true->P (.Call (.Name x px) es [] p)):P e:=by
 refine jy h ?_;clear h;intro f es p h
 refine bM h ?_;clear h;intro x px h
 exact kk x px es p h
theorem bT{a b:Bool}(h:(a&&b)=true):a=true/\b=true:=La.mp h
theorem aj{a b:Bool}{g:Prop}(h:(a&&b)=true)(f:a=true->b=true->g):g:=f (bT h).1 (bT h).2
@[elab_as_elim] theorem fP{α:Type}[BEq α][LawfulBEq α]{a b:α}{P:α->Prop}(h:(a==b)=true)(f:P b):P a:=(beq_iff_eq.mp h).symm▸f
@[elab_as_elim] theorem gC{e:KX}{n:String}{k:KX->List KX->Bool}(h:tT e n k=true){P:KX->Prop}(kk:∀o ap es p,rC o ap p=true->k o es=true->P (.Call (.Attribute o (Str.ofString n) ap) es [] p)):P e:=by
 refine jy h ?_;clear h;intro f es p h
 refine gr h ?_;clear h;intro o n' ap h
 refine aj h ?_;clear h;intro h1 h
 refine aj h fun h2 h3=>?_
 refine fP h2 ?_
 exact kk o ap es p h1 h3
theorem ij{α:Type}{o:Option α}(h:o.isNone=true):o=none:=by
 cases o with
 |none=>rfl
 |some _=>exact nb h
noncomputable def qz (up:Bool) (e:KX):Option KX:=match up with|true=>some e|false=>none
@[elab_as_elim] theorem xw{up:Bool}{e:KX}{k:KX->Bool}(h:JU up e k=true){P:KX->Prop}(kk:∀x p,k x=true->P (.Slice (qz up x) (qz (!up) x) none p)):P e:=by
 obtain⟨hc,h⟩:=aN h
 refine Expr.Slice.elim (motive_1:=fun e=>∀hc:e.ctorIdx=26,(Expr.Slice.elim (motive_1:=fun _=>Bool) e hc fun l u st _=>st.isNone&&El up l u k)=true->P e) e hc (fun l u st p _ h=>?_) hc h
 refine aj h ?_;clear h;intro h1 h
 obtain rfl:=ij h1
 cases up with
 |true=>
  refine aj h ?_;clear h;intro h2 h
  obtain rfl:=ij h2
  refine cQ h ?_;clear h;intro x h
  exact kk x p h
 |false=>
  refine aj h ?_;clear h;intro h2 h
  obtain rfl:=ij h2
  refine cQ h ?_;clear h;intro x h
  exact kk x p h
noncomputable def rv:Bool->String
 |true=>"max"
 |false=>"min"
noncomputable def kG (e:KX):Option Str:=if h:e.ctorIdx=23 then Expr.Name.elim (motive_1:=fun _=>Option Str) e h fun x _=>some x else none
noncomputable def sr (e:KX):List KX:=if h:e.ctorIdx=25 then Expr.Tuple.elim (motive_1:=fun _=>List KX) e h fun xs _ _=>xs else []
noncomputable def xZ (i j:Nat) (x y:Option Str):Option (List (Nat×Str)):=match x,y with
 |some x,some y=>if x==y||i==j then none else some [(i,x),(j,y)]
 |_,_=>none
noncomputable def Bo (i j:Nat):List KX->Option (List (Nat×Str))
 | [a,b]=>xZ i j (kG a) (kG b)
 |_=>none
noncomputable def i7 (t:Tg) (e:KX):Option (List (Nat×Str)):=match t with
 | .one i=>(kG e).map fun x=>[(i,x)]
 | .two i j=>Bo i j (sr e)
theorem lL{e:KX}{x:Str}(h:kG e=some x):∃p,e= .Name x p:=by
 unfold kG at h
 by_cases q:e.ctorIdx=23
 ·rw[dif_pos q] at h
  exact Expr.Name.elim (motive_1:=fun e=>∀q:e.ctorIdx=23,(Expr.Name.elim (motive_1:=fun _=>Option Str) e q fun x _=>some x)=some x->∃p,e= .Name x p) e q (fun y p _ h=>⟨p,by (injection h with h;cases h);rfl⟩) q h
 ·rw[dif_neg q] at h;exact no h
theorem yB{e:KX}(h:sr e≠ []):∃n p,e= .Tuple (sr e) n p:=by
 by_cases q:e.ctorIdx=25
 ·exact Expr.Tuple.elim (motive_1:=fun e=>∃n p,e= .Tuple (sr e) n p) e q fun xs n p=>⟨n,p,rfl⟩
 ·exact absurd (by unfold sr;exact rwl (dif_neg q) rfl:sr e= []) h
theorem lV{i:Nat}{e:KX}{new:List (Nat×Str)}(h:i7 (.one i) e=some new):∃x p,e= .Name x p/\new= [(i,x)]:=by
 refine af (KD.mp h:) fun x hx e26r0_2=>?_
 subst e26r0_2
 refine aO (lL hx:) fun p e27r0_1=>?_
 subst e27r0_1
 exact⟨x,p,rfl,rfl⟩
theorem fS{i j:Nat}{e:KX}{new:List (Nat×Str)}(h:i7 (.two i j) e=some new):∃x px y py n p,e= .Tuple [.Name x px,.Name y py] n p/\x≠y/\i≠j/\new= [(i,x),(j,y)]:=by
 have h:Bo i j (sr e)=some new:=h
 cases hx:sr e with
 |nil=>rw[hx] at h;exact no h
 |cons a r=>cases r with
  |nil=>rw[hx] at h;exact no h
  |cons b r=>cases r with
   |cons _ _=>rw[hx] at h;exact no h
   |nil=>
    rw[hx] at h
    have h:xZ i j (kG a) (kG b)=some new:=h
    refine zi (yB (e:=e) (by refine rwl hx ?_;exact List.cons_ne_nil _ _):) fun n p he=>?_
    rw[hx] at he
    cases ha:kG a with
    |none=>rw[ha] at h;exact no h
    |some x=>cases hb:kG b with
     |none=>rw[ha,hb] at h;exact no h
     |some y=>
      rw[ha,hb] at h
      refine aO (lL ha:) fun px ea=>?_
      refine aO (lL hb:) fun py eb=>?_
      have h6:(if (x==y||i==j)=true then none else some [(i,x),(j,y)])=some new:=h
      by_cases q1:x=y
      ·rw[if_pos (by refine rwl (beq_iff_eq.mpr q1) ?_;rfl)] at h6;exact no h6
      ·by_cases q2:i=j
       ·rw[if_pos (by exact rwl (beq_iff_eq.mpr q2 ..) (rwl (Bool.or_true ..) rfl))] at h6;exact no h6
       ·rw[if_neg (by refine rwl (beq_false_of_ne q1) (rwl (beq_false_of_ne q2) ?_);exact M6)] at h6
        exact⟨x,px,y,py,n,p,by exact rwl he (rwl ea (rwl eb rfl)),q1,q2,(Option.some.inj h6).symm⟩
noncomputable def rx (sc:Scope) (x:Str):Bool:=match sc.names.lookup x with
 |some .cell=>true
 |some .free=>true
 |_=>false
noncomputable def dM (sc csc:Scope) (new:List (Nat×Str)) (vis:List (Nat×Str)):Bool:=
 csc.kind== .function&& !csc.isGenerator&& !csc.isCoroutine&&
 csc.names.all (fun p=>match p.2 with
  | .local=>csc.names.lookup p.1==some .local&&(p.1==(".0":Str)||new.any fun q=>q.2==p.1)
  | .free=>rx sc p.1
  | .cell=>false
  |_=>true)&&
 new.all (fun q=>csc.names.lookup q.2==some .local)&&vis.all (fun q=>!(q.2==(".0":Str)))&&
 decide (csc.names.map (·.1)).Nodup&&vis.all (fun p=>new.all fun q=>!(p.1==q.1))
noncomputable def dn (new vis:List (Nat×Str)):List (Nat×Str):=new++vis.filter fun p=>!(new.any fun q=>q.2==p.2)
noncomputable def eK (e:KX):Bool:=!(e.ctorIdx==7)
noncomputable def kI (e:KX):Bool:=!(e.ctorIdx==26)
noncomputable def eU:List String:=["come","go","join","shares","table"]
noncomputable def Cw (FT:Nat->Option Fn) (f:Nat) (n:Str):Bool:=c0 (FT f) fun fn=>fn.own&&(eU.contains fn.name&&n==Str.ofString fn.name)
noncomputable def yD (FT:Nat->Option Fn) (sc:Scope) (f:Nat) (x:Str):Bool:=c0 (FT f) fun fn=>fn.own&&(fn.name=="__init__"&&bW sc "Estate" x)
noncomputable def Hc (e:KX) (k:KX->KX->Bool):Bool:=mS e.ctorIdx 26 fun h=>Expr.Slice.elim (motive_1:=fun _=>Bool) e h fun l u st _=>st.isNone&&c0 l fun l=>c0 u fun u=>k l u
@[elab_as_elim] theorem ur{e:KX}{k:KX->KX->Bool}(h:Hc e k=true){P:KX->Prop}(kk:∀x y p,k x y=true->P (.Slice (some x) (some y) none p)):P e:=by
 obtain⟨hc,h⟩:=aN h
 refine Expr.Slice.elim (motive_1:=fun e=>∀hc:e.ctorIdx=26,(Expr.Slice.elim (motive_1:=fun _=>Bool) e hc fun l u st _=>st.isNone&&c0 l fun l=>c0 u fun u=>k l u)=true->P e) e hc (fun l u st p _ h=>?_) hc h
 refine aj h ?_;clear h;intro h1 h
 obtain rfl:=ij h1
 refine cQ h ?_;clear h;intro x h
 refine cQ h ?_;clear h;intro y h
 exact kk x y p h
noncomputable def Cn (FT:Nat->Option Fn) (sc:Scope) (f:Nat) (x:Str):Bool:=match FT f with
 |some fn=>!fn.own&&bW sc fn.name x
 |none=>false
noncomputable def EG (sc:Scope) (c:ie) (e:KX):Bool:=gR e fun y=>bW sc c.bi y
noncomputable def isAnd:Bool->BoolOp
 |true=> .And
 |false=> .Or
noncomputable def Cc:Option Bool->Const
 |none=> .none
 |some b=> .bool b
noncomputable def CH:Bool->CmpOp
 |true=> .Is
 |false=> .IsNot
noncomputable def nY (sc:Scope) (f:Option String) (e:KX) (k:KX->Bool):Bool:=match f with
 |none=>k e
 |some f=>fF e fun x es=>bW sc f x&&ig es k
noncomputable def lG (sc:Scope) (f:Option String) (e e1:KX):Prop:=match f with|none=>e=e1|some f=>∃x px p,e= .Call (.Name x px) [e1] [] p/\bW sc f x=true
mutual
noncomputable def aA (FT:Nat->Option Fn) (ids:List Nat) (vis:List (Nat×Str)) (sc:Scope):Ex->KX->Bool
 | .nm i,e=>gR e fun x=>vis.lookup i==some x&&(nI sc x&&gK x)
 | .int i,e=>eo e fun c=>c== .int i
 | .bool b,e=>eo e fun c=>c== .bool b
 | .none,e=>eo e fun c=>c== .none
 | .glob x,e=>gR e (bW sc x)
 | .bin op a b,e=>wk e fun l o r=>vp op o&&(aA FT ids vis sc a l&&aA FT ids vis sc b r)
 | .not a,e=>C6 e fun o x=>o== .Not&&aA FT ids vis sc a x
 | .neg a,e=>C6 e fun o x=>o== .USub&&aA FT ids vis sc a x
 | .boolop k es,e=>nj e fun o vs=>o==isAnd k&&(!vs.isEmpty&&eH FT ids vis sc es vs)
 | .cmp op a b,e=>wm e fun l os rs=>ig os fun o=>ig rs fun r=>mG op o&&(eK r&&(aA FT ids vis sc a l&&aA FT ids vis sc b r))
 | .cmp2 o1 o2 a b c,e=>wm e fun l os rs=>vh os fun p1 p2=>vh rs fun r1 r2=>mG o1 p1&&(mG o2 p2&&(eK r1&&(eK r2&&(aA FT ids vis sc a l&&(aA FT ids vis sc b r1&&aA FT ids vis sc c r2)))))
 | .isc p a c,e=>wm e fun l os rs=>ig os fun o=>ig rs fun r=>o==CH p&&(aA FT ids vis sc a l&&eo r fun k=>k==Cc c)
 | .call f args,e=>fF e fun x es=>ids.contains f&&(Cn FT sc f x&&(!es.isEmpty&&eH FT ids vis sc args es))
 | .b1 b a,e=>fF e fun x es=>bW sc b.call x&&ig es fun e1=>nY sc b.inner e1 fun e2=>aA FT ids vis sc a e2
 | .isinst a c,e=>fF e fun x es=>bW sc "isinstance" x&&vh es fun e1 e2=>aA FT ids vis sc a e1&&EG sc c e2
 | .append o a,e=>tT e "append" fun e1 es=>ig es fun e2=>aA FT ids vis sc o e1&&aA FT ids vis sc a e2
 | .pop o i,e=>tT e "pop" fun e1 es=>aA FT ids vis sc o e1&&(eH FT ids vis sc i es&&decide (es.length<=1))
 | .index o a,e=>tT e "index" fun e1 es=>ig es fun e2=>aA FT ids vis sc o e1&&aA FT ids vis sc a e2
 | .sub a i,e=>uU e fun e1 e2=>aA FT ids vis sc a e1&&aA FT ids vis sc i e2
 | .slice up a i,e=>uU e fun e1 e2=>JU up e2 fun e3=>aA FT ids vis sc a e1&&aA FT ids vis sc i e3
 | .mm mx a b,e=>fF e fun x es=>bW sc (rv mx) x&&vh es fun e1 e2=>aA FT ids vis sc a e1&&aA FT ids vis sc b e2
 | .lst es,e=>lb e fun xs=>eH FT ids vis sc es xs
 | .tup es,e=>CV e fun xs=>eH FT ids vis sc es xs
 | .comp elt t k src cond,e=>Hh e fun elt' gs csc=>ig gs fun g=>c0 (i7 t g.target) fun new=>
   (decide (g.is_async=0)&&k.two t)&&(dM sc csc new vis&&(eK g.iter&&(nY sc k.call g.iter (fun e1=>aA FT ids vis sc src e1)&&
     (aA FT ids (dn new vis) csc elt elt'&&eH FT ids (dn new vis) csc cond g.ifs))))
 | .str x,e=>eo e fun c=>c== .str (Str.ofString x)
 | .dict0,e=>Cy e
 | .attr o f,e=>tD e fun e1 n _=>decide (f<2)&&(n==Str.ofString (de f)&&(kK e1&&aA FT ids vis sc o e1))
 | .meth o f args,e=>qE e fun fe es p=>tD fe fun e1 n ap=>rC e1 ap p&&(ids.contains f&&(Cw FT f n&&(decide (es.length<29)&&(aA FT ids vis sc o e1&&eH FT ids vis sc args es))))
 | .new f args,e=>fF e fun x es=>ids.contains f&&(yD FT sc f x&&(!es.isEmpty&&eH FT ids vis sc args es))
 | .cut a i j,e=>uU e fun e1 e2=>Hc e2 fun l u=>(eo l fun c=>c== .int i)&&((eo u fun c=>c== .int j)&&aA FT ids vis sc a e1)
noncomputable def eH (FT:Nat->Option Fn) (ids:List Nat) (vis:List (Nat×Str)) (sc:Scope):fC->List KX->Bool
 | .nil,es=>es.isEmpty
 | .cons e es,xs=>match xs with|x::r=>aA FT ids vis sc e x&&eH FT ids vis sc es r| []=>false
end
end TD.Internal
namespace TD.Internal
open PySem PyProof.Rows
noncomputable def PM (W:Cx) (mem:Mem) (s:Kv) (Q:ae->Mem->Prop) (y:KC) (s':Kv):Prop:=
 ∃v mem',aP W s'.heap v y/\bC W mem' s'/\aM fb mem s.heap mem' s'.heap/\Q v mem'
theorem bC.toks{W:Cx}{mem:Mem}{s:Kv}(M:bC W mem s)(t:Nat):bC W mem {s with toks:=t}:=⟨M.stays,M.mems,M.gens,M.os⟩
theorem PM.val{W:Cx}{mem:Mem}{s:Kv}{Q:ae->Mem->Prop}{v:ae}{y:KC}(M:bC W mem s)(hv:aP W s.heap v y)(hq:Q v mem)(t:Nat):PM W mem s Q y {s with toks:=t}:=
 ⟨v,mem,hv,M.toks t,.refl,hq⟩
theorem PM.here{W:Cx}{mem:Mem}{s:Kv}{Q:ae->Mem->Prop}{v:ae}{y:KC}(M:bC W mem s)(hv:aP W s.heap v y)(hq:Q v mem):PM W mem s Q y s:=PM.val M hv hq s.toks
theorem PM.trans{W:Cx}{mem mem':Mem}{s s' s'':Kv}{Q:ae->Mem->Prop}{y:KC}(x:aM fb mem s.heap mem' s'.heap)(p:PM W mem' s' Q y s''):PM W mem s Q y s'':=by
 obtain⟨v,m2,a,b,c,d⟩:=p;exact⟨v,m2,a,b,x.trans c,d⟩
theorem aP.int{W:Cx}{h:Lw}{i:Int}{v:KC}(r:aP W h (.int i) v):∃t,v= .int i t:=r
theorem aP.str{W:Cx}{h:Lw}{i:Str}{v:KC}(r:aP W h (.str i) v):∃t,v= .str i t:=r
theorem aP.mkStr{W:Cx}{h:Lw}{i:Str}{t:Tok}:aP W h (.str i) (.str i t):=KF t rfl
theorem aP.bool{W:Cx}{h:Lw}{i:Bool}{v:KC}(r:aP W h (.bool i) v):v= .bool i:=r
theorem aP.none'{W:Cx}{h:Lw}{v:KC}(r:aP W h .none v):v= .none:=r
theorem aP.ref{W:Cx}{h:Lw}{a:Addr}{v:KC}(r:aP W h (.ref a) v):v= .ref a:=r
theorem aP.mkInt{W:Cx}{h:Lw}{i:Int}{t:Tok}:aP W h (.int i) (.int i t):=KF t rfl
theorem aP.mkBool{W:Cx}{h:Lw}{i:Bool}:aP W h (.bool i) (.bool i):=rfl
theorem aP.mkNone{W:Cx}{h:Lw}:aP W h .none .none:=rfl
theorem aP.mkRef{W:Cx}{h:Lw}{a:Addr}:aP W h (.ref a) (.ref a):=rfl
theorem aJ.inv{W:Cx}{h:Lw}{v:ae}{vs:List ae}{xs:List KC}(r:aJ W h (v::vs) xs):∃y ys,xs=y::ys/\aP W h v y/\aJ W h vs ys:=r
theorem aJ.inv0{W:Cx}{h:Lw}{xs:List KC}(r:aJ W h [] xs):xs= []:=r
theorem aJ.nil{W:Cx}{h:Lw}:aJ W h [] []:=rfl
theorem aJ.cons{W:Cx}{h:Lw}{v:ae}{vs:List ae}{y:KC}{ys:List KC}(a:aP W h v y)(r:aJ W h vs ys):aJ W h (v::vs) (y::ys):=KF y ⟨ys,rfl,a,r⟩
theorem aJ.length{W:Cx}{h:Lw}{vs:List ae}:∀{xs:List KC},aJ W h vs xs->xs.length=vs.length:=by
 induction vs with
 |nil=>intro xs e;cases e.inv0;rfl
 |cons v vs ih=>intro xs e;obtain⟨y,ys,rfl,_,r⟩:=e.inv;exact congrArg NJ (ih r)
theorem aJ.append{W:Cx}{h:Lw}{vs ws:List ae}{ys:List KC}(f:aJ W h ws ys):∀{xs:List KC},aJ W h vs xs->aJ W h (vs++ws) (xs++ys):=by
 induction vs with
 |nil=>intro xs e;cases e.inv0;exact f
 |cons v vs ih=>intro xs e;obtain⟨y,ys,rfl,a,r⟩:=e.inv;exact .cons a (ih r)
theorem aJ.get{W:Cx}{h:Lw}{vs:List ae}:∀{xs:List KC} {i:Nat} {v:ae},aJ W h vs xs->vs[i]? =some v->∃y,xs[i]? =some y/\aP W h v y:=by
 induction vs with
 |nil=>intro xs i v _ e;injection e
 |cons w ws ih=>
  intro xs i v r e
  refine bB r.inv ?_;clear r;intro y ys e0r0_2 a r
  subst e0r0_2
  cases i with
  |zero=>cases e;exact⟨y,rfl,a⟩
  |succ i=>obtain⟨z,hz,q⟩:=ih (i:=i) r e;exact⟨z,hz,q⟩
theorem qZ{mem:Mem}{a:Addr}{xs:List ae}(e:lst mem (.ref a)=some xs):mem a=some (.list xs):=by
 have e:iG (mem a)=some xs:=e
 cases q:mem a with
 |none=>rw[q] at e;exact no e
 |some o=>
  rw[q] at e
  cases o with
  |list ys=>cases e;rfl
  |dict0=>exact no e
  |inst _=>exact no e
  |flds _=>exact no e
theorem cm{W:Cx}{mem:Mem}{s:Kv}(M:bC W mem s){v:ae}{y:KC}{xs:List ae}(hv:aP W s.heap v y)(e:lst mem v=some xs):
  ∃a vs,y= .ref a/\s.heap.IsList a (LK vs)/\aJ W s.heap xs vs:=by
 cases v<;>first|exact no e|skip
 ·rename_i a
  refine aq (M.mems a _ (qZ e):) fun w1r0_0 _=>?_
  refine af w1r0_0 ?_;clear w1r0_0;intro vs w0r1_1 r
  refine aO w0r1_1 ?_;clear w0r1_1;intro n hn
  exact⟨a,vs,hv.ref,⟨_,hn,rfl,n,rfl⟩,r⟩
 ·cases e
  refine bB hv ?_;clear hv;intro a vs e2r0_2 w2r0_3 r
  subst e2r0_2
  refine af w2r0_3 ?_;clear w2r0_3;intro o ho q
  exact⟨a,vs,rfl,⟨o,M.stays a o ho,q⟩,r⟩
theorem IsTup.tuple{h:Lw}{a:Addr}{xs:Array KC}(x:IsTup h a xs):h.IsTuple a xs:=x
variable{W:Cx}{A:Around}{E:KC->Kv->Prop}{env:Env}{vis:List (Nat×Str)}{loc:aL}{mem:Mem}{s:Kv}{Q:ae->Mem->Prop}
theorem bV.push{L:Addr}{h:Lw}(o:Obj):bV L h (h.push o):= .of_keeps fun b x e=>Heap.get?_push_of_some _ e
theorem bR(R:bx W env vis loc mem s){xs:List ae}{vs:List KC}{s':Kv}{a:Addr}{n:Nat}(k:bV env.locals s.heap s'.heap)(ha:s.heap.get? a=none)
  (hl:s'.heap.get? a=some {cls:= .type "list",data:= .seq vs.toArray n}) (hr:aJ W s.heap xs vs) (h:bf mem xs Q) (hg:s'.gens=s.gens:=by rfl) (ho:s'.os=s.os:=by rfl):PM W mem s Q (.ref a) s':=
 ⟨.ref a,mem.set a (.list xs),.mkRef,R.allocM k ha (fun kf=>⟨vs,⟨n,hl⟩,hr.keep kf⟩) hg ho,R.allocS k ha,h.2 a (R.m.mems.fresh ha)⟩
theorem cj(h:Lw):h.get? h.objs.size=none:=by
 cases e:h.get? h.objs.size with
 |none=>rfl
 |some o=>exact absurd (Heap.lt_size e) (Lj _)
theorem cO{n:Nat}(h:n<br):n<=sizeLine:=by unfold br at h;unfold sizeLine;exact Jh h
theorem eZ(R:bx W env vis loc mem s){xs:List ae}{vs:List KC}(hr:aJ W s.heap xs vs)(h:bf mem xs Q):KP (model W.prog W.w) A (newList vs) (PM W mem s Q) E s:=by
 have hsz:vs.length<=sizeLine:=cO (hr.length▸h.1)
 refine wpAny_newObj_type ?_ (by refine(?_:vs.toArray.size<=sizeLine);refine rwl KJ ?_;exact hsz)
 exact bR R (.push _) (cj _) (Heap.get?_push_size _ rfl) hr h
theorem qi{h:Lw}{vs:List KC}{n:Nat}:IsTup (h.push {cls:= .type "tuple",data:= .seq vs.toArray n}) h.objs.size vs.toArray:=⟨_,Heap.get?_push_size _ rfl,rfl,n,rfl⟩
theorem nE(R:bx W env vis loc mem s){xs:List ae}{vs:List KC}(hr:aJ W s.heap xs vs)(hl:xs.length<br)(h:Q (.tup xs) mem):KP (model W.prog W.w) A (newTuple vs) (PM W mem s Q) E s:=by
 have hsz:vs.length<=sizeLine:=cO (hr.length▸hl)
 refine wpAny_newObj_type ?_ (by refine(?_:vs.toArray.size<=sizeLine);refine rwl KJ ?_;exact hsz)
 have k:bV env.locals s.heap (s.heap.push {cls:= .type "tuple",data:= .seq vs.toArray}):= .push _
 refine⟨.tup xs,mem,?_,R.keepM k,R.keepS k,h⟩
 exact KF _ ⟨vs,rfl,qi,hr.keep (R.keepF k)⟩
theorem yJ{x y:Int}(h:small x\/small y):IntMulOk x y:=by
 rcases h with h|h
 ·exact .of_left (intBits_le_64 (by have:=h.1;exact Ig this) (by have:=h.2;exact Hv this))
 ·exact .of_right (intBits_le_64 (by have:=h.1;lia) (by have:=h.2;lia))
theorem Ax{x y:Int}(h:oi y):Builtin.divisionGoesByPylong x y=false:=by
 unfold Builtin.divisionGoesByPylong
 simp only[Bool.and_eq_false_iff,decide_eq_false_iff_not]
 left
 split
 ·walk_at"o"
 ·rename_i q
  have hy:y.natAbs≠0:=by simpa using q
  have:y.natAbs.log2<60:=(Nat.log2_lt hy).mpr (by unfold oi at h;exact Ke h)
  exact JP this
theorem xH(M:bC W mem s){a:Addr}{xs:List ae}(e:lst mem (.ref a)=some xs):mem a=some (.list xs)/\∃vs n,s.heap.get? a=some {cls:= .type "list",data:= .seq (LK vs) n}/\aJ W s.heap xs vs:=by
 refine aq (M.mems a _ (qZ e):) fun w3r0_0 _=>?_
 refine af w3r0_0 ?_;clear w3r0_0;intro vs w2r1_1 r
 refine aO w2r1_1 ?_;clear w2r1_1;intro n hn
 exact⟨qZ e,vs,n,hn,r⟩
theorem pU(vs:List KC):∀(n:Nat) (acc:List KC),List.foldl (fun(x1 x2:Array KC)=>x1++x2) acc.toArray (Kk n vs.toArray)=(acc++(Kk n vs).flatten).toArray
 |0,acc=>by simp
 |n+1,acc=>by
  simp only[Nv,List.foldl_cons,List.append_toArray,L3]
  refine rwl (pU vs n ..) ?_
  simp
theorem aJ.rep{h:Lw}{xs:List ae}{vs:List KC}(r:aJ W h xs vs):∀n:Nat,aJ W h (Kk n xs).flatten (Kk n vs).flatten
 |0=> .nil
 |n+1=>by simp only[Nv,L3];exact(r.rep n).append r
theorem jB(R:bx W env vis loc mem s){op:z9}{o:Operator}{x y:ae}{a b:KC}(hx:aP W s.heap x a)(hy:aP W s.heap y b)(ho:vp op o=true)(h:gq op x y Q mem):
  KP (model W.prog W.w) A (binaryOp o a b) (PM W mem s Q) E s:=by
 obtain rfl:=zM ho
 cases op with
 |add=>
  rcases h with ⟨i,j,rfl,rfl,h⟩|⟨_,_,xs,ys,rfl,rfl,ex,ey,hf⟩
  ·obtain⟨t,rfl⟩:=hx.int;obtain⟨u,rfl⟩:=hy.int
   exact add_int (PM.val R.m .mkInt h _)
  ·refine bB (cm R.m hx ex:) fun a1 v1 e4r0_2 l1 r1=>?_
   subst e4r0_2
   refine bB (cm R.m hy ey:) fun a2 v2 e5r0_2 l2 r2=>?_
   subst e5r0_2
   refine aO R.hasNs fun m hn=>?_
   refine aq (rU hn:) fun F N=>?_
   have hsz:v1.length+v2.length<=sizeLine:=cO (by have:=hf.1;rw[Km] at this;refine rwl r1.length (rwl r2.length ?_);exact this)
   refine add_lists F N l1 l2 (hsz:=hsz) fun h' F' N'=>?_
   have k:=bV.of_fr hn F' N' fun p hp=> .tail _ hp
   exact bR R k (cj _) (N' _ (.head _)).1 (r2.append r1) hf
 |sub=>
  refine bB h ?_;clear h;intro i j e8r0_2 e8r0_3 h
  subst e8r0_2
  subst e8r0_3
  obtain⟨t,rfl⟩:=hx.int;obtain⟨u,rfl⟩:=hy.int
  exact sub_int (PM.val R.m .mkInt h _)
 |mul=>
  rcases h with ⟨i,j,rfl,rfl,h⟩|⟨_,i,xs,rfl,rfl,ex,h0,hl,hf⟩
  ·obtain⟨t,rfl⟩:=hx.int;obtain⟨u,rfl⟩:=hy.int
   exact mul_int (PM.val R.m .mkInt h.2 _) (yJ h.1)
  ·obtain rfl:=hx.ref
   obtain⟨em,v1,n1,l1,r1⟩:=xH R.m ex
   refine aO hy.int fun u e10r0_1=>?_
   subst e10r0_1
   refine aO R.hasNs fun m hn=>?_
   refine aq (rU hn:) fun F N=>?_
   have hlen:∀n:Nat,(Kk n v1).flatten.length=n*v1.length:=fun n=>by simp
   have hsz:v1.toArray.size*i.toNat<=2^24:=by
    have h1:=cO hf.1
    rw[<-(r1.rep i.toNat).length,hlen] at h1
    refine rwl (KJ ..) (rwl (Nat.mul_comm ..) ?_);exact h1
   refine mul_list F N l1 (It h0) (by unfold br at hl;exact Jz hl) hsz fun h' F' N'=>?_
   have k:=bV.of_fr hn F' N' fun p hp=> .tail _ hp
   refine bR R k (cj _) (n:=0) (vs:=(Kk i.toNat v1).flatten) ?_ (r1.rep _) hf
   refine rwl ((N' _ (.head _)).1) ?_
   have e2:List.foldl (fun(x1 x2:Array KC)=>x1++x2) #[] (Kk (if v1.toArray.isEmpty=true then 0 else i.toNat) v1.toArray)=(Kk i.toNat v1).flatten.toArray:=by
    split
    ·rename_i q
     have:v1= []:=by simpa using q
     subst this;simp
    ·exact(pU v1 i.toNat []).trans (by simp)
   exact rwl e2 rfl
 |fdiv=>
  refine bB h ?_;clear h;intro i j e13r0_2 e13r0_3 h
  subst e13r0_2
  subst e13r0_3
  obtain⟨t,rfl⟩:=hx.int;obtain⟨u,rfl⟩:=hy.int
  exact floordiv_int h.1.1 (PM.val R.m .mkInt h.2 _) (.inl (Ax h.1.2))
 |mod=>
  refine bB h ?_;clear h;intro i j e14r0_2 e14r0_3 h
  subst e14r0_2
  subst e14r0_3
  obtain⟨t,rfl⟩:=hx.int;obtain⟨u,rfl⟩:=hy.int
  exact mod_int' h.1.1 (PM.val R.m .mkInt h.2 _)
end TD.Internal
namespace TD.Internal
open PySem PyProof.Rows
variable{W:Cx}{A:Around}{E:KC->Kv->Prop}{env:Env}{vis:List (Nat×Str)}{loc:aL}{mem:Mem}{s:Kv}
mutual
noncomputable def vH:ef->PyData
 | .none=> .none
 | .int i=> .int i
 | .list ds=> .list (iT ds)
 | .tup ds=> .tuple (iT ds)
 | .str x=> .str x
noncomputable def iT:List ef->List PyData
 | []=>[]
 |d::ds=>vH d::iT ds
end
theorem rE{x y:Str}:(x.cps.toList==y.cps.toList)=(x==y):=by
 rw[Bool.eq_iff_iff,beq_iff_eq,beq_iff_eq]
 constructor
 ·intro h
  obtain⟨a⟩:=x
  obtain⟨b⟩:=y
  exact congrArg Str.mk (Array.toList_inj.mp h)
 ·rintro rfl;rfl
mutual
theorem nf:∀d e:ef,PyData.eqv (vH d) (vH e)=ef.beq d e
 | .none,e=>by cases e<;>rfl
 | .int _,e=>by cases e<;>rfl
 | .list a,e=>by cases e<;>first|rfl|exact nQ a _
 | .tup a,e=>by cases e<;>first|rfl|exact nQ a _
 | .str a,e=>by cases e<;>first|rfl|exact rE
theorem nQ:∀d e:List ef,PyData.eqvAll (iT d) (iT e)=ef.beqs d e
 | [],e=>by cases e<;>rfl
 |a::r,e=>by
  cases e with
  |nil=>rfl
  |cons b t=>
   refine(?_:(PyData.eqv (vH a) (vH b)&&PyData.eqvAll (iT r) (iT t))=(ef.beq a b&&ef.beqs r t))
   exact rwl (nf a b) (rwl (nQ r t) rfl)
end
theorem zV(ds:List ef):iT ds=ds.map vH:=by
 induction ds with
 |nil=>rfl
 |cons d ds ih=>exact congrArg (vH d::·) ih
theorem F5{n:Nat}{d:ef}{ds:List ef}(hd:d= .list ds\/d= .tup ds)(h:oW (n+1) d=true):ds.all (oW n)=true:=by
 rcases hd with rfl|rfl
 ·exact h
 ·exact h
theorem gx(n:Nat):∀d:ef,oW n d=true->(vH d).canLay0=true/\(vH d).depth<=n:=by
 induction n with
 |zero=>intro d h;exact nb h
 |succ n ih=>
  have all:∀ds:List ef,ds.all (oW n)=true->PyData.canLayAll0 (iT ds)=true/\PyData.depthAll (iT ds)<=n:=by
   intro ds
   induction ds with
   |nil=>intro _;exact⟨rfl,Lp _⟩
   |cons d ds ihd=>
    intro h
    refine aq (bT (h:(oW n d&&ds.all (oW n))=true):) fun h1 h2=>?_
    refine aq (ih d h1:) fun a b=>?_
    refine aq (ihd h2:) fun c e=>?_
    exact⟨La.mpr ⟨a,c⟩,Nat.max_le.mpr ⟨b,e⟩⟩
  intro d h
  cases d with
  |none=>exact⟨rfl,Lp _⟩
  |int i=>exact⟨rfl,Lp _⟩
  |list ds=>
   refine aq (all ds (F5 (.inl rfl) h):) fun a b=>?_
   exact⟨a,LV b⟩
  |tup ds=>
   refine aq (all ds (F5 (.inr rfl) h):) fun a b=>?_
   exact⟨a,LV b⟩
  |str x=>exact⟨h,Lp _⟩
theorem sv(n:Nat)(ds:List ef)(h:ds.all (oW n)=true):PyData.canLayAll0 (iT ds)=true/\PyData.depthAll (iT ds)<=n:=by
 refine aq (gx (n+1) (.list ds) h:) fun a b=>?_
 exact⟨a,Nat.le_of_succ_le_succ b⟩
mutual
theorem dz(M:bC W mem s):∀(d:ef) (v:ae) (y:KC),Reads mem d v->aP W s.heap v y->∃as,_root_.PySem.Reads s.heap y (vH d) as
 | .none,v,y,h,r=>by obtain rfl:v= .none:=h;obtain rfl:=r.none';exact⟨_,.none⟩
 | .int i,v,y,h,r=>by obtain rfl:v= .int i:=h;obtain⟨t,rfl⟩:=r.int;exact⟨_,.int i t⟩
 | .list ds,v,y,h,r=>by
  refine af h ?_;clear h;intro xs e h
  refine bB (cm M r e:) fun a vs e7r0_2 w7r0_3 q=>?_
  subst e7r0_2
  obtain⟨o,ho,hc,n,hd⟩:=w7r0_3
  refine aO (j6 M ds xs vs h q:) fun as ra=>?_
  exact⟨_,.list ho hc hd ra⟩
 | .tup ds,v,y,h,r=>by
  refine af h ?_;clear h;intro xs e9r0_1 h
  subst e9r0_1
  refine bB r ?_;clear r;intro a vs e10r0_2 w10r0_3 q
  subst e10r0_2
  obtain⟨o,ho,hc,n,hd⟩:=w10r0_3
  refine aO (j6 M ds xs vs h q:) fun as ra=>?_
  exact⟨_,.tuple ho hc hd ra⟩
 | .str i,v,y,h,r=>by obtain rfl:v= .str i:=h;obtain⟨t,rfl⟩:=r.str;exact⟨_,.str i t⟩
theorem j6(M:bC W mem s):∀(ds:List ef) (xs:List ae) (ys:List KC),ju mem ds xs->aJ W s.heap xs ys->∃as,ReadsAll s.heap ys (iT ds) as
 | [],xs,ys,h,r=>by obtain rfl:xs= []:=h;obtain rfl:=r.inv0;exact⟨_,.nil⟩
 |d::ds,xs,ys,h,r=>by
  refine bB h ?_;clear h;intro z zs e12r0_2 h1 h2
  subst e12r0_2
  refine bB r.inv fun w ws e13r0_2 r1 r2=>?_
  subst e13r0_2
  refine aO (dz M d z w h1 r1:) fun as ra=>?_
  refine aO (j6 M ds zs ws h2 r2:) fun bs rb=>?_
  exact⟨_,.cons ra rb⟩
end
theorem uH{mem:Mem}{v:ae}{xs:List ae}(e:seq mem v=some xs):v= .tup xs\/lst mem v=some xs:=by
 cases v<;>first|exact .inr e|(cases e;exact .inl rfl)
theorem wi(M:bC W mem s){v:ae}{y:KC}{xs:List ae}{ds:List ef}(e:seq mem v=some xs)(h:ju mem ds xs)(r:aP W s.heap v y):
  ∃as,_root_.PySem.Reads s.heap y (.list (iT ds)) as\/_root_.PySem.Reads s.heap y (.tuple (iT ds)) as:=by
 rcases uH e with rfl|e
 ·refine aO (dz M (.tup ds) _ y (KF xs ⟨rfl,h⟩) r:) fun as ra=>?_
  exact⟨as,.inr ra⟩
 ·refine aO (dz M (.list ds) v y (KF xs ⟨e,h⟩) r:) fun as ra=>?_
  exact⟨as,.inl ra⟩
structure jR(n:Nat)(A:Around):Prop where
 handled:A.handled=none
 units:A.units+100+20*n<cLine
 depth:A.depth+5+5*n<recursionLimit
noncomputable def PB (W:Cx) (mem:Mem) (s:Kv) (P:Bool->Mem->Prop):KC->Kv->Prop:=PM W mem s (oO P)
theorem mX{es:List ef}{d:ef}:((iT es).any fun y=>PyData.eqv y (vH d))=es.any fun e=>ef.beq e d:=by
 refine rwl (zV ..) (rwl (List.any_map ..) ?_)
 exact congrArg (es.any ·) (funext fun z=>nf z d)
theorem jJ{d:ef}(h:oW 8 d=true):SeqAt.shaped (vH d)=true:=by
 refine aq (gx 8 d h:) fun l1 d1=>?_
 simp only[SeqAt.shaped,l1,MI];exact decide_eq_true (by walk_at"o")
theorem fT(R:bx W env vis loc mem s){n:Nat}(hr:jR n A){op:vV}{o:CmpOp}{x y:ae}{a b:KC}{P:Bool->Mem->Prop}(hx:aP W s.heap x a)(hy:aP W s.heap y b)(ho:mG op o=true)(h:cE op x y P mem):
  KP (model W.prog W.w) A (compareOp o a b) (PB W mem s P) E s:=by
 have hu:=hr.units
 obtain rfl:=z2 ho
 have pm:∀{b:Bool},P b mem->PB W mem s P (.bool b) s:=fun{b} h=>PM.here R.m .mkBool (KF b ⟨rfl,h⟩)
 cases op with
 |eq=>
  rcases h with ⟨i,j,rfl,rfl,h⟩|⟨i,j,rfl,rfl,h⟩|⟨d,e,h1,h2,h3,h4,h5⟩
  ·obtain rfl:=hx.bool;obtain rfl:=hy.bool
   exact eq_bool (pm h)
  ·obtain⟨t,rfl⟩:=hx.str;obtain⟨u,rfl⟩:=hy.str
   exact PySem.P.eq_str (by refine rwl rE ?_;exact pm h)
  ·refine aO (dz R.m d _ _ h1 hx:) fun as ra=>?_
   refine aO (dz R.m e _ _ h2 hy:) fun bs rb=>?_
   have d1:=(gx 8 d h3).2
   have d2:=(gx 8 e h4).2
   refine eq_dataH ra rb (jJ h3) (jJ h4) (JR hu) ?_
   refine rwl (nf ..) ?_
   exact pm h5
 |ne=>
  rcases h with ⟨i,j,rfl,rfl,h⟩|⟨i,j,rfl,rfl,h⟩|⟨d,e,h1,h2,h3,h4,h5⟩
  ·obtain rfl:=hx.bool;obtain rfl:=hy.bool
   exact ne_bool (pm h)
  ·obtain⟨t,rfl⟩:=hx.str;obtain⟨u,rfl⟩:=hy.str
   exact PySem.P.ne_str (by unfold bne;refine rwl rE ?_;exact pm h)
  ·refine aO (dz R.m d _ _ h1 hx:) fun as ra=>?_
   refine aO (dz R.m e _ _ h2 hy:) fun bs rb=>?_
   have d1:=(gx 8 d h3).2
   have d2:=(gx 8 e h4).2
   refine ne_dataH ra rb (jJ h3) (jJ h4) (by lia) ?_
   refine rwl (nf ..) ?_
   exact pm h5
 |lt=>
  refine bB h ?_;clear h;intro i j e23r0_2 e23r0_3 h
  subst e23r0_2
  subst e23r0_3
  obtain⟨t,rfl⟩:=hx.int;obtain⟨u,rfl⟩:=hy.int
  exact lt_int (pm h)
 |le=>
  refine bB h ?_;clear h;intro i j e24r0_2 e24r0_3 h
  subst e24r0_2
  subst e24r0_3
  obtain⟨t,rfl⟩:=hx.int;obtain⟨u,rfl⟩:=hy.int
  exact le_int (pm h)
 |gt=>
  refine bB h ?_;clear h;intro i j e25r0_2 e25r0_3 h
  subst e25r0_2
  subst e25r0_3
  obtain⟨t,rfl⟩:=hx.int;obtain⟨u,rfl⟩:=hy.int
  exact gt_int (pm h)
 |ge=>
  refine bB h ?_;clear h;intro i j e26r0_2 e26r0_3 h
  subst e26r0_2
  subst e26r0_3
  obtain⟨t,rfl⟩:=hx.int;obtain⟨u,rfl⟩:=hy.int
  exact ge_int (pm h)
 |inn=>
  refine je h ?_;clear h;intro d es xs e1 h1 h2 h3 h4 h5
  refine aO (dz R.m d _ _ h1 hx:) fun as ra=>?_
  refine aq (gx 8 d h3:) fun l1 d1=>?_
  refine aq (sv 7 es h4:) fun l2 d2=>?_
  have hm:=Mh (PyData.depthAll (iT es)) (vH d).depth
  obtain⟨bs,rb|rb⟩:=wi R.m e1 h2 hy
  ·refine SeqAt.in_list_reads rb ra l2 l1 (Ie hu d2) ?_
   refine rwl mX ?_;exact pm h5
  ·refine SeqAt.in_tuple_reads rb ra l2 l1 (by lia) ?_
   refine rwl mX ?_;exact pm h5
 |notin=>
  refine je h ?_;clear h;intro d es xs e1 h1 h2 h3 h4 h5
  refine aO (dz R.m d _ _ h1 hx:) fun as ra=>?_
  refine aq (gx 8 d h3:) fun l1 d1=>?_
  refine aq (sv 7 es h4:) fun l2 d2=>?_
  have hm:=Mh (PyData.depthAll (iT es)) (vH d).depth
  obtain⟨bs,rb|rb⟩:=wi R.m e1 h2 hy
  ·refine SeqAt.notIn_list_reads rb ra l2 l1 (by lia) ?_
   refine rwl mX ?_;exact pm h5
  ·refine SeqAt.notIn_tuple_reads rb ra l2 l1 (by lia) ?_
   refine rwl mX ?_;exact pm h5
end TD.Internal
namespace TD.Internal
open PySem PyProof.Rows
variable{W:Cx}{A:Around}{E:KC->Kv->Prop}{env:Env}{vis:List (Nat×Str)}{loc:aL}{mem:Mem}{s:Kv}{Q:ae->Mem->Prop}
theorem ro(M:bC W mem s){v:ae}{y:KC}{xs:List ae}(hv:aP W s.heap v y)(e:seq mem v=some xs):
  ∃a vs,y= .ref a/\(s.heap.IsList a (LK vs)\/IsTup s.heap a (LK vs))/\aJ W s.heap xs vs:=by
 rcases uH e with rfl|e
 ·refine bB hv ?_;clear hv;intro a vs e0r0_2 h r
  subst e0r0_2
  exact⟨a,vs,rfl,.inr h,r⟩
 ·obtain⟨a,vs,rfl,h,r⟩:=cm M hv e;exact⟨a,vs,rfl,.inl h,r⟩
theorem yu{h:Lw}{bs:List Bool}:∀{vs:List KC},aJ W h (bs.map .bool) vs->LSm.BoolsAre vs bs:=by
 induction bs with
 |nil=>intro vs r;obtain rfl:=r.inv0;exact .nil
 |cons b bs ih=>
  intro vs r
  refine bB r.inv fun y ys e1r0_2 a r'=>?_
  subst e1r0_2
  obtain rfl:=a.bool
  exact .cons b (ih r')
theorem rX{h:Lw}{ns:List Int}:∀{vs:List KC},aJ W h (ns.map .int) vs->IntsAre vs ns:=by
 induction ns with
 |nil=>intro vs r;obtain rfl:=r.inv0;exact .nil
 |cons b bs ih=>
  intro vs r
  refine bB r.inv fun y ys e2r0_2 a r'=>?_
  subst e2r0_2
  refine aO a.int fun t e3r0_1=>?_
  subst e3r0_1
  exact .cons b t (ih r')
theorem vt{h:Lw}:∀{vs:List KC} {ns:List Int},IntsAre vs ns->aJ W h (ns.map .int) vs:=by
 intro vs ns r
 induction r with
 |nil=>exact .nil
 |cons n t _ ih=>exact .cons .mkInt ih
theorem ye{n:Nat}(h:n<br):((n:Nat):Int)<2^63:=by unfold br at h;exact HY h
theorem PM.kept(R:bx W env vis loc mem s){s':Kv}{v:ae}{y:KC}(k:bV env.locals s.heap s'.heap)(hv:aP W s'.heap v y)(hq:Q v mem)(hg:s'.gens=s.gens:=by rfl)(ho:s'.os=s.os:=by rfl):PM W mem s Q y s':=
 ⟨v,mem,hv,R.keepM k hg ho,R.keepS k,hq⟩
theorem sa{ns:List Int}:∀{ys:List KC},CarriedAll ys (ns.map PyData.int)->IntsAre ys ns:=by
 induction ns with
 |nil=>intro ys h;cases h;exact .nil
 |cons n ns ih=>
  intro ys h
  cases h with
  |cons h1 h2=>cases h1;exact .cons _ _ (ih h2)
theorem uB{h:Lw}(n:Nat){ys:List KC}(c:CarriedAll ys ((rangeInts 0 1 n).map PyData.int)):aJ W h (bP n) ys:=by
 have e:bP (n:Int)=(rangeInts 0 1 n).map ae.int:=by
  unfold bP rangeInts
  refine rwl K0 ?_
  simp [Function.comp_def]
 refine rwl e ?_
 exact vt (sa c)
noncomputable def B1.val:B1->KC
 | .len=> .builtin "len"
 | .all=> .builtin "all"
 | .sum=> .builtin "sum"
 | .minL=> .builtin "min"
 | .list=> .type "list"
 | .tuple=> .type "tuple"
 | .sorted=> .builtin "sorted"
 | .int=> .type "int"
 | .lrange=> .none
 | .lrev=> .none
theorem fy(R:bx W env vis loc mem s){n:Nat}(hr:jR n A){b:B1}{x:ae}{a:KC}(hb:b.inner=none)(hx:aP W s.heap x a)(h:gj b x Q mem):
  KP (model W.prog W.w) A (call b.val [a]) (PM W mem s Q) E s:=by
 refine aO R.hasNs fun m hn=>?_
 refine aq (rU hn:) fun F N=>?_
 have hh:=hr.handled
 cases b
 ·refine bq h ?_;clear h;intro xs e hl hq
  obtain⟨a,vs,rfl,h|h,r⟩:=ro R.m hx e
  ·refine len_list h (by refine rwl KJ (rwl r.length ?_);exact ye hl) ?_
   refine rwl KJ (rwl r.length ?_);exact PM.val R.m .mkInt hq _
  ·refine len_tuple h (by refine rwl KJ (rwl r.length ?_);exact ye hl) ?_
   refine rwl KJ (rwl r.length ?_);exact PM.val R.m .mkInt hq _
 ·refine af h ?_;clear h;intro bs e hq
  refine bB (cm R.m hx e:) fun a vs e8r0_2 h r=>?_
  subst e8r0_2
  refine LSm.all_bools F N hh h (yu r) fun h' tk F' N'=>?_
  exact PM.kept R (.of_fr hn F' N' fun p hp=>hp) .mkBool hq
 ·refine xm h ?_;clear h;intro is e _ _ hq
  refine bB (cm R.m hx e:) fun a vs e10r0_2 h r=>?_
  subst e10r0_2
  refine LSm.sum_ints F N hh h (rX r) fun h' tk t' F' N'=>?_
  exact PM.kept R (.of_fr hn F' N' fun p hp=>hp) .mkInt hq
 ·refine xm h ?_;clear h;intro is e hne _ hq
  refine bB (cm R.m hx e:) fun a vs e12r0_2 h r=>?_
  subst e12r0_2
  refine min_list_N hh F N h (rX r) (L2.mpr hne) fun h' M t tk F' N' h1 h2=>?_
  exact PM.kept R (.of_fr hn F' N' fun p hp=>hp) .mkInt (hq M h1 h2)
 ·refine af h ?_;clear h;intro xs e hf
  refine bB (ro R.m hx e:) fun a vs e14r0_2 h r=>?_
  subst e14r0_2
  have hsz:vs.toArray.size<=sizeLine:=by refine rwl KJ (rwl r.length ?_);exact cO hf.1
  have go:∀T,(T="list"\/T="tuple")->(∃o,s.heap.get? a=some o/\o.cls= .type T/\∃n,o.data= .seq vs.toArray n)->KP (model W.prog W.w) A (call (.type "list") [.ref a]) (PM W mem s Q) E s:=by
   rintro T hT ⟨o,ho,hc,n,hd⟩
   refine call_list_seq a hT ho hc hd (fun h' c' hk hD=>?_) hsz
   exact bR R (.of_keeps hk) (cj _) hD r hf
  rcases h with h|h
  ·exact go _ (.inl rfl) h
  ·exact go _ (.inr rfl) h
 ·refine bq h ?_;clear h;intro xs e hl hq
  refine bB (cm R.m hx e:) fun a vs e16r0_2 h r=>?_
  subst e16r0_2
  have hsz:vs.toArray.size<=sizeLine:=by refine rwl KJ (rwl r.length ?_);exact cO hl
  refine call_tuple_list h (fun h' hk=>?_) hsz
  have k:bV env.locals s.heap (h'.push {cls:= .type "tuple",data:= .seq vs.toArray}):= .of_keeps fun b o e=>Heap.get?_push_of_some _ (hk b o e)
  exact PM.kept R (v:= .tup xs) k (KF _ ⟨vs,rfl,qi,r.keep (R.keepF k)⟩) hq
 ·obtain⟨xs,e,is,rfl,h64,hq⟩:=h
  refine bB (cm R.m hx e:) fun a vs e18r0_2 h r=>?_
  subst e18r0_2
  refine sorted_N F N h (rX r) (by have:=r.length;rw[Ki] at this;exact HC h64 this) fun h' vs' ns' e' F' N' hi hp hs=>?_
  have k:=bV.of_fr hn F' N' fun p hp=> .tail _ hp
  have hnone:s.heap.get? (s.heap.objs.size+1)=none:=by
   cases q:s.heap.get? (s.heap.objs.size+1) with
   |none=>rfl
   |some o=>exact absurd (Heap.lt_size q) (Nr.mpr (LJ _))
  exact bR R k hnone (N' _ (.head _)).1 (vt hi) (hq ns' hp hs)
 ·refine af h ?_;clear h;intro b e19r0_1 hq
  subst e19r0_1
  obtain rfl:=hx.bool
  exact call_int_bool (PM.val R.m .mkInt hq _)
 ·exact absurd hb (by decide)
 ·exact absurd hb (by decide)
end TD.Internal
namespace TD.Internal
open PySem PyProof.Rows
variable{W:Cx}{A:Around}{E:KC->Kv->Prop}{env:Env}{vis:List (Nat×Str)}{loc:aL}{mem:Mem}{s:Kv}{Q:ae->Mem->Prop}
theorem fB{k:Int}{n j:Nat}(h:eh k n=some j):(k=j/\j<n)\/∃p:Nat,k= -((p+1:Nat):Int)/\p+1<=n/\j=n-(p+1):=by
 unfold eh at h
 by_cases h0:0<=k
 ·rw[if_pos h0] at h
  refine aO (M0 h0:) fun i e0r0_1=>?_
  subst e0r0_1
  by_cases h1:(i:Int).toNat<n
  ·rw[if_pos h1] at h;cases h;exact .inl ⟨rfl,h1⟩
  ·rw[if_neg h1] at h;exact no h
 ·rw[if_neg h0] at h
  refine aO (Int.eq_negSucc_of_lt_zero (Int.not_le.mp h0):) fun p hp=>?_
  subst hp
  by_cases h1:(-(Int.negSucc p)).toNat<=n
  ·rw[if_pos h1] at h;cases h;exact .inr ⟨p,rfl,h1,rfl⟩
  ·rw[if_neg h1] at h;exact no h
theorem qj{k:Int}{n j:Nat}(h:eh k n=some j):seqIndex? k n=some j:=by
 unfold seqIndex?
 rcases fB h with ⟨rfl,h1⟩|⟨p,rfl,h1,rfl⟩
 ·have h0:¬(j:Int)<0:=Int.not_lt.mpr (Lv j)
  simp only[h0,if_false]
  refine rwl (if_pos (by simp;walk_at"o")) ?_
  rfl
 ·have h0: -((p+1:Nat):Int)<0:=DH
  simp only[h0,if_true]
  refine rwl (if_pos (by simp;exact Hz h1)) ?_
  congr 1;exact J1
theorem sG{k:Int}{n j:Nat}(h:eh k n=some j):j<n:=by
 rcases fB h with ⟨rfl,h1⟩|⟨p,rfl,h1,rfl⟩
 ·exact h1
 ·exact HG h1
theorem qA{k:Int}{n j:Nat}(h:eh k n=some j)(hn:n<br): -(2^63)<=k/\k<2^63:=by
 unfold br at hn
 rcases fB h with ⟨rfl,h1⟩|⟨p,rfl,h1,rfl⟩<;>lia
theorem gu{sl:KX}(h:kI sl=true)(o i:KC):subscripted sl false o i=operate [o,i] (getItem o i):=by
 cases sl<;>first|rfl|exact nb h
theorem oZ(R:bx W env vis loc mem s){v:ae}{o:KC}{k:Int}{u:Tok}{xs:List ae}{j:Nat}{x:ae}(hv:aP W s.heap v o)(e:seq mem v=some xs)(hp:eh k xs.length=some j)(hx:xs[j]? =some x)(hl:xs.length<br)(hq:Q x mem)
  {value sl:KX} (hs:kI sl=true):KP (model W.prog W.w) A (subscriptTail value sl o (.int k u)) (PM W mem s Q) E s:=by
 refine bB (ro R.m hv e:) fun a vs e2r0_2 h r=>?_
 subst e2r0_2
 refine af (r.get hx:) fun y hy ry=>?_
 have hf:=qA hp hl
 have hlen:=r.length
 rcases h with h|h
 ·refine tail_any (o:= .ref a) h.typeIs slot_list_getitem.lookup ?_ (gu hs _ _)
  rcases fB hp with ⟨rfl,h1⟩|⟨p,rfl,h1,rfl⟩
  ·exact wpAny_getItem_list h (Lv j) hf.2 (by simpa using hy) (PM.here R.m ry hq)
  ·refine wpAny_getItem_list_neg h (DH) (by refine rwl KJ (rwl hlen ?_);exact Ji h1) hf.1 ?_ (PM.here R.m ry hq)
   refine rwl KJ (rwl hlen (rwl (by exact J1:(-((p+1:Nat):Int)+(xs.length:Nat)).toNat=xs.length-(p+1)) ?_))
   simpa using hy
 ·exact item_tupleT h hf.1 hf.2 (by refine rwl hlen ?_;exact qj hp) hy (PM.here R.m ry hq) (gu hs _ _)
theorem p5(R:bx W env vis loc mem s){v i:ae}{o iv:KC}(hv:aP W s.heap v o)(hi:aP W s.heap i iv)(h:gm v i Q mem){value sl:KX}(hs:kI sl=true):
  KP (model W.prog W.w) A (subscriptTail value sl o iv) (PM W mem s Q) E s:=by
 refine Iz h ?_;clear h;intro k xs j x e4r0_4 e hp hx hl hq
 subst e4r0_4
 refine aO hi.int fun u e5r0_1=>?_
 subst e5r0_1
 exact oZ R hv e hp hx hl hq hs
noncomputable def mI (up:Bool) (v:KC):KC:=match up with|true=>v|false=> .none
theorem uQ{M:Model}{A':Around}{E':KC->Kv->Prop}{s':Kv}{env':Env}{up:Bool}{e:KX}{p:Pos}{P:KC->Kv->Prop}
  (h:KP M A' (eval e env') (fun v s2=>P (.ref s2.heap.objs.size) {s2 with heap:=s2.heap.push {cls:= .type "slice",data:= .fields #[mI up v,mI (!up) v,.none]}}) E' s'):
  KP M A' (eval (.Slice (qz up e) (qz (!up) e) none p) env') P E' s':=by
 refine wpAny_Slice ?_
 cases up with
 |true=>exact KB h (fun v s2 h2=>KV (KV h2)) fun _ _ x=>x
 |false=>exact KV (KB h (fun v s2 h2=>KV h2) fun _ _ x=>x)
theorem aJ.cut{W:Cx}{h:Lw}{xs:List ae}:∀{vs:List KC},aJ W h xs vs->∀n,aJ W h (xs.drop n) (vs.drop n)/\aJ W h (xs.take n) (vs.take n):=by
 induction xs with
 |nil=>intro vs r n;obtain rfl:=r.inv0;refine rwl MZ (rwl MZ (rwl NK (rwl NK ?_)));exact⟨.nil,.nil⟩
 |cons x xs ih=>
  intro vs r n
  refine bB r.inv ?_;clear r;intro y ys e6r0_2 a r
  subst e6r0_2
  cases n with
  |zero=>exact⟨.cons a r,.nil⟩
  |succ n=>exact⟨(ih r n).1,.cons a (ih r n).2⟩
theorem ri(k:Int)(n:Nat):clipAt n k=min (eN k n) n:=by
 unfold eN
 by_cases h:0<=k
 ·refine rwl (if_pos h) ?_
  refine aO (M0 h:) fun j e7r0_1=>?_
  subst e7r0_1
  exact clipAt_nat n j
 ·refine rwl (if_neg h) ?_
  refine aO (Int.eq_negSucc_of_lt_zero (Int.not_le.mp h):) fun p e8r0_1=>?_
  subst e8r0_1
  refine rwl (show Int.negSucc p= -((p+1:Nat):Int) from rfl) (rwl (clipAt_neg n (p+1) (LV (Lp p)) ..) (rwl (Int.neg_neg ..) (rwl (L4 ..) ?_)))
  exact J8
theorem sD(vs:List KC)(k:Int):slicePick vs.toArray (some k) none none=(vs.drop (eN k vs.length)).toArray/\slicePick vs.toArray none (some k) none=(vs.take (eN k vs.length)).toArray:=by
 constructor
 ·refine rwl (slicePick_plain ..) ?_
  simp only[Option.elim,KJ,ri]
  congr 1
  rcases Nat.le_total (eN k vs.length) vs.length with h|h
  ·exact rwl (LQ h) (rwl (Mg (by simp)) rfl)
  ·refine rwl (Nh h) (rwl (My (by simp)) (rwl (My h) ?_));simp
 ·refine rwl (slicePick_plain ..) ?_
  simp only[Option.elim,KJ,ri,List.drop_zero,Nat.sub_zero]
  congr 1
  rcases Nat.le_total (eN k vs.length) vs.length with h|h
  ·exact rwl (LQ h) rfl
  ·exact rwl (Nh h) (rwl (Mg (Lk _)) (rwl (Mg h) rfl))
theorem sO(R:bx W env vis loc mem s){up:Bool}{x y:ae}{xv yv:KC}(hx:aP W s.heap x xv)(hy:aP W s.heap y yv)(h:Ho up x y Q mem){value:KX}{l u:Option KX}{p:Pos}:
  KP (model W.prog W.w) A (subscriptTail value (.Slice l u none p) xv (.ref s.heap.objs.size)) (PM W mem s Q) E {s with heap:=s.heap.push {cls:= .type "slice",data:= .fields #[mI up yv,mI (!up) yv,.none]}}:=by
 refine wR h ?_;clear h;intro a xs k e9r0_3 e e9r0_5 hl hf
 subst e9r0_3
 subst e9r0_5
 obtain rfl:=hx.ref
 refine aO hy.int fun t e10r0_1=>?_
 subst e10r0_1
 refine aq (R.m.mems a _ e:) fun w11r0_0 _=>?_
 refine af w11r0_0 ?_;clear w11r0_0;intro vs w0r1_1 r
 refine aO w0r1_1 ?_;clear w0r1_1;intro n hn
 have hlen:=r.length
 have hL:s.heap.IsList a vs.toArray:=⟨_,hn,rfl,n,rfl⟩
 have k1:bV env.locals s.heap (s.heap.push {cls:= .type "slice",data:= .fields #[mI up (.int k t),mI (!up) (.int k t),.none]}):= .push _
 have R':bx W env vis loc mem {s with heap:=s.heap.push {cls:= .type "slice",data:= .fields #[mI up (.int k t),mI (!up) (.int k t),.none]}}:=R.step (R.keepM k1) (R.keepS k1)
 have hsz:vs.toArray.size<=sizeLine:=by refine rwl KJ (rwl hlen ?_);exact cO hl
 have r':=r.keep (R.keepF k1)
 refine tail_any (o:= .ref a) (hL.push _).typeIs slot_list_getitem.lookup ?_ rfl
 cases up with
 |true=>
  refine wpAny_getItem_list_slice (hL.push _) (Heap.IsSliceOf.new ..) (.int k t) .none .none (by simp) ?_ hsz
  refine rwl ((sD vs k).1) (rwl hlen ?_)
  exact PM.trans (s':={s with heap:=s.heap.push {cls:= .type "slice",data:= .fields #[.int k t,.none,.none]}}) (R.keepS k1) (bR R' (.push _) (cj _) (Heap.get?_push_size _ rfl) (r'.cut _).1 hf)
 |false=>
  refine wpAny_getItem_list_slice (hL.push _) (Heap.IsSliceOf.new ..) .none (.int k t) .none (by simp) ?_ hsz
  refine rwl ((sD vs k).2) (rwl hlen ?_)
  exact PM.trans (s':={s with heap:=s.heap.push {cls:= .type "slice",data:= .fields #[.none,.int k t,.none]}}) (R.keepS k1) (bR R' (.push _) (cj _) (Heap.get?_push_size _ rfl) (r'.cut _).2 hf)
theorem zd(R:bx W env vis loc mem s){k:Nat}(hr:jR k A){mx:Bool}{x y:ae}{xv yv:KC}(hx:aP W s.heap x xv)(hy:aP W s.heap y yv)(h:Hq mx x y Q mem):
  KP (model W.prog W.w) A (call (.builtin (rv mx)) [xv,yv]) (PM W mem s Q) E s:=by
 refine bB h ?_;clear h;intro a b e12r0_2 e12r0_3 hq
 subst e12r0_2
 subst e12r0_3
 refine aO hx.int fun t e13r0_1=>?_
 subst e13r0_1
 refine aO hy.int fun u e14r0_1=>?_
 subst e14r0_1
 cases mx with
 |true=>
  refine max_two_ints hr.handled fun h' tk hk=>?_
  have k1:bV env.locals s.heap h':= .of_keeps hk
  refine⟨_,mem,?_,R.keepM k1,R.keepS k1,hq⟩
  refine(?_:aP W h' (.int (if b>a then b else a)) _)
  by_cases c:b>a
  ·refine rwl (if_pos c) (rwl (if_pos c) ?_);exact⟨u,rfl⟩
  ·refine rwl (if_neg c) (rwl (if_neg c) ?_);exact⟨t,rfl⟩
 |false=>
  refine min_two_ints hr.handled fun h' tk hk=>?_
  have k1:bV env.locals s.heap h':= .of_keeps hk
  refine⟨_,mem,?_,R.keepM k1,R.keepS k1,hq⟩
  refine(?_:aP W h' (.int (if b<a then b else a)) _)
  by_cases c:b<a
  ·refine rwl (if_pos c) (rwl (if_pos c) ?_);exact⟨u,rfl⟩
  ·refine rwl (if_neg c) (rwl (if_neg c) ?_);exact⟨t,rfl⟩
theorem du(R:bx W env vis loc mem s){a:Addr}{xs:List ae}(e:mem a=some (.list xs)){name:Str}{id:String}{pl:Sem Bool}(slot:Slot "list" name id)(hty:typeOf (.builtin id)=pure (.type "method_descriptor"))
  {P:KC×List KC->Kv->Prop} (h:P (.builtin id,[.ref a]) s):KP (model W.prog W.w) A (getMethod (.ref a) name pl) P E s:=by
 refine aq (R.m.mems a _ e:) fun w15r0_0 _=>?_
 refine af w15r0_0 ?_;clear w15r0_0;intro vs w1r1_1 r
 refine aO w1r1_1 ?_;clear w1r1_1;intro n hn
 exact getMethod_builtin ⟨_,hn,rfl⟩ PySem.F.plainAttrs_list slot hty (fun b q=>by cases q;exact⟨_,hn,rfl⟩) h
theorem qL(R:bx W env vis loc mem s){a:Addr}{xs:List ae}{y:ae}{yv:KC}(e:mem a=some (.list xs))(hl:xs.length<br)(hy:aP W s.heap y yv)(hq:Q .none (mem.set a (.list (xs++ [y])))):
  KP (model W.prog W.w) A (call (.builtin "list.append") [.ref a,yv]) (PM W mem s Q) E s:=by
 refine aq (R.m.mems a _ e:) fun w16r0_0 _=>?_
 refine af w16r0_0 ?_;clear w16r0_0;intro vs hn r
 refine wpAny_list_append_plain hn (fun h' hl' hs'=>?_) (by refine rwl KJ (rwl r.length ?_);exact cO hl)
 have hp:h'.PlainList a (vs++ [yv]).toArray:=by simpa using hl'
 refine⟨.none,_,.mkNone,R.m.upd (s':={s with heap:=h'}) (o:= .list (xs++ [y])) e hs' (fun kf=>⟨vs++ [yv],hp,(aJ.append (.cons hy .nil) r).keep kf⟩),aM.upd e hs' ?_,hq⟩
 obtain⟨n,hn'⟩:=hp;refine rwl hn' ?_;simp
theorem uu(R:bx W env vis loc mem s){a:Addr}{xs ys:List ae}{vs ws:List KC}{n:Nat}{v:ae}{y:KC}(f:Array KC->Array KC)(e:mem a=some (.list xs))
  (hn:s.heap.get? a=some {cls:= .type "list",data:= .seq vs.toArray n}) (he:f vs.toArray=ws.toArray) (hr:aJ W s.heap ys ws) (hv:aP W s.heap v y) (hq:Q v (mem.set a (.list ys))):
  PM W mem s Q y {s with heap:=s.heap.update a (Obj.mapSeq f)}:=by
 have q:∃n',(s.heap.update a (Obj.mapSeq f)).get? a=some {cls:= .type "list",data:= .seq ws.toArray n'}:=by
  have:=Heap.get?_update_self (Obj.mapSeq f) hn (by simp [Obj.mapSeq,Obj.isFreed])
  refine⟨if ws.toArray.size==vs.toArray.size then n else n+1,this.trans ?_⟩
  simp only[Obj.mapSeq,he]
 refine aO q ?_;clear q;intro n' q
 have hs:Heap.SameBut a s.heap (s.heap.update a (Obj.mapSeq f)):=Heap.SameBut.update ..
 have M:=R.m.upd (s':={s with heap:=s.heap.update a (Obj.mapSeq f)}) (o:= .list ys) e hs (fun kf=>⟨ws,⟨n',q⟩,hr.keep kf⟩)
 have S:aM fb mem s.heap (mem.set a (.list ys)) (s.heap.update a (Obj.mapSeq f)):=aM.upd e hs (by refine rwl q ?_;simp)
 exact⟨v,_,hv.keep (S.keepF R.m.mems .none),M,S,hq⟩
theorem aJ.set{h:Lw}{v:ae}{y:KC}(hv:aP W h v y){xs:List ae}:∀{vs:List KC} (j:Nat),aJ W h xs vs->aJ W h (xs.set j v) (vs.set j y):=by
 induction xs with
 |nil=>intro vs j r;obtain rfl:=r.inv0;exact r
 |cons x xs ih=>
  intro vs j r
  refine bB r.inv fun z ys e18r0_2 a q=>?_
  subst e18r0_2
  cases j with
  |zero=>exact aJ.cons hv q
  |succ j=>exact aJ.cons a (ih j q)
theorem aJ.eraseIdx{h:Lw}{xs:List ae}:∀{vs:List KC} (j:Nat),aJ W h xs vs->aJ W h (xs.eraseIdx j) (vs.eraseIdx j):=by
 induction xs with
 |nil=>intro vs j r;obtain rfl:=r.inv0;exact r
 |cons x xs ih=>
  intro vs j r
  refine bB r.inv fun y ys e19r0_2 a q=>?_
  subst e19r0_2
  cases j with
  |zero=>exact q
  |succ j=>exact aJ.cons a (ih j q)
theorem Ak{k:Int}(h: -(2^63)<=k/\k<2^63):Builtin.List.listFitsIndex k=true:=by
 by_cases h0:k<0
 ·exact fitsIndex_neg h0 h.1
 ·simp [Builtin.List.listFitsIndex];walk_at"o"
theorem wj(R:bx W env vis loc mem s){a:Addr}{xs:List ae}{k:Int}{u:Tok}{j:Nat}{y:ae}(e:mem a=some (.list xs))(hl:xs.length<br)(hp:eh k xs.length=some j)(hy:xs[j]? =some y)(hq:Q y (mem.set a (.list (xs.eraseIdx j)))):
  KP (model W.prog W.w) A (call (.builtin "list.pop") [.ref a,.int k u]) (PM W mem s Q) E s:=by
 refine aq (R.m.mems a _ e:) fun w20r0_0 _=>?_
 refine af w20r0_0 ?_;clear w20r0_0;intro vs w3r1_1 r
 refine aO w3r1_1 ?_;clear w3r1_1;intro n hn
 refine af (r.get hy:) fun z hz rz=>?_
 refine call_meets PySem.F.slot_list_pop ⟨_,hn,rfl⟩ PySem.F.entry_list_pop (PySem.F.args_list_pop_2 _ _) (PySem.MeetsSeq.list_pop_at a _ n k u j z (Ak (qA hp hl)) (by refine rwl KJ (rwl r.length ?_);exact qj hp) (by simpa using hz) (by refine rwl KJ (rwl r.length ?_);exact cO hl)) ⟨hn,?_⟩
 refine uu R _ e hn (ws:=vs.eraseIdx j) ?_ (r.eraseIdx j) rz hq
 have hj:j<vs.length:=by refine rwl r.length ?_;exact sG hp
 simp [Array.eraseIdxIfInBounds,hj]
theorem t7(R:bx W env vis loc mem s){a:Addr}{xs:List ae}{j:Nat}{y:ae}(e:mem a=some (.list xs))(hl:xs.length<br)(hp:eh (-1) xs.length=some j)(hy:xs[j]? =some y)(hq:Q y (mem.set a (.list (xs.eraseIdx j)))):
  KP (model W.prog W.w) A (call (.builtin "list.pop") [.ref a]) (PM W mem s Q) E s:=by
 refine aq (R.m.mems a _ e:) fun w22r0_0 _=>?_
 refine af w22r0_0 ?_;clear w22r0_0;intro vs w4r1_1 r
 refine aO w4r1_1 ?_;clear w4r1_1;intro n hn
 refine af (r.get hy:) fun z hz rz=>?_
 have hj:j=vs.length-1:=by
  rcases fB hp with ⟨h1,_⟩|⟨p,h1,_,rfl⟩
  ·exact Jo h1
  ·obtain rfl:p=0:=IW h1
   exact rwl r.length rfl
 have hj2:j<vs.length:=by refine rwl r.length ?_;exact sG hp
 refine call_meets PySem.F.slot_list_pop ⟨_,hn,rfl⟩ PySem.F.entry_list_pop (PySem.F.args_list_pop_1 _) (PySem.MeetsSeq.list_pop_last a _ n z (by refine rwl KJ (rwb hj ?_);simpa using hz) (by refine rwl KJ (rwl r.length ?_);exact cO hl)) ⟨hn,?_⟩
 refine uu R _ e hn (ws:=vs.eraseIdx j) ?_ (r.eraseIdx j) rz hq
 simp only[KJ,<-hj]
 simp [Array.eraseIdxIfInBounds,hj2]
theorem gZ(M:bC W mem s){a:Addr}{xs:List ae}(e:mem a=some (.list xs)):∃vs n,s.heap.get? a=some {cls:= .type "list",data:= .seq (LK vs) n}/\aJ W s.heap xs vs:=by
 refine aq (M.mems a _ e:) fun w24r0_0 _=>?_
 refine af w24r0_0 ?_;clear w24r0_0;intro vs w5r1_1 r
 refine aO w5r1_1 ?_;clear w5r1_1;intro n hn
 exact⟨vs,n,hn,r⟩
set_option maxRecDepth 100000 in
theorem sZ(R:bx W env vis loc mem s){a:Addr}{xs:List ae}{k:Int}{u:Tok}{y:ae}{yv:KC}{K:Mem->Prop}(e:mem a=some (.list xs))(hl:xs.length<br)(h0:0<=k)(hk:k.toNat<xs.length)(hy:aP W s.heap y yv)(hq:K (mem.set a (.list (xs.set k.toNat y)))):
  KP (model W.prog W.w) A (setItem (.ref a) (.int k u) yv) (fun _ s'=>PM W mem s (fun _ m'=>K m') .none s') E s:=by
 refine cG (gZ R.m e:) fun vs n hn r=>?_
 have hlen:=r.length
 unfold br at hl
 have ht:s.TypeIs (.ref a) "list":=⟨_,hn,rfl⟩
 have hfit:Builtin.List.listFitsIndex k=true:=fitsIndex_of h0 (HF hl hk)
 unfold setItem
 refine wpAny_holding (Kx (wpAny_sequenceKey ht (by decide) ?_))
 refine Kx (wpAny_callSpecial?_slot (name:=Str.ofString "__setitem__") ht slot_list_setitem
  (wpAny_call_entry slot_list_setitem ht entry_list_setitem ?_ (args_list_setitem _ _ _)))
 refine(?_:KP _ _ (Builtin.List.listSubscript? (.int k u)>>=_) _ _ s)
 refine Kx (wpAny_listSubscript_int hfit ?_)
 clear hfit
 refine aO (M0 h0:) fun j e26r0_1=>?_
 subst e26r0_1
 have hj:j<vs.length:=IJ hlen hk
 have hat:(vs.toArray)[j]? =some vs[j]:=by refine rwl (MD) ?_;exact KA hj
 refine(?_:KP _ _ ((seqItemAt a j>>=fun r=>pure (r.map (j,·)))>>=_) _ _ s)
 refine Kx (Kx (wpAny_seqItemAt hn rfl (KV ?_)))
 refine rwl hat ?_
 refine(?_:KP _ _ (setSeqItemAt a j yv>>=_) _ _ s)
 refine Kx (wpAny_setSeqItemAt hn rfl ?_)
 refine KV ⟨.none,rfl,KV ?_⟩
 refine uu R _ e hn (ws:=vs.set j yv) (by simp) (aJ.set hy j r) .mkNone hq
theorem zw{i:Int}(is:List Int):∀{m:Nat},m<is.idxOf i->(hm:m<is.length)->is[m]≠i:=by
 induction is with
 |nil=>intro m _ hm;exact absurd hm (L5 _)
 |cons a r ih=>
  intro m h hm
  rw[List.idxOf_cons] at h
  cases q:a==i with
  |true=>rw[q] at h;exact absurd h (L5 _)
  |false=>
   rw[q] at h
   cases m with
   |zero=>exact ne_of_beq_false q
   |succ m=>exact ih (Mf h) (Mf hm)
theorem tP(R:bx W env vis loc mem s){a:Addr}{is:List Int}{i:Int}{u:Tok}(e:mem a=some (.list (is.map .int)))(hi:i∈is)(hl:is.length<br)(hq:Q (.int (is.idxOf i:Nat)) mem):
  KP (model W.prog W.w) A (call (.builtin "list.index") [.ref a,.int i u]) (PM W mem s Q) E s:=by
 refine cG (gZ R.m e:) fun vs n hn r=>?_
 have hlen:=r.length
 rw[Ki] at hlen
 have hj:is.idxOf i<is.length:=Ly hi
 have at':∀m (hm:m<vs.length),∃t,vs[m]= .int (is[m]'(hlen▸hm)) t:=fun m hm=>by
  refine af (r.get (i:=m) (v:= .int (is[m]'(hlen▸hm))) (by refine rwl (KH) (rwl (KA (hlen▸hm)) ?_);rfl):) fun y hy ry=>?_
  refine aO ry.int fun t e29r0_1=>?_
  subst e29r0_1
  rw[KA hm] at hy
  exact⟨t,Option.some.inj hy⟩
 let f:KC->Bool:=fun y=>match y with| .int b _=>b==i|_=>false
 refine call_meets PySem.F.slot_list_index ⟨_,hn,rfl⟩ PySem.F.entry_list_index (PySem.F.args_list_index_2 _ _) (PySem.MeetsSeq.list_index a vs.toArray n (.int i u) f (fun y hy=>?_) (is.idxOf i) (by refine rwl KJ (rwl hlen ?_);exact hj) (by unfold br at hl;exact JW hl hj) ?_ fun m hm hmj=>?_) ⟨hn,PM.val R.m .mkInt hq _⟩
 ·obtain⟨m,hm,rfl⟩:=List.getElem_of_mem (List.mem_toArray.mp hy)
  refine aO (at' m hm:) fun t q=>?_
  refine rwl q ?_
  exact PySem.MeetsSeq.EqGives.int _ _ _ _
 ·refine aO (at' (is.idxOf i) (hlen.symm▸hj):) fun t q=>?_
  refine(?_:f vs[is.idxOf i]=true)
  refine rwl q ?_
  exact beq_iff_eq.mpr (MW hj)
 ·rw[KJ] at hm
  refine aO (at' m hm:) fun t q=>?_
  refine(?_:f vs[m]=false)
  refine rwl q ?_
  exact beq_false_of_ne (zw is hmj (hlen▸hm))
theorem ve{P:ie->Prop}(h1:P .int)(h2:P .bool)(h3:P .list){c:ie}(hc:c.code<3):P c:=by
 cases c<;>first|assumption|exact absurd hc (by decide)
theorem se(R:bx W env vis loc mem s){x:ae}{a:KC}{c:ie}(hc:c.code<3)(hx:aP W s.heap x a){b:Bool}(h:isA mem x c=some b)(hq:Q (.bool b) mem):
  KP (model W.prog W.w) A (call (.builtin "isinstance") [a,.type c.name]) (PM W mem s Q) E s:=by
 have hk:∀tk,PM W mem s Q (.bool b) {s with toks:=tk}:=fun tk=>PM.val R.m .mkBool hq tk
 revert hk
 clear hq
 revert h
 cases x with
 |none=>
  obtain rfl:=hx.none'
  refine ve (P:=fun c=>isA mem .none c=some b->_->KP (model W.prog W.w) A (call (.builtin "isinstance") [.none,.type c.name]) (PM W mem s Q) E s) ?_ ?_ ?_ hc
  all_goals (intro h hk;cases h)
  ·exact IsiPair.NoneType_int (hk _)
  ·exact IsiPair.NoneType_bool (hk _)
  ·exact IsiPair.NoneType_list (hk _)
 |bool i=>
  obtain rfl:=hx.bool
  refine ve (P:=fun c=>isA mem (.bool i) c=some b->_->KP (model W.prog W.w) A (call (.builtin "isinstance") [.bool i,.type c.name]) (PM W mem s Q) E s) ?_ ?_ ?_ hc
  all_goals (intro h hk;cases h)
  ·exact IsiPair.bool_int (hk s.toks)
  ·exact IsiPair.bool_bool (hk s.toks)
  ·exact IsiPair.bool_list (hk _)
 |int i=>
  refine aO hx.int fun t e34r0_1=>?_
  subst e34r0_1
  refine ve (P:=fun c=>isA mem (.int i) c=some b->_->KP (model W.prog W.w) A (call (.builtin "isinstance") [.int i t,.type c.name]) (PM W mem s Q) E s) ?_ ?_ ?_ hc
  all_goals (intro h hk;cases h)
  ·exact IsiPair.int_int (hk s.toks)
  ·exact IsiPair.int_bool (hk _)
  ·exact IsiPair.int_list (hk _)
 |tup vs=>
  refine bB hx ?_;clear hx;intro d ws e35r0_2 w35r0_3 _
  subst e35r0_2
  refine bq w35r0_3 ?_;clear w35r0_3;intro o ho hcl _
  refine ve (P:=fun c=>isA mem (.tup vs) c=some b->_->KP (model W.prog W.w) A (call (.builtin "isinstance") [.ref d,.type c.name]) (PM W mem s Q) E s) ?_ ?_ ?_ hc
  all_goals (intro h hk;cases h)
  ·exact IsiPair.tuple_int ho hcl (hk _)
  ·exact IsiPair.tuple_bool ho hcl (hk _)
  ·exact IsiPair.tuple_list ho hcl (hk _)
 |ref d=>
  obtain rfl:=hx.ref
  intro h
  have h:(mem d).bind (fun o=>o.isA c.code)=some b:=h
  refine af (Ma.mp h:) ?_;clear h;intro o q h
  cases o with
  |inst _=>exact no h
  |flds _=>exact no h
  |dict0=>
   obtain rfl:false=b:=Option.some.inj h
   refine aq (R.m.mems d _ q:) fun w37r0_0 _=>?_
   refine iU w37r0_0 ?_;clear w37r0_0;intro o es n hn hcl _
   refine ve (P:=fun c=>(∀tk,PM W mem s Q (.bool false) {s with toks:=tk})->KP (model W.prog W.w) A (call (.builtin "isinstance") [.ref d,.type c.name]) (PM W mem s Q) E s) ?_ ?_ ?_ hc
   all_goals intro hk
   ·exact IsiPair.dict_int hn hcl (hk _)
   ·exact IsiPair.dict_bool hn hcl (hk _)
   ·exact IsiPair.dict_list hn hcl (hk _)
  |list xs=>
  obtain rfl:(c.code==2)=b:=Option.some.inj h
  clear h
  refine cG (gZ R.m q:) fun vs n hn _=>?_
  refine ve (P:=fun c=>(∀tk,PM W mem s Q (.bool (c.code==2)) {s with toks:=tk})->KP (model W.prog W.w) A (call (.builtin "isinstance") [.ref d,.type c.name]) (PM W mem s Q) E s) ?_ ?_ ?_ hc
  all_goals intro hk
  ·exact IsiPair.list_int hn rfl (hk _)
  ·exact IsiPair.list_bool hn rfl (hk _)
  ·exact IsiPair.list_list hn rfl (hk s.toks)
 |frz _=>intro h;exact no h
 |str i=>
  refine aO hx.str fun t e39r0_1=>?_
  subst e39r0_1
  refine ve (P:=fun c=>isA mem (.str i) c=some b->_->KP (model W.prog W.w) A (call (.builtin "isinstance") [.str i t,.type c.name]) (PM W mem s Q) E s) ?_ ?_ ?_ hc
  all_goals (intro h hk;cases h)
  ·exact IsiPair.str_int (hk _)
  ·exact IsiPair.str_bool (hk _)
  ·exact IsiPair.str_list (hk _)
theorem mq{n:Int}(h:0<=n/\n<br):Builtin.Range.small 0 n 1=true/\Builtin.Range.rangeSize 0 n 1=((n.toNat:Nat):Int):=by
 unfold br at h
 have e:Builtin.Range.rangeSize 0 n 1=((n.toNat:Nat):Int):=by
  unfold Builtin.Range.rangeSize
  simp
  lia
 refine⟨?_,e⟩
 unfold Builtin.Range.small
 refine rwl e ?_
 simp [Builtin.Range.rangeFitsLong]
 exact Kf h
theorem qK(R:bx W env vis loc mem s){k:Nat}(hr:jR k A){n:Int}{t:Tok}(hl:0<=n/\n<br)(h:bf mem (bP n) Q):
  KP (model W.prog W.w) A (call (.type "range") [.int n t]) (fun r s'=>KP (model W.prog W.w) A (call (.type "list") [r]) (PM W mem s Q) E s') E s:=by
 refine call_range_1 ?_
 have hn':=mq hl
 have k1:bV env.locals s.heap (s.heap.push {cls:= .type "range",data:= .fields #[.int 0 s.toks,.int n t,.int 1 (s.toks+1)]}):= .push _
 have R':bx W env vis loc mem {s with heap:=s.heap.push {cls:= .type "range",data:= .fields #[.int 0 s.toks,.int n t,.int 1 (s.toks+1)]},toks:=s.toks+1+1}:=R.step (R.keepM k1) (R.keepS k1)
 refine aO R'.hasNs fun m hn=>?_
 refine aq (rU hn:) fun F N=>?_
 refine list_rangeD hr.handled F N (IsRange.new ..) hn'.1 hn'.2 (by unfold br at hl;exact JN hl) fun h' tk ys F' N' hk _ hl' hp hc=>?_
 have k2:=bV.of_fr hn F' N' fun p hp=>hp
 refine aq hp ?_;clear hp;intro w42r0_0 _
 refine aO w42r0_0 ?_;clear w42r0_0;intro c' hc'
 refine PM.trans (s':={s with heap:=s.heap.push {cls:= .type "range",data:= .fields #[.int 0 s.toks,.int n t,.int 1 (s.toks+1)]},toks:=s.toks+1+1}) (R.keepS k1) ?_
 refine bR R' k2 (cj _) hc' ?_ h
 have:=uB (W:=W) (h:=s.heap.push {cls:= .type "range",data:= .fields #[.int 0 s.toks,.int n t,.int 1 (s.toks+1)]}) n.toNat hc
 have e:bP (n.toNat:Nat)=bP n:=by unfold bP;exact rwl (L4 ..) rfl
 rw[e] at this;exact this
end TD.Internal
namespace TD.Internal
open PySem PyProof.Rows
theorem Bk:typeLookup (.type "list_reverseiterator") "__len__"=pure none:=by refine rwl (typeLookup_type ..) (rwl (builtinLookup_eq_fast ..) ?_);kernel_rfl
theorem yk:typeLookup (.type "list_reverseiterator") "__length_hint__"=pure (some (.builtin "list_reverseiterator.__length_hint__")):=by refine rwl (typeLookup_type ..) (rwl (builtinLookup_eq_fast ..) ?_);kernel_rfl
theorem zO:isSubtype (.type "list_reverseiterator") (.type "list_reverseiterator")=pure true:=by refine rwl (isSubtype_type ..) ?_;kernel_rfl
section
variable{prog:Program}{w:World}{A:Around}{E:KC->Kv->Prop}{s:Kv}
theorem uV{I l:Addr}{i:Int}(hit:s.heap.IsRevIter I l i){Q:Bool->Kv->Prop}(h:Q false s):KP (model prog w) A (Builtin.List.listLengthHint (.ref I)) Q E s:=by
 unfold Builtin.List.listLengthHint
 refine Kx (wpAny_specialOf hit.typeIs Bk ?_)
 refine(?_:KP _ A (specialOf (Value.ref I) (Str.ofString "__length_hint__")>>=_) _ _ _)
 refine Kx (wpAny_specialOf hit.typeIs yk ?_)
 generalize hid:("list_reverseiterator.__length_hint__":String)=id0
 wp_delta
 refine rwl (by subst hid;decide+kernel:splitId id0=some ("list_reverseiterator","__length_hint__")) ?_
 subst hid
 refine Kx (wpAny_isInstance (T:="list_reverseiterator") (b:=true) hit.typeIs zO ?_)
 refine wpAny_ite_split (fun hab=>absurd hab (by decide)) (fun _=>?_)
 refine wpAny_ite_split (fun _=>?_) (fun hab=>absurd (by kernel_rfl:_=true) hab)
 refine wpAny_ite_split (fun hab=>absurd hab (by decide+kernel)) (fun _=>KV h)
theorem yf{I l:Addr}{items:Array KC}(hh:A.handled=none)(hne:l≠I)(hit:s.heap.IsRevIter I l ((items.size:Int)-1))(hl:s.heap.IsList l items)(hn:items.size<=sizeLine){Q:KC->Kv->Prop}
  (hQ:∀h' tk acc' c',(∀b o,b≠I->s.heap.get? b=some o->h'.get? b=some o)->h'.get? s.heap.objs.size=some {cls:= .type "list",dict:=none,data:= .seq acc' c',slots:= #[]}->
   ItemsOf (fun i v=>items[items.size-1-i]? =some v) acc' items.size->Q (.ref s.heap.objs.size) {s with heap:=h',toks:=tk}):KP (model prog w) A (call (.type "list") [.ref I]) Q E s:=by
 have lt:∀{b:Addr} {o:Obj},s.heap.get? b=some o->b≠s.heap.objs.size:=fun e=>MA (Heap.lt_size e)
 have hIl:I≠s.heap.objs.size:=by obtain⟨o,e,_⟩:=hit;exact lt e
 have hll:l≠s.heap.objs.size:=by obtain⟨o,e,_⟩:=hl;exact lt e
 have WK:=(Walks.listRev (prog:=prog) (w:=w) (A:=A.in1.in1) hh I l hne items).toS
 have hfp:s.heap.objs.size∉ [I,l]:=fun q=>by
  rcases Kw.mp q with q|q
  ·exact hIl q.symm
  ·exact hll (Kq.mp q).symm
 refine callType_codes (Q₁:=fun obj s₁=>obj= .ref s.heap.objs.size/\s₁={s with heap:=s.heap.push {cls:= .type "list",data:= .seq #[]}}) F.called_list (F.typeCall_list_1 _) F.entry_list_init (code_list_new _ ⟨rfl,rfl⟩) fun obj s₁ h₁=>?_
 refine aq h₁ ?_;clear h₁;intro e0r0_0 e0r0_1
 subst e0r0_0
 subst e0r0_1
 have hS:(s.heap.push {cls:= .type "list",data:= .seq #[]}).get? s.heap.objs.size=some {cls:= .type "list",data:= .seq #[]}:=Heap.get?_push_size _ rfl
 refine⟨⟨_,hS,rfl⟩,F.args_list_init_2 _ _,?_⟩
 generalize hS0:s.heap.objs.size=S at hS hfp hIl hll hQ⊢
 have k0:∀b o,s.heap.get? b=some o->(s.heap.push {cls:= .type "list",data:= .seq #[]}).get? b=some o:=fun b o e=>Heap.get?_push_of_some _ e
 generalize s.heap.push {cls:= .type "list",data:= .seq #[]}=h0 at hS k0
 refine(?_:KP _ A.in1.in1 (do let old<-Builtin.List.listItems (.ref S);Builtin.List.listUpdate (.ref S) (fun _=> #[]);letGo old.toList.reverse;Builtin.List.listExtendWith (.ref S) (.ref I) .none) _ _ _)
 refine Kx ?_
 unfold Builtin.List.listItems
 refine Kx (wpAny_seqItems hS rfl (KV ?_))
 refine(?_:KP _ A.in1.in1 (updateSeq S (fun _=> #[])>>=fun _=>letGo (#[]:Array KC).toList.reverse>>=fun _=>Builtin.List.listExtendWith (.ref S) (.ref I) .none) _ _ _)
 refine Kx (wpAny_updateSeq hS rfl ?_)
 have hS2:=Heap.get?_update_self (Obj.mapSeq (fun _=>(#[]:Array KC))) hS rfl
 have k2:∀b o,b≠S->s.heap.get? b=some o->(h0.update S (Obj.mapSeq (fun _=>(#[]:Array KC)))).get? b=some o:=fun b o hb e=>(Heap.get?_update_other _ _ (Ne.symm hb)).trans (k0 b o e)
 refine Kx (wpAny_letGo ?_)
 have hit2:(h0.update S (Obj.mapSeq (fun _=>(#[]:Array KC)))).IsRevIter I l ((items.size:Int)-1):=hit.at fun o e=>k2 I o hIl e
 have hl2:(h0.update S (Obj.mapSeq (fun _=>(#[]:Array KC)))).IsList l items:=hl.at fun o e=>k2 l o hll e
 generalize h0.update S (Obj.mapSeq (fun _=>(#[]:Array KC)))=h2 at hS2 k2 hit2 hl2
 unfold Builtin.List.listExtendWith
 refine Kx (wpAny_typeOf (T:="list_reverseiterator") hit2.typeIs ?_)
 have h1:Builtin.List.listSameRef (.ref S) (.ref I)=false:=by simp [Builtin.List.listSameRef,Ne.symm hIl]
 simp only[h1,show (Value.type "list_reverseiterator"==Value.type "list")=false by decide,show (Value.type "list_reverseiterator"==Value.type "tuple")=false by decide,Bool.or_false,LU,if_false]
 have st0:(0:Nat)<=items.size/\h2.IsRevIter I l ((items.size:Int)-1-((0:Nat):Int))/\h2.IsList l items:=⟨Lp _,by refine rwl (by exact IT:(items.size:Int)-1-((0:Nat):Int)=(items.size:Int)-1) ?_;exact hit2,hl2⟩
 refine Kx (WK.self 0 _ _ _ st0 ?_)
 refine Kx (wpAny_holding (uV hit2 ?_))
 refine wpAny_ite_split (fun q=>absurd q (by decide)) fun _=>?_
 refine KV ⟨plainId_quiet F.plain_extend_loop _,codeAny_extend_loopS WK hn S hfp _ items.size 0 _ _ _ rfl (Lp _) st0 hS2 (ItemsOf.nil _) fun s' acc' c' hm hS' hacc=>?_⟩
 refine rwl (Moved.eq_with hm) ?_
 refine⟨rfl,hQ s'.heap s'.toks acc' c' (fun b o hb e=>hm.heap b o (fun hmem=>?_) (k2 b o (hS0▸lt e) e)) hS' hacc⟩
 rcases Kw.mp hmem with q|q
 ·exact lt e (q.trans hS0.symm)
 ·exact hb (Kq.mp q)
end
section
variable{W:Cx}{A:Around}{E:KC->Kv->Prop}{env:Env}{vis:List (Nat×Str)}{loc:aL}{mem:Mem}{s:Kv}{Q:ae->Mem->Prop}
theorem aJ.rev{W:Cx}{h:Lw}:∀{xs:List ae} {vs:List KC},aJ W h xs vs->aJ W h xs.reverse vs.reverse:=by
 intro xs
 induction xs with
 |nil=>intro vs r;obtain rfl:=r.inv0;rfl
 |cons x xs ih=>
  intro vs r
  refine bB r.inv fun y ys e1r0_2 r1 r2=>?_
  subst e1r0_2
  refine rwl List.reverse_cons (rwl List.reverse_cons ?_)
  have h1:aJ W h [x] [y]:=KF y ⟨[],rfl,r1,rfl⟩
  exact h1.append (ih r2)
theorem ud(R:bx W env vis loc mem s){k:Nat}(hr:jR k A){a:Addr}{xs:List ae}(e:mem a=some (.list xs))(hl:xs.length<br)(h:bf mem xs.reverse Q):
  KP (model W.prog W.w) A (call (.type "reversed") [.ref a]) (fun r s'=>KP (model W.prog W.w) A (call (.type "list") [r]) (PM W mem s Q) E s') E s:=by
 refine cG (gZ R.m e:) fun vs n ha hv=>?_
 have hlen:=hv.length
 have hL:s.heap.IsList a vs.toArray:=⟨_,ha,rfl,n,rfl⟩
 refine call_reversed_list hL ?_
 have hne:a≠s.heap.objs.size:=MA (Heap.lt_size ha)
 have kp:∀b o,s.heap.get? b=some o->(s.heap.push (revObj a ((vs.toArray.size:Int)-1))).get? b=some o:=fun b o e=>Heap.get?_push_of_some _ e
 have hit:(s.heap.push (revObj a ((vs.toArray.size:Int)-1))).IsRevIter s.heap.objs.size a ((vs.toArray.size:Int)-1):=⟨_,Heap.get?_push_size _ rfl,rfl,rfl⟩
 have hsz:(s.heap.push (revObj a ((vs.toArray.size:Int)-1))).objs.size=s.heap.objs.size+1:=Array.size_push ..
 refine yf (l:=a) (items:=vs.toArray) hr.handled hne hit (hL.at fun o e=>kp a o e) (by refine rwl KJ (rwl hlen ?_);exact cO hl) fun h' tk acc' c' hk hS hacc=>?_
 have hk':∀b o,s.heap.get? b=some o->h'.get? b=some o:=fun b o e=>hk b o (MA (Heap.lt_size e)) (kp b o e)
 have hac:acc'=vs.reverse.toArray:=by
  refine aq hacc ?_;clear hacc;intro h1 h2
  have h1:acc'.size=vs.length:=h1
  refine Array.ext (by exact rwl h1 (rwl KJ (rwl Nx rfl))) fun i hi hi'=>?_
  have h3:=h2 i _ (Array.getElem?_eq_getElem hi)
  rw[h1] at hi
  rw[KJ,MD] at h3
  have h4:vs.reverse[i]? =vs[vs.length-1-i]? :=List.getElem?_reverse hi
  rw[h3] at h4
  rw[KJ] at hi'
  rw[KA hi'] at h4
  exact(Option.some.inj h4).symm
 rw[hac] at hS
 exact bR R (.of_keeps hk') (by cases q:s.heap.get? (s.heap.push (revObj a ((vs.toArray.size:Int)-1))).objs.size with|none=>rfl|some o=>have:=Heap.lt_size q;exact absurd this (by refine rwl hsz ?_;exact Nr.mpr (LJ _))) hS hv.rev h
end
end TD.Internal
namespace TD.Internal
open PySem PyProof.Rows
variable{W:Cx}{A:Around}{E:KC->Kv->Prop}{env:Env}{vis:List (Nat×Str)}{loc:aL}{mem:Mem}{s:Kv}{Q:ae->Mem->Prop}
noncomputable def dj (sc:Scope) (env:Env):Prop:=∀x k,sc.names.lookup x=some k->(k= .free->env.kindOf x=some .free\/env.kindOf x=some .cell)/\(k≠ .free->env.kindOf x=some k)
theorem dj.self(env:Env):dj env.scope env:=fun x k h=>⟨fun e=> .inl (e▸h),fun _=>h⟩
noncomputable def ff:List String:=["len","all","sum","max","min","list","tuple","sorted","int","str","range","reversed","set","isinstance","enumerate","bool","ValueError"]
structure iY(W:Cx)(G:String->Option ae):Prop where
 g:W.base.Ns mainGlobals W.mg
 b:W.base.Ns builtinsNs W.mb
 nolimit:W.base.NoLimit
 bi:∀x:Str,x≠"__name__"->W.mb x=bootBuiltins x
 bmiss:∀x∈ff,W.mg (Str.ofString x)=none
 gl:∀x v,G x=some v->∃i t,v= .int i/\W.mg (Str.ofString x)=some (.int i t)
theorem kh{sc:Scope}{n:String}{x:Str}(h:bW sc n x=true):x=Str.ofString n/\sc.names.lookup x=some .globalImplicit/\gK x=true:=by
 unfold bW yy at h
 simp only[KW,beq_iff_eq] at h
 exact⟨h.1.1,h.1.2,h.2⟩
theorem gz{x:Str}(h:gK x=true):(x==("__debug__":Str))=false/\(x==("__classdict__":Str))=false:=by
 unfold gK at h
 simp only[KW,Mb] at h
 exact h.1
theorem sE{sc:Scope}{x:Str}(h:bW sc "" x=true):False:=by
 refine cI (kh h:) fun e0r0_0 _ hn=>?_
 subst e0r0_0
 unfold gK at hn
 simp only[KW,Mb] at hn
 exact absurd hn.2 (by decide)
theorem cy(R:bx W env vis loc mem s){G:String->Option ae}(ok:iY W G){sc:Scope}(hsc:dj sc env){n:String}{x:Str}(h:bW sc n x=true){v:KC}(hv:W.mg (Str.ofString n)=some v){P:KC->Kv->Prop}(hq:P v s){pos:Pos}:
  KP (model W.prog W.w) A (eval (.Name x pos) env) P E s:=by
 refine cI (kh h:) fun e1r0_0 hk hn=>?_
 subst e1r0_0
 refine Calls.Name_function_global R.e.kind ((hsc _ _ hk).2 (by simp)) ?_ (gz hn).1
 exact Calls.loadGlobal_global (by refine rwl R.e.glob ?_;exact ok.g.keeps R.m.stays) hv hq
theorem aI(R:bx W env vis loc mem s){G:String->Option ae}(ok:iY W G){sc:Scope}(hsc:dj sc env){n:String}{x:Str}(h:bW sc n x=true)(hb:n∈ff){v:KC}(hv:bootBuiltins (Str.ofString n)=some v){P:KC->Kv->Prop}(hq:P v s){pos:Pos}:
  KP (model W.prog W.w) A (eval (.Name x pos) env) P E s:=by
 refine cI (kh h:) fun e2r0_0 hk hn=>?_
 subst e2r0_0
 refine Calls.Name_function_global R.e.kind ((hsc _ _ hk).2 (by simp)) ?_ (gz hn).1
 refine Calls.loadGlobal_builtin (by refine rwl R.e.glob ?_;exact ok.g.keeps R.m.stays) (ok.bmiss n hb) (by refine rwl R.e.blt ?_;exact ok.b.keeps R.m.stays) ?_ hq
 rw[ok.bi _ ?_,hv]
 rintro q
 have:n≠"__name__":=by rintro rfl;simp [ff] at hb
 exact this (by
  revert q
  simp only[ff,Kw,LX,or_false] at hb
  rcases hb with rfl|rfl|rfl|rfl|rfl|rfl|rfl|rfl|rfl|rfl|rfl|rfl|rfl|rfl|rfl|rfl|rfl<;>decide+kernel)
theorem uX{sc:Scope}{x:Str}(h:nI sc x=true):sc.names.lookup x=some .local\/sc.names.lookup x=some .cell\/sc.names.lookup x=some .free:=by
 unfold nI at h
 split at h<;>first|(simp_all;done)|cases h
theorem dY(R:bx W env vis loc mem s){sc:Scope}(hsc:dj sc env){i:Nat}{x:Str}(hvis:vis.lookup i=some x)(hl:nI sc x=true)(hn:gK x=true){v:ae}(hv:bS loc i=some v)(hq:Q v mem){pos:Pos}:
  KP (model W.prog W.w) A (eval (.Name x pos) env) (PM W mem s Q) E s:=by
 have hm:(i,x)∈vis:=by
  clear R
  induction vis with
  |nil=>simp at hvis
  |cons p r ih=>
   obtain⟨j,y⟩:=p
   rw[Ld] at hvis
   split at hvis
   ·rename_i q;cases hvis;rw[beq_iff_eq] at q;subst q;exact .head _
   ·exact .tail _ (ih hvis)
 refine wpAny_Name ?_ (gz hn).1
 have cellCase:∀k,env.kindOf x=some k->k= .cell\/k= .free->KP (model W.prog W.w) A (loadName env x) (PM W mem s Q) E s:=fun k hk hc=>by
  refine bB (R.e.cell i x v k hm hv hk hc:) fun c y h1 h2 h3=>?_
  rcases hc with rfl|rfl
  ·exact wpAny_loadName_cell R.e.kind hk h1 h2 (PM.here R.m h3 hq)
  ·exact wpAny_loadName_free R.e.kind hk h1 h2 (PM.here R.m h3 hq) (gz hn).2
 rcases uX hl with h|h|h
 ·have hk:=(hsc _ _ h).2 (by simp)
  refine af R.e.ns fun m hns hr=>?_
  refine af (hr i x v hm hv hk:) fun y h1 h2=>?_
  exact wpAny_loadName_local R.e.kind hk hns h1 (PM.here R.m h2 hq)
 ·exact cellCase _ ((hsc _ _ h).2 (by simp)) (.inl rfl)
 ·rcases (hsc _ _ h).1 rfl with hk|hk
  ·exact cellCase _ hk (.inr rfl)
  ·exact cellCase _ hk (.inl rfl)
theorem fY{e:KX}{rest:List KX}(h:∀a p,e≠ .Starred a p):starEach (e::rest) env=(false,eval e env)::starEach rest env:=by
 cases e<;>first|rfl|(exact absurd rfl (h _ _))
end TD.Internal
namespace TD.Internal
open PySem PyProof.Rows PySem.W
noncomputable def xC (h:Lw) (c:KC):Prop:=c= .type "ValueError"\/∃C bm,c= .ref C/\pw h C bm
theorem qt{M:Model}{h:Lw}{C:Addr}{bm:List KC}(x:pw h C bm):Looks M h (typeOf (.ref C)) (.type "type")/\Looks M h (isType (.ref C)) true:=by
 obtain⟨nm,q,N,bs,hdct,sn,sub,ab,col,dd,k0,k1,k2,k3,k5,mN,hC,_⟩:=x
 refine⟨?_,?_⟩
 ·intro A' Q' E' s' k z
  unfold typeOf
  exact Kx (wpAny_loadPart (k _ _ hC) (KV z))
 ·intro A' Q' E' s' k z
  unfold isType loadHead
  exact Kx (wpAny_loadPart (k _ _ hC) (KV z))
theorem xC.looks{M:Model}{h:Lw}{c:KC}(x:xC h c):Looks M h (typeOf c) (.type "type")/\Looks M h (isType c) true:=by
 rcases x with rfl|⟨C,bm,rfl,x⟩
 ·exact⟨Looks.of_pure (kitMeta_of (by decide+kernel)),Looks.of_pure rfl⟩
 ·exact qt x
theorem mY.looks{M:Model}{h:Lw}{D C:Addr}(x:mY h D C)(c:KC):Looks M h (isSubtype (.ref C) c) ((Value.ref C:: .ref D::jU).contains c):=by
 obtain⟨_,⟨nm',q',N',bs',hdct',sn',sub',ab',col',dd',k0',k1',k2',k3',k5',mN,hC,hN,hmN⟩⟩:=x
 intro A' Q' E' s' k z
 obtain⟨h',g,d,t,os⟩:=s'
 exact wpAny_isSubtype_exc (k _ _ hC) z
structure xe(h:Lw)(D C a:Addr):Prop where
 at_:mY h D C
 obj:∃o,h.get? a=some o/\o.cls= .ref C
theorem xe.type{M:Model}{h:Lw}{D C a:Addr}(x:xe h D C a):Looks M h (typeOf (.ref a)) (.ref C):=by
 obtain⟨_,o,ho,hc⟩:=x
 intro A' Q' E' s' k z
 unfold typeOf
 refine Kx (wpAny_loadPart (k _ _ ho) (KV ?_))
 refine rwl hc ?_;exact z
theorem tm{D C a:Addr}{c:KC}:Answers (fun s=>xe s.heap D C a/\xC s.heap c) (.ref a) c ((Value.ref C:: .ref D::jU).contains c):=by
 intro dep tk prog w A R s hs
 obtain⟨h0,g,d,tt,os⟩:=s
 refine aq hs ?_;clear hs;intro w5r0_0 hq
 refine aq w5r0_0 ?_;clear w5r0_0;intro X hc
 have LT:=X.type (M:=model prog w)
 refine aq (hc.looks (M:=model prog w):) fun hty his=>?_
 have hsub:=X.at_.looks (M:=model prog w) c
 unfold Builtin.«isinstance.nested»
 refine Kx (LT.at ?_)
 by_cases q:(Value.ref C==c)=true
 ·refine rwl (if_pos q) ?_
  have hv:(Value.ref C:: .ref D::jU).contains c=true:=by
   exact rwl (L8 ..) (rwl (beq_iff_eq.mp q ..) (rwl (beq_self_eq_true ..) (rwl (Bool.true_or ..) rfl)))
  rw[hv] at hq
  first
   |((repeat lk);exact hq tt)
   |exact Kx (wpAny_rule (hq tt))
   |exact Kx (wpAny_rule (KV (hq tt)))
 ·refine rwl (if_neg q) ?_
  have LI:Looks (model prog w) h0 (isInstance (.ref a) c) ((Value.ref C:: .ref D::jU).contains c):=LT.andThen hsub
  refine Kx (hty.at ?_)
  refine rwl (if_pos (by decide)) ?_
  k_delta "plainIsInstance"
  refine Kx (Kx (his.at ?_))
  simp only[NM,LU,if_false]
  refine Kx (LI.at ?_)
  generalize (Value.ref C:: .ref D::jU).contains c=v at hq hsub⊢
  cases v with
  |true=>
   first
    |exact KV (KV (hq tt))
    |(simp only[if_true];first|exact KV (KV (hq tt))|exact KV (hq tt)|exact Kx (KV (KV (hq tt))))
  |false=>
   simp only[LU,if_false]
   refine af X.obj fun o ho hoc=>?_
   refine Kx (oQ X.at_ ho hoc ?_)
   refine Kx ((qt X.at_.c).2.at ?_)
   simp only[NM,LU,if_false]
   refine Kx (wpAny_rule ?_)
   refine hsub.at ?_
   first
    |exact KV (hq _)
    |exact KV (KV (hq _))
    |exact Kx (KV (KV (hq _)))
section
variable{prog:Program}{w:World}{A:Around}{E:KC->Kv->Prop}{s:Kv}{Q:KC->Kv->Prop}{D C a:Addr}
theorem vj{c:KC}(X:xe s.heap D C a)(hc:xC s.heap c)(h:∀tk,Q (.bool ((Value.ref C:: .ref D::jU).contains c)) {s with toks:=tk}):KP (model prog w) A (call (.builtin "isinstance") [.ref a,c]) Q E s:=
 call_isinstance (S:=fun _ R s=>(xe s.heap D C a/\xC s.heap c)/\∀tk,R (.ok (.ret (.bool ((Value.ref C:: .ref D::jU).contains c)))) {s with toks:=tk})
  (fun prog w A R s hs=>isinstance_outer (tm 0 _ prog w A R s hs) (by intro e;exact PySem.Value.noConfusion e)) ⟨⟨X,hc⟩,h⟩
end
end TD.Internal
namespace TD.Internal
open PySem PyProof.Rows PySem.W
section
variable{M:Model}{A:Around}{E:KC->Kv->Prop}{h:Lw}{g:Array GenState}{d:Drawn}{t:Nat}{os:OsState}{e D C:Addr}{oe:Obj}
theorem sY(X:mY h D C)(he:h.get? e=some oe)(hcls:oe.cls= .ref C){Q:Bool->Kv->Prop}(hq:Q true ⟨h,g,d,t,os⟩):KP M A (excMatches (.ref e) (.ref D)) Q E ⟨h,g,d,t,os⟩:=by
 obtain⟨⟨nm,q,N,bs,hdct,sn,sub,ab,col,dd,k0,k1,k2,k3,k5,mD,hD,hND,hmD⟩,⟨nm',q',N',bs',hdct',sn',sub',ab',col',dd',k0',k1',k2',k3',k5',mN,hC,hN,hmN⟩⟩:=X
 have hcB:(Value.ref D::jU).contains (.type "BaseException")=true:=rwl (L8 ..) (rwl (by decide+kernel:jU.contains (.type "BaseException")=true) (rwl (Bool.or_true ..) rfl))
 have hcC:(Value.ref C:: .ref D::jU).contains (.ref D)=true:=by simp
 have f:=tc_notTuple
 unfold excMatches
 repeat (first|(with_reducible refine wpAny_loadPart_at he ?_;refine rwl hcls ?_)|with_reducible refine wpAny_loadPart_at hD ?_|(with_reducible refine wpAny_isSubtype_exc hD ?_;refine rwl hcB ?_)|(with_reducible refine wpAny_isSubtype_exc hC ?_;refine rwl hcC ?_)|wp_step)
 exact hq
end
theorem mY.tail{h:Lw}{D C:Addr}(X:mY h D C):OwnTail h jU (.ref D::jU):=by
 obtain⟨nm,q,N,bs,hdct,sn,sub,ab,col,dd,k0,k1,k2,k3,k5,mD,hD,hND,hmD⟩:=X.d
 exact .own hD hND (hmD _ (.head _)) .base
theorem mY.keeps{h h':Lw}{D C:Addr}(X:mY h D C)(hk:∀b o,h.get? b=some o->h'.get? b=some o):mY h' D C:=⟨X.d.keeps hk,X.c.keeps hk⟩
section
variable{prog:Program}{w:World}{A:Around}{E:KC->Kv->Prop}{s:Kv}{env:Env}{D C:Addr}
theorem wZ{x:Str}{np cpos pos p1:Pos}{k1:Nat}{g:Str}{Q:PySem.Flow->Kv->Prop}(hh:A.handled=none)(X:mY s.heap D C)
  (hev:∀{P:KC->Kv->Prop},P (.ref C) s->KP (model prog w) A (eval (.Name x np) env) P E s)
  (h:∀h' e vs tk,Heap.MadeExcOf s.heap h' e (.ref C) vs->E (.ref e) {s with heap:=h',toks:=tk}):
  KP (model prog w) A (exec (.Raise (some (.Call (.Name x np) [.Constant (.str g) k1 p1] [] cpos)) none pos) env) Q E s:=by
 obtain⟨nm',q',N',bs',hdct',sn',sub',ab',col',dd',k0',k1',k2',k3',k5',mN,hC,hN,hmN⟩:=X.c
 refine wpAny_Raise_call_subT (nm:=nm') (q:=q') (N:=N') (bs:=bs') (hdct:=hdct') (sn:=sn') (sub:=sub') (ab:=ab') (col:=col') (dd:=dd') (k0:=k0') (k1:=k1') (k2:=k2') (k3:=k3') (k5:=k5') F.excBase_ValueError (bm:= .ref D::jU) (by exact rwl (L8 ..) (rwl (by decide+kernel:jU.contains (.type "BaseException")=true) (rwl (Bool.or_true ..) rfl))) hh rfl (hmN _ (.head _)) (hev ⟨rfl,?_⟩)
 refine Calls.evalArgs_plain (Calls.spliced_cons ?_)
 refine wpAny_Constant_str (k:=k1) (pos:=p1) (Calls.spliced_nil ?_)
 exact⟨rfl,Nat.le_of_ble_eq_true rfl,hC,hN,X.tail,fun h' e hm=>h h' e _ _ hm⟩
end
end TD.Internal
namespace TD.Internal
open PySem PyProof.Rows PySem.W
section
variable{prog:Program}{w:World}{A:Around}{E:KC->Kv->Prop}{s:Kv}{env:Env}{D C a:Addr}{base h0:Lw}{outer:List Env}{mem:Mem}
theorem uz{t:KX}{n:Str}{b₀:Mc}{suite:List Mc}{pos:Pos}{Q:PySem.Flow->Kv->Prop}(hfr:A.frames=some (env::outer))(F:dm base (env::outer) mem s.heap)(X:z1 h0 (.ref C) a s.heap)
  (al:∀b,s.heap.get? b=none->h0.get? b=none)
  (hX:∀h1,gi (env::outer) h0 s.heap h1->mY h1 D C)
  (hev:∀{h1:Lw} {A':Around} {P:KC->Kv->Prop} {E':KC->Kv->Prop},gi (env::outer) h0 s.heap h1->P (.ref D) {s with heap:=h1}->KP (model prog w) A' (eval t env) P E' {s with heap:=h1})
  (k:∀h1,lR h0 (.ref C) a .none h1->gi (env::outer) h0 s.heap h1->KP (model prog w) (A.mark (some (.ref a))) (storeName env n (.ref a)) (fun _ s₃=>
   KP (model prog w) (A.mark (some (.ref a))) (execs (b₀::suite) env) (fun f s₄=>KP (model prog w) A (do bindName env n .none;unbindBehindTheSuite env n pos) (fun _ s₅=>Q f s₅) E s₄) (fun _ _=>False) s₃) (fun _ _=>False) {s with heap:=h1}):
  KP (model prog w) A (noteFrame (.ref a) env) (fun _ s₂=>KP (model prog w) A (setFlight (.ref a) none) (fun _ s₃=>KP (model prog w) A (handleBy (.ref a) env [.ExceptHandler (some t) (some n) (b₀::suite) pos]) Q E s₃) E s₂) E s:=by
 refine nP hfr F X al fun h1 x1 k1=>?_
 refine wpAny_handleBy_cons (codeAny_handlers_test (hev k1 ?_)) (by intro q;exact PySem.Value.noConfusion q)
 refine yF x1.obj fun oe ws a0 T oT ts e1 e2 e3 _=>?_
 refine sY (hX h1 k1) e1 e2 ?_
 refine codeAny_handlers_suite_as ?_
 refine tI (s:={s with heap:=h1}) (F.kept k1) x1 (k1.al al) fun h2 x2 k2=>?_
 refine KB (k h2 x2 (k1.trans k2)) (fun _ s₃ h₃=>?_) fun _ _ z=>z.elim
 exact KB h₃ (fun f s₄ h₄=>h₄) fun _ _ z=>z.elim
end
end TD.Internal
namespace TD.Internal
open PySem PyProof.Rows
noncomputable def dA:Nat->String
 |6=>"DealError"|7=>"BadTable"|8=>"BadShares"|9=>"BadHeir"|10=>"BadThing"|11=>"BadRing"|12=>"BadOrder"|13=>"Full"|14=>"BadNote"|_=>""
noncomputable def mO (W:Cx) (k:Nat):KC:=(W.mg (Str.ofString (dA k))).getD .none
noncomputable def qh (W:Cx):Prop:=∃D,W.mg (Str.ofString "DealError")=some (.ref D)/\∀k,7<=k->k<=14->∃C,W.mg (Str.ofString (dA k))=some (.ref C)/\mY W.base D C/\fO W.base C (Str.ofString (dA k))
noncomputable def HM (W:Cx) (A:Around) (mem:Mem) (s:Kv) (X:Nat->Mem->Prop) (E:KC->Kv->Prop):Prop:=
 (∃fs,A.frames=some fs/\dm W.base fs mem s.heap)/\qh W/\∀k m' a s',7<=k->z1 s.heap (mO W k) a s'.heap->bC W m' s'->m' a=none->aM fb mem s.heap m' s'.heap->X k m'->E (.ref a) s'
noncomputable def Hp (W:Cx) (A:Around) (mem:Mem) (s:Kv) (X:Nat->Mem->Prop) (E:KC->Kv->Prop):Prop:=(∀k m,¬X k m)\/HM W A mem s X E
theorem dm.step{W:Cx}{D:Addr->Prop}{fs:List Env}{mem m1:Mem}{h h1:Lw}(F:dm W.base fs mem h)(S:aM D mem h m1 h1)(hd:∀b∈Ag fs,¬D b):dm W.base fs m1 h1:=fun env he=>by
 obtain⟨a1,a2,a3,a4,m,o,es,ep,e,r⟩:=F env he
 refine af (S.keep _ o e a4 (hd _ (Ml.mpr ⟨env,he,a2⟩)):) fun o' e' a=>?_
 refine zi (a.ns ⟨es,ep,r⟩:) fun es' ep' r'=>?_
 exact⟨a1,a2,a3,S.none' e a4,m,o',es',ep',e',r'⟩
noncomputable def jd (W:Cx) (A:Around) (mem:Mem) (s:Kv) (X:Nat->Mem->Prop):Prop:=(∀k m,¬X k m)\/((∀k m,X k m->k=0)/\qh W/\∃fs,A.frames=some fs/\dm W.base fs mem s.heap)
theorem jd.step{W:Cx}{A:Around}{mem m1:Mem}{s s1:Kv}{X:Nat->Mem->Prop}(h:jd W A mem s X)(S:aM fb mem s.heap m1 s1.heap):jd W A m1 s1 X:=h.imp id fun⟨h1,h2,fs,h3,h4⟩=>⟨h1,h2,fs,h3,h4.step S fun _ _ z=>z⟩
theorem jd.ok{W:Cx}{A:Around}{mem:Mem}{s:Kv}{X:Nat->Mem->Prop}{E:KC->Kv->Prop}(h:jd W A mem s X):Hp W A mem s X E:=h.imp id fun⟨h1,h2,fs,h3,h4⟩=>⟨⟨fs,h3,h4⟩,h2,fun k m' a s' h7 _ _ _ _ hx=>by rw[h1 k m' hx] at h7;exact absurd h7 (by decide)⟩
theorem jd.no{W:Cx}{A:Around}{mem:Mem}{s:Kv}:jd W A mem s iZ:= .inl fun _ _ z=>z
noncomputable def lS:List Str:=[Str.ofString "__setattr__",Str.ofString "__getattribute__",Str.ofString "__getattr__",Str.ofString "rows",Str.ofString "held"]
noncomputable def p6 (mg:Str->Option KC) (h:Lw) (C N:Addr) (mN:Str->Option KC):Prop:=mg (Str.ofString "Estate")=some (.ref C)/\PyProof.Rows.ClsAt h C N mN/\∀n∈lS,mN n=none
noncomputable def wY (mg:Str->Option KC) (h:Lw):Prop:=∀C,mg (Str.ofString "Estate")=some (.ref C)->∃N mN,p6 mg h C N mN
noncomputable def Fc (W:Cx) (fn:Fn) (a:Addr) (o:Obj):Prop:=(fn.own=false->W.mg (Str.ofString fn.name)=some (.ref a))/\(fn.own=true->o.cls= .type "function"/\∃C N mN,p6 W.mg W.base C N mN/\mN (Str.ofString fn.name)=some (.ref a))
noncomputable def GY (A A':Around):Prop:=A'=A\/∃C vs,A'=A.under (.builtin "type.__call__" ⟨.ref C::vs,[]⟩)
noncomputable def ya (W:Cx) (FT:Nat->Option Fn) (ids:List Nat) (A:Around) (C:bb):Prop:=
 ∀f∈ids,∀fn,FT f=some fn->∃a o fd,Fc W fn a o/\W.base.get? a=some o/\o.data= .func fd/\
  ∀A',GY A A'->∀(vs:List ae) (args:List KC) (Q:ae->Mem->Prop) (X:Nat->Mem->Prop) (mem:Mem) (s:Kv) (E:KC->Kv->Prop),Hp W A' mem s X E->C f vs Q X mem->bC W mem s->aJ W s.heap vs args->
   KP (model W.prog W.w) A' (call (.ref a) args) (PM W mem s Q) E s
structure A1(W:Cx)(FT:Nat->Option Fn)(ids:List Nat)(G:String->Option ae)(n:Nat)(A:Around)(C:bb):Prop where
 ok:iY W G
 room:jR n A
 call:ya W FT ids A C
 est:wY W.mg W.base
section
variable{W:Cx}{A:Around}{E:KC->Kv->Prop}{env:Env}{vis:List (Nat×Str)}{loc:aL}{mem:Mem}{s:Kv}{Q:ae->Mem->Prop}
theorem aS(R:bx W env vis loc mem s){t:Sem KC}{P:KC->Kv->Prop}(h:KP (model W.prog W.w) A t (PM W mem s Q) E s)
  (k:∀v y mem' s',aP W s'.heap v y->bx W env vis loc mem' s'->aM fb mem s.heap mem' s'.heap->Q v mem'->P y s'):KP (model W.prog W.w) A t P E s:=
 KB h (fun y s' p=>by obtain⟨v,mem',a,b,c,d⟩:=p;exact k v y mem' s' a (R.step b c) c d) fun _ _ x=>x
theorem bp{mem':Mem}{s' s2:Kv}{t:Sem KC}(x:aM fb mem s.heap mem' s'.heap)(h:KP (model W.prog W.w) A t (PM W mem' s' Q) E s2):KP (model W.prog W.w) A t (PM W mem s Q) E s2:=
 KB h (fun _ _ p=>PM.trans x p) fun _ _ x=>x
noncomputable def PT (W:Cx) (mem:Mem) (s:Kv) (P:Bool->Mem->Prop) (b:Bool) (s':Kv):Prop:=∃mem',bC W mem' s'/\aM fb mem s.heap mem' s'.heap/\P b mem'
theorem PT.trans{mem':Mem}{s' s'':Kv}{P:Bool->Mem->Prop}{b:Bool}(x:aM fb mem s.heap mem' s'.heap)(p:PT W mem' s' P b s''):PT W mem s P b s'':=by
 obtain⟨m2,a,c,d⟩:=p;exact⟨m2,a,x.trans c,d⟩
theorem PM.test{P:Bool->Mem->Prop}{y:KC}{s':Kv}(p:PM W mem s (oO P) y s'):∃b,y= .bool b/\PT W mem s P b s':=by
 refine dJ p ?_;clear p;intro v mem' a b c d
 refine af d ?_;clear d;intro t e4r0_1 d
 subst e4r0_1
 obtain rfl:=a.bool
 exact⟨t,rfl,mem',b,c,d⟩
theorem pZ{P:Bool->Mem->Prop}{t:Sem KC}{P':Bool->Kv->Prop}(h:KP (model W.prog W.w) A t (PM W mem s (oO P)) E s)(k:∀b s',PT W mem s P b s'->P' b s'):
  KP (model W.prog W.w) A t (fun v s₁=>KP (model W.prog W.w) A (truthy v) P' E s₁) E s:=
 KB h (fun y s' p=>by obtain⟨b,rfl,q⟩:=p.test;exact wpAny_truthy_bool (k b s' q)) fun _ _ x=>x
end
theorem dQ{op:CmpOp}{e:KX}(h:eK e=true):behindInMarks op e=false:=by
 cases e<;>first|rfl|exact nb h
theorem kF{o:KX}{n:Str}{env:Env}{w:Sem KC}(h:kK o=true):attributeBase o n env w=w:=by
 cases o<;>first|rfl|exact nb h
theorem dy{M:Model}{A:Around}{E:KC->Kv->Prop}{s:Kv}{env:Env}{o:KX}{name:Str}{ap p:Pos}{args:List KX}{Q:KC->Kv->Prop}(hok:rC o ap p=true)(hst:∀e∈args,∀a q,e≠ .Starred a q)(hn:args.length<29)
  (h:KP M A (eval o env) (fun ov s₁=>∀pl,KP M A (getMethod ov name pl) (fun fx s₂=>KP M A (callWith p fx.1 fx.2 (backTo p (starEach args env)) []) Q E s₂) E s₁) E s):
  KP M A (eval (.Call (.Attribute o name ap) args [] p) env) Q E s:=by
 unfold rC at hok
 simp only[KW] at hok
 show KP M A (do
  let ov<-attributeBase o name env (eval o env)
  standAt ap.atName
  methodCall o name ap p env ov (args.length+0) (backTo p (starEach args env)) []) Q E s
 refine rwl (kF hok.1) ?_
 have hall:(backTo p (starEach args env)).all (!·.1)=true:=by
  clear h hn
  induction args with
  |nil=>rfl
  |cons e r ih=>
   refine rwl (fY (hst e (.head _))) ?_
   refine(?_:((!false)&&(backTo p (starEach r env)).all (!·.1))=true)
   refine rwl (ih fun e he=>hst e (.tail _ he)) ?_;rfl
 have hf:methodCallForm (args.length+0) (backTo p (starEach args env)) []=true:=by
  unfold methodCallForm
  refine rwl hall ?_
  simp
  walk_at"o"
 refine Kx (KB h (fun ov s₁ h₁=>Kx (wpAny_standAt ?_)) fun _ _ x=>x)
 unfold methodCall
 refine rwl hf ?_
 refine Kx (wpAny_holding ?_)
 unfold calleeOf
 simp only[if_true]
 refine KB (h₁ _) (fun fx s₂ h₂=>?_) fun _ _ x=>x
 unfold methodCallPos
 rw[if_pos (by refine rwl hok.2 ?_;simp)]
 exact Kx (KV h₂)
end TD.Internal
namespace TD.Internal
open PySem PyProof.Rows
section
variable{W:Cx}{A:Around}{E:KC->Kv->Prop}{env:Env}{vis:List (Nat×Str)}{loc:aL}{mem:Mem}{s:Kv}{Q:ae->Mem->Prop}
theorem qV(M:bC W mem s){a d:Addr}{fs:List (Option ae)}(h1:mem a=some (.inst d))(h2:mem d=some (.flds fs)):
  ∃C mA,W.mg (Str.ofString "Estate")=some (.ref C)/\s.heap.InstFk a C mA/\(∃o,s.heap.get? a=some o/\o.dict=some d)/\Within mA [Str.ofString "rows",Str.ofString "held"]/\∀i v,i<2->bS fs i=some v->∃y,mA (Str.ofString (de i))=some y/\aP W s.heap v y:=by
 refine aq (M.mems a _ h1:) fun w0r0_0 _=>?_
 refine mU w0r0_0 ?_;clear w0r0_0;intro o C e1 e2 e3 e4 e5 e6 e7
 refine aq (M.mems d _ h2:) fun w1r0_0 _=>?_
 refine xm w1r0_0 ?_;clear w1r0_0;intro mA f1 f2 f3 f4
 exact⟨C,mA,e2,⟨o,e1,e3,e5,.inr ⟨d,e4,e7,f1,f2⟩⟩,⟨o,e1,e4⟩,f3,f4⟩
theorem yC{f:Nat}(h:f<2):typeLookup (.type "object") (Str.ofString (de f))=pure none:=by
 have:f=0\/f=1:=FR h
 rcases this with rfl|rfl
 ·refine rwl (typeLookup_type ..) (rwl (builtinLookup_eq_fast ..) ?_);kernel_rfl
 ·refine rwl (typeLookup_type ..) (rwl (builtinLookup_eq_fast ..) ?_);kernel_rfl
theorem Bf{n:String}(h:n∈eU):typeLookup (.type "object") (Str.ofString n)=pure none:=by
 unfold eU at h
 simp only[Kw,LX,or_false] at h
 rcases h with rfl|rfl|rfl|rfl|rfl<;>(refine rwl (typeLookup_type ..) (rwl (builtinLookup_eq_fast ..) ?_);kernel_rfl)
theorem Bb{n:String}(h:n∈eU):Str.ofString n∉ [Str.ofString "rows",Str.ofString "held"]:=by
 unfold eU at h
 simp only[Kw,LX,or_false] at h
 rcases h with rfl|rfl|rfl|rfl|rfl<;>decide+kernel
theorem qD{f:Nat}(h:f<2):Str.ofString (de f)∈lS:=by
 have:f=0\/f=1:=FR h
 rcases this with rfl|rfl
 ·exact .tail _ (.tail _ (.tail _ (.head _)))
 ·exact .tail _ (.tail _ (.tail _ (.tail _ (.head _))))
theorem tc:Str.ofString "__getattribute__"∈lS:= .tail _ (.head _)
theorem x8:Str.ofString "__getattr__"∈lS:= .tail _ (.tail _ (.head _))
theorem zJ:Str.ofString "__setattr__"∈lS:= .head _
theorem aP.handed{W:Cx}{h:Lw}{x:ae}{a:KC}(hx:aP W h x a):handedOut a=pure a:=by
 cases x with
 |none=>obtain rfl:=hx.none';rfl
 |bool t=>obtain rfl:=hx.bool;rfl
 |int i=>obtain⟨t,rfl⟩:=hx.int;rfl
 |ref c=>obtain rfl:=hx.ref;rfl
 |str x=>obtain⟨t,rfl⟩:=hx.str;rfl
 |tup _=>obtain⟨c,_,rfl,_⟩:=hx;rfl
 |frz _=>obtain⟨c,_,rfl,_⟩:=hx;rfl
theorem uw(R:bx W env vis loc mem s)(EC:wY W.mg W.base){x:ae}{xv:KC}{f:Nat}(hx:aP W s.heap x xv)(h:wg x f Q mem){b:Bool}:
  KP (model W.prog W.w) A (getAttr xv (Str.ofString (de f)) b) (PM W mem s Q) E s:=by
 refine gf h ?_;clear h;intro d fs v hf w2r0_4 hv hq
 refine bq w2r0_4 ?_;clear w2r0_4;intro a e2r1_1 h1 h2
 subst e2r1_1
 obtain rfl:=hx.ref
 refine wx (qV R.m h1 h2:) fun C mA hm I _ _ hF=>?_
 refine af (hF f v hf hv:) fun y hy hr=>?_
 refine bB (EC C hm:) fun N mN _ K hQ=>?_
 have K:=K.keeps R.m.stays
 obtain⟨nm,q,bs,sn,sub,col,dd,k0,k1,k2,k3,k5,hC⟩:=K.obj
 obtain⟨hh,g,dr,t,os⟩:=s
 exact load_attrFk hC K.ns (hQ _ tc) (hQ _ (qD hf)) (yC hf) I hy hr.handed (PM.val R.m hr hq _)
theorem oE(M:bC W mem s){x:ae}{xv:KC}(hx:aP W s.heap x xv)(h:C5 mem x){n:String}(hn:n∈eU){C N:Addr}{mN:Str->Option KC}(K:p6 W.mg W.base C N mN){f:Addr}{o:Obj}(hf:mN (Str.ofString n)=some (.ref f))(ho:W.base.get? f=some o)(hc:o.cls= .type "function"){pl:Sem Bool}{P:KC×List KC->Kv->Prop}(hp:P (.ref f,[xv]) s):
  KP (model W.prog W.w) A (getMethod xv (Str.ofString n) pl) P E s:=by
 refine iU h ?_;clear h;intro a d fs e8r0_3 h1 h2
 subst e8r0_3
 obtain rfl:=hx.ref
 refine wx (qV M h1 h2:) fun C' mA hm I _ hw _=>?_
 refine cI K ?_;clear K;intro hC0 K hQ
 obtain rfl:C=C':=by rw[hC0] at hm;cases hm;rfl
 have K:=K.keeps M.stays
 obtain⟨nm,q,bs,sn,sub,col,dd,k0,k1,k2,k3,k5,hC⟩:=K.obj
 have hz:mA (Str.ofString n)=none:=by
  cases e:mA (Str.ofString n) with
  |none=>rfl
  |some z=>exact absurd (hw _ (by refine rwl e ?_;exact fun z=>nomatch z)) (Bb hn)
 have hst:=M.stays _ _ ho
 obtain⟨hh,g,dr,t,os⟩:=s
 exact method_ofFk hC K.ns (hQ _ tc) (hQ _ x8) hf hst hc (Bf hn) I hz hp
theorem xu{fs:List (Option ae)}{f:Nat}{v:ae}{i:Nat}{u:ae}(h:bS (ay fs f v) i=some u):(i=f/\u=v)\/(i≠f/\bS fs i=some u):=by
 induction fs generalizing f i with
 |nil=>cases i<;>cases f<;>exact no h
 |cons x r ih=>
  cases f with
  |zero=>
   cases i with
   |zero=>exact .inl ⟨rfl,(Option.some.inj h).symm⟩
   |succ i=>exact .inr ⟨L9 _,h⟩
  |succ f=>
   cases i with
   |zero=>exact .inr ⟨(L9 _).symm,h⟩
   |succ i=>
    rcases ih (f:=f) (i:=i) h with ⟨rfl,e⟩|⟨e,e'⟩
    ·exact .inl ⟨rfl,e⟩
    ·exact .inr ⟨fun q=>e (Nat.succ.inj q),e'⟩
theorem Cz{i f:Nat}(hi:i<2)(hf:f<2)(h:i≠f):Str.ofString (de i)≠Str.ofString (de f):=by
 have h1:i=0\/i=1:=FR hi
 have h2:f=0\/f=1:=by lia
 rcases h1 with rfl|rfl<;>rcases h2 with rfl|rfl<;>first|exact absurd rfl h|decide+kernel
theorem BZ{f:Nat}(hf:f<2):Str.ofString (de f)∈ [Str.ofString "rows",Str.ofString "held"]:=by
 have h2:f=0\/f=1:=FR hf
 rcases h2 with rfl|rfl
 ·exact .head _
 ·exact .tail _ (.head _)
theorem bC.updK{s s':Kv}(M:bC W mem s){a:Addr}{o o₀:cU}(ha:mem a=some o₀)(k:∀b o,b≠a->s.heap.get? b=some o->s'.heap.get? b=some o)
  (r:cM s.heap s'.heap->jP W s'.heap a o) (hg:s'.gens=s.gens:=by rfl) (ho:s'.os=s.os:=by rfl):bC W (mem.set a o) s':=by
 have hb:=(M.mems a o₀ ha)
 have kf:cM s.heap s'.heap:=fun b x e hf=>by
  by_cases hba:b=a
  ·subst hba;exact absurd hf (hb.1.notFixed e)
  ·exact k b x hba e
 refine⟨fun b x e=>?_,fun b x e=>?_,hg.trans M.gens,ho.trans M.os⟩
 ·by_cases hba:b=a
  ·subst hba;rw[hb.2] at e;injection e
  ·exact k b x hba (M.stays b x e)
 ·unfold Mem.set at e
  split at e
  ·rename_i q;subst q;cases e;exact⟨r kf,hb.2⟩
  ·rename_i q
   refine aq (M.mems b x e:) fun r' n'=>?_
   exact⟨r'.at (fun _ e=>k _ _ q e) kf,n'⟩
theorem aM.updK{D:Addr->Prop}{h h':Lw}{a:Addr}{o o₀:cU}(ha:mem a=some o₀)(k:∀b o,b≠a->h.get? b=some o->h'.get? b=some o)(hl:h'.get? a≠none):aM D mem h (mem.set a o) h':=
 by
 refine⟨fun b e=>?_,fun b x e hm _=>?_,fun b hm hm'=>?_⟩
 ·by_cases hb:b=a
  ·subst hb;exact absurd e hl
  ·cases q:h.get? b with
   |none=>rfl
   |some x=>rw[k b x hb q] at e;injection e
 ·have hb:b≠a:=by rintro rfl;rw[ha] at hm;injection hm
  exact⟨x,k b x hb e,.refl x⟩
 ·unfold Mem.set at hm'
  split at hm'
  ·rename_i hb;subst hb;rw[ha] at hm;injection hm
  ·exact absurd hm hm'
theorem pF(R:bx W env vis loc mem s)(EC:wY W.mg W.base){x v:ae}{xv y:KC}{f:Nat}(hx:aP W s.heap x xv)(hv:aP W s.heap v y){K:Mem->Prop}(h:AE x f v K mem):
  KP (model W.prog W.w) A (setAttr xv (Str.ofString (de f)) y) (fun _ s'=>∃mem',bC W mem' s'/\aM fb mem s.heap mem' s'.heap/\K mem') E s:=by
 refine dJ h ?_;clear h;intro d fs hf w14r0_3 hl hk
 refine bq w14r0_3 ?_;clear w14r0_3;intro a e7r1_1 h1 h2
 subst e7r1_1
 obtain rfl:=hx.ref
 refine wx (qV R.m h1 h2:) fun C mA hm I w15r0_4 hw hF=>?_
 refine af w15r0_4 ?_;clear w15r0_4;intro o ho hd
 refine bB (EC C hm:) fun N mN _ Kc hQ=>?_
 have hbC:∃oC,W.base.get? C=some oC:=by
  obtain⟨nm,q,bs,sn,sub,col,dd,k0,k1,k2,k3,k5,hC⟩:=Kc.obj;exact⟨_,hC⟩
 have Kc:=Kc.keeps R.m.stays
 obtain⟨nm,q,bs,sn,sub,col,dd,k0,k1,k2,k3,k5,hC⟩:=Kc.obj
 have hxC:a≠C:=by
  rintro rfl
  refine aO hbC ?_;clear hbC;intro oC e
  rw[(R.m.mems _ _ h1).2] at e;injection e
 have ti:=(R.m.mems _ _ h2).1
 have hi2:=(R.m.mems _ _ h1).1
 have M:=R.m
 obtain⟨hh,g,dr,t,os⟩:=s
 refine store_attrFk PySem.F.store_object hC Kc.ns (hQ _ zJ) (hQ _ (qD hf)) (yC hf) hxC I (fun h' tk' I' hkeep hsame=>?_) hw (by unfold sizeLine;simp)
 have hne:d≠a:=by obtain⟨_,_,_,_,_,_,_,_,q⟩:=hi2;exact q
 --the object itself stands
 refine Js (hsame o ho:) fun o1 e1 c1 dt1 sl1 dk1=>?_
 have o1d:=dk1 d hd
 have ho1:o1=o:=by
  obtain⟨a1,a2,a3,a4⟩:=o1
  obtain⟨b1,b2,b3,b4⟩:=o
  simp only at c1 dt1 sl1 o1d hd
  exact rwl c1 (rwl dt1 (rwl sl1 (rwl o1d (rwl hd rfl))))
 rw[ho1] at e1
 have kb:∀b o,b≠d->hh.get? b=some o->h'.get? b=some o:=fun b ob hb e=>by
  by_cases hba:b=a
  ·subst hba;rw[ho] at e;cases e;exact e1
  ·exact hkeep b ob hba (fun o₀ dx q1 q2=>by rw[ho] at q1;cases q1;rw[hd] at q2;cases q2;exact hb) e
 refine xm I' ?_;clear I';intro o2 g1 g2 g3 g4
 obtain rfl:o=o2:=Option.some.inj (e1.symm.trans g1)
 rcases g4 with ⟨g4,_⟩|⟨d',g4,g5,g6,g7⟩
 ·rw[hd] at g4;injection g4
 obtain rfl:d=d':=by rw[hd] at g4;cases g4;rfl
 have hlive:h'.get? d≠none:=by obtain⟨od,e,_⟩:=g7;refine rwl e ?_;exact fun q=>nomatch q
 refine⟨_,bC.updK (s':=⟨h',g,dr,tk',os⟩) M h2 kb (fun kf=>?_),aM.updK h2 kb hlive,hk⟩
 refine⟨_,g6,g7,fun n hn=>?_,fun i u hi hu=>?_⟩
 ·by_cases e:n=Str.ofString (de f)
  ·refine rwl e ?_;exact BZ hf
  ·refine hw n ?_
   simp only[if_neg e] at hn;exact hn
 ·rcases xu hu with ⟨rfl,rfl⟩|⟨hne',hu⟩
  ·exact⟨y,if_pos rfl,hv.keep kf⟩
  ·refine af (hF i u hi hu:) fun z hz hr=>?_
   exact⟨z,(if_neg (Cz hi hf hne')).trans hz,hr.keep kf⟩
theorem yQ{C:Addr}(M:bC W mem s)(hm:W.mg (Str.ofString "Estate")=some (.ref C)){h1:Lw}{x d:Addr}(k:∀b o,s.heap.get? b=some o->h1.get? b=some o)(hx:s.heap.get? x=none)(hd:s.heap.get? d=none)(hne:x≠d)
  (ox:h1.get? x=some {cls:= .ref C,dict:=some d,data:= .plain}) (od:h1.get? d=some {cls:= .type "dict",data:= .dict #[]}):
  bC W ((mem.set d (.flds [none,none])).set x (.inst d)) {s with heap:=h1}/\aM fb mem s.heap ((mem.set d (.flds [none,none])).set x (.inst d)) h1:=by
 have hbase:∀b,s.heap.get? b=none->W.base.get? b=none:=fun b e=>by
  cases q:W.base.get? b with
  |none=>rfl
  |some o=>rw[M.stays b o q] at e;injection e
 refine⟨⟨fun b o e=>k _ _ (M.stays b o e),fun b o e=>?_,M.gens,M.os⟩,jq k,fun b o e _ _=>⟨o,k b o e,.refl o⟩,fun b hb hb'=>?_⟩
 ·unfold Mem.set at e
  split at e
  ·rename_i q;subst q;cases e
   exact⟨⟨_,C,ox,hm,rfl,rfl,(fun _ q=>nomatch q),(fun _ q=>nomatch q),hne.symm⟩,hbase _ hx⟩
  ·split at e
   ·rename_i q;subst q;cases e
    refine⟨⟨fun _=>none,Heap.Ns1.of_empty ⟨_,#[],_,od,rfl,fun e he=>absurd he (by simp),fun _=>rfl⟩,⟨_,od,rfl,rfl⟩,fun y hy=>absurd rfl hy,fun i v hi hv=>?_⟩,hbase _ hd⟩
    have:i=0\/i=1:=FR hi
    rcases this with rfl|rfl<;>exact no hv
   ·exact(M.mems.of_keeps k) b o e
 ·unfold Mem.set at hb'
  split at hb'
  ·rename_i q;subst q;exact hx
  ·split at hb'
   ·rename_i q;subst q;exact hd
   ·exact absurd hb hb'
theorem wH(vs:List KC)(i j:Int):slicePick vs.toArray (some i) (some j) none=((vs.drop (eN i vs.length)).take (eN j vs.length-eN i vs.length)).toArray:=by
 refine rwl (slicePick_plain ..) ?_
 simp only[Option.elim,KJ,ri]
 congr 1
 rcases Nat.le_total (eN i vs.length) vs.length with h|h
 ·refine rwl (LQ h) ?_
  rcases Nat.le_total (eN j vs.length) vs.length with h'|h'
  ·exact rwl (LQ h') rfl
  ·exact rwl (Nh h') (rwl (Mg (by simp)) (rwl (Mg (by simp;exact J7 h')) rfl))
 ·refine rwl (Nh h) (rwl (My (by simp)) (rwl (My h) ?_));simp
theorem wo(R:bx W env vis loc mem s){x:ae}{xv:KC}{i j:Int}{t u:Tok}(hx:aP W s.heap x xv)(h:BU x i j Q mem){value:KX}{l r:Option KX}{p:Pos}:
  KP (model W.prog W.w) A (subscriptTail value (.Slice l r none p) xv (.ref s.heap.objs.size)) (PM W mem s Q) E {s with heap:=s.heap.push {cls:= .type "slice",data:= .fields #[.int i t,.int j u,.none]}}:=by
 refine bq h ?_;clear h;intro xs e hl hf
 refine bB (cm R.m hx e:) fun a vs e26r0_2 hL rl=>?_
 subst e26r0_2
 have hlen:=rl.length
 have k1:bV env.locals s.heap (s.heap.push {cls:= .type "slice",data:= .fields #[.int i t,.int j u,.none]}):= .push _
 have R':bx W env vis loc mem {s with heap:=s.heap.push {cls:= .type "slice",data:= .fields #[.int i t,.int j u,.none]}}:=R.step (R.keepM k1) (R.keepS k1)
 have hsz:vs.toArray.size<=sizeLine:=by refine rwl KJ (rwl hlen ?_);exact cO hl
 have r':=rl.keep (R.keepF k1)
 refine tail_any (o:= .ref a) (hL.push _).typeIs slot_list_getitem.lookup ?_ rfl
 refine wpAny_getItem_list_slice (hL.push _) (Heap.IsSliceOf.new ..) (.int i t) (.int j u) .none (by simp) ?_ hsz
 refine rwl (wH vs i j) (rwl hlen ?_)
 exact PM.trans (s':={s with heap:=s.heap.push {cls:= .type "slice",data:= .fields #[.int i t,.int j u,.none]}}) (R.keepS k1) (bR R' (.push _) (cj _) (Heap.get?_push_size _ rfl) ((r'.cut _).1.cut _).2 hf)
theorem wN{value:KX}{n:Str}{p:Pos}{P:KC->Kv->Prop}(hn:kK value=true)(h:KP (model W.prog W.w) A (eval value env) (fun o s1=>KP (model W.prog W.w) A (getAttr o n true) P E s1) E s):
  KP (model W.prog W.w) A (eval (.Attribute value n p) env) P E s:=by
 show KP _ _ (do
  let o<-attributeBase value n env (eval value env)
  standAt p.atName
  let r<-holding [o] (getAttr o n true)
  letTemporaryGo value o r
  pure r) _ _ _
 refine rwl (kF hn) ?_
 refine Kx (KB h (fun o s1 h1=>Kx (wpAny_standAt (Kx (wpAny_holding (KB h1 (fun r s2 h2=>?_) fun _ _ x=>x))))) fun _ _ x=>x)
 exact Kx (wpAny_letTemporaryGo (KV h2))
theorem ue{v o:KX}{n:Str}{p:Pos}{k:Nat}:swapsWith v (some (.Attribute o n p)) k env=pure false:=by cases v<;>rfl
theorem nA{p:Pos}:∀{es:List KX},(∀e∈es,∀a q,e≠ .Starred a q)->(backTo p (starEach es env)).any (·.1)=false
 | [],_=>rfl
 |e::r,h=>by
  refine rwl (fY (h e (.head _))) ?_
  refine(?_:(false||(backTo p (starEach r env)).any (·.1))=false)
  refine rwl (nA fun e he=>h e (.tail _ he)) ?_;rfl
section
variable{h:Lw}{g:Array GenState}{d:Drawn}{t:Nat}{os:OsState}{prog:Program}{w:World}
noncomputable abbrev km (h:Lw) (C:Addr):Lw:=(h.push {cls:= .type "dict",data:= .dict #[]}).push {cls:= .ref C,dict:=some h.objs.size,data:= .plain}
theorem FU(h:Lw)(C:Addr):(km h C).get? (h.objs.size+1)=some {cls:= .ref C,dict:=some h.objs.size,data:= .plain}:=by
 have:=Heap.get?_push_size (h:=h.push {cls:= .type "dict",data:= .dict #[]}) (o:={cls:= .ref C,dict:=some h.objs.size,data:= .plain}) rfl
 rw[Heap.size_push] at this
 exact this
theorem Jq(h:Lw)(C:Addr):(km h C).get? h.objs.size=some {cls:= .type "dict",data:= .dict #[]}:=Heap.get?_push_of_some _ (Heap.get?_push_size _ rfl)
theorem jK(h:Lw)(C:Addr)(b:Addr)(o:Obj)(e:h.get? b=some o):(km h C).get? b=some o:=Heap.get?_push_of_some _ (Heap.get?_push_of_some _ e)
theorem xd{C N:Addr}{mN:Str->Option KC}{rest:List KC}{fI:Addr}{oI:Obj}{P:Fin->Kv->Prop}
  (K:PyProof.Rows.ClsAt h C N mN) (hi:mN "__init__"=some (.ref fI)) (hfI:h.get? fI=some oI) (hfc:oI.cls= .type "function")
  (hq:KP (model prog w) A (call (.ref fI) (.ref (h.objs.size+1)::rest)) (fun r s'=>r= .none/\P (.done (.ret (.ref (h.objs.size+1)))) s') E ⟨km h C,g,d,t,os⟩):
  KP (model prog w) A (Builtin.«type.__call__» ⟨.ref C::rest,[]⟩) P E ⟨h,g,d,t,os⟩:=by
 obtain⟨nm,q,bs,sn,sub,col,dd,k0,k1,k2,k3,k5,hC⟩:=K.obj
 have K1:=K.keeps (jK h C)
 have hC1:=jK h C _ _ hC
 have hmro:mroOf (.type "object")=pure [.type "object"]:=by kernel_rfl
 have hlk:typeLookup (.type "object") "__init__"=pure (some (.builtin "object.__init__")):=by refine rwl (typeLookup_type ..) (rwl (builtinLookup_eq_fast ..) ?_);kernel_rfl
 repeat (first|with_reducible refine wpAny_loadPart_at hC ?_|with_reducible refine wpAny_madeBy_exc hC ?_|wp_step)
 refine codeAny_call_builtin_code (Code.quiet_builtin _ PySem.F.objNew.quiet) (wpAny_check_obj_new PySem.F.objNew hC ?_)
 refine codeAny_obj_new PySem.F.objNew hC K.ns hi ?_
 refine(?_:KP _ _ _ _ _ _)
 have hget:=FU h C
 have hcC:(Value.ref C:: [Value.type "object"]).contains (.ref C)=true:=by simp
 unfold isInstance
 repeat (first|with_reducible refine wpAny_loadPart_at hget ?_|(with_reducible refine wpAny_isSubtype_exc hC1 ?_;refine rwl hcC ?_)|wp_step)
 refine(?_:KP _ _ (typeLookup (.ref C) _) _ _ _)
 refine wpAny_typeLookup_exc hC1 K1.ns hmro hlk ?_
 refine rwl hi ?_
 refine wpAny_holding (Kx ?_)
 unfold bindSpecial
 refine Kx (wpAny_typeOf (T:="function") ⟨_,jK h C _ _ hfI,hfc⟩ ?_)
 refine rwl (if_pos (by decide)) ?_
 refine KV (Kx (KB hq (fun r s' hr=>?_) fun _ _ x=>x))
 refine aq hr ?_;clear hr;intro e28r0_0 hP
 subst e28r0_0
 wp_walk
 exact hP
theorem qw{C N:Addr}{mN:Str->Option KC}{rest:List KC}{fI:Addr}{oI:Obj}{P:KC->Kv->Prop}
  (K:PyProof.Rows.ClsAt h C N mN) (hi:mN "__init__"=some (.ref fI)) (hfI:h.get? fI=some oI) (hfc:oI.cls= .type "function")
  (hq:KP (model prog w) (A.under (.builtin "type.__call__" ⟨.ref C::rest,[]⟩)) (call (.ref fI) (.ref (h.objs.size+1)::rest)) (fun r s'=>r= .none/\P (.ref (h.objs.size+1)) s') E ⟨km h C,g,d,t,os⟩):
  KP (model prog w) A (call (.ref C) rest) P E ⟨h,g,d,t,os⟩:=by
 obtain⟨nm,q,bs,sn,sub,col,dd,k0,k1,k2,k3,k5,hC⟩:=K.obj
 have f1:=tc_lookup
 have f2:=tc_bind (.ref C)
 have hT:(⟨h,g,d,t,os⟩:Kv).TypeIs (.ref C) "type":=⟨_,hC,rfl⟩
 refine wpAny_call (codeAny_of_tree ?_)
 refine(?_:KP _ _ (callAny (.ref C) _) _ _ _)
 repeat (any_goals (first|assumption|with_reducible refine wpAny_loadPart_at hC ?_|wp_step))
 refine⟨rfl,?_⟩
 exact codeAny_call_builtin_at (Code.quiet_builtin _ (by decide+kernel)) entry_typeCall (wpAny_check_type_call_sub hC (xd K hi hfI hfc hq))
end
theorem xf(M:bC W mem s){C N:Addr}{mN:Str->Option KC}(K:p6 W.mg W.base C N mN){fI:Addr}{oI:Obj}(hi:mN (Str.ofString "__init__")=some (.ref fI))(hfI:W.base.get? fI=some oI)(hfc:oI.cls= .type "function")
  {us:List ae} {vs:List KC} (hr:aJ W s.heap us vs) {T:ae->Mem->Prop} (hn:A6 T mem)
  (hcall:∀x xs m1 s1,T x m1->bC W m1 s1->aM fb mem s.heap m1 s1.heap->aJ W s1.heap (x::us) xs->KP (model W.prog W.w) (A.under (.builtin "type.__call__" ⟨.ref C::vs,[]⟩)) (call (.ref fI) xs) (PM W m1 s1 fun r m3=>r= .none/\Q x m3) E s1):
  KP (model W.prog W.w) A (call (.ref C) vs) (PM W mem s Q) E s:=by
 have hne:s.heap.objs.size+1≠s.heap.objs.size:=Ng _
 have hx:s.heap.get? (s.heap.objs.size+1)=none:=Heap.get?_none_of_le (LJ _)
 have hd:=cj s.heap
 refine aq (yQ M K.1 (h1:=km s.heap C) (jK s.heap C) hx hd hne (FU _ _) (Jq _ _):) fun M1 S1=>?_
 have hT:=hn (s.heap.objs.size+1) s.heap.objs.size (M.mems.fresh hx) (M.mems.fresh hd) hne
 have hc:=hcall _ (.ref (s.heap.objs.size+1)::vs) _ _ hT M1 S1 (.cons .mkRef (hr.keep (.of_keeps (jK s.heap C))))
 have Kc:=K.2.1.keeps M.stays
 have hfI:=M.stays _ _ hfI
 obtain⟨hh,g,dr,t,os⟩:=s
 refine qw Kc hi hfI hfc (KB hc (fun r s' q=>?_) fun _ _ x=>x)
 refine wx q ?_;clear q;intro v m3 hv M3 S3 e32r0_5 hq
 subst e32r0_5
 exact⟨hv.none',.ref (hh.objs.size+1),m3,.mkRef,M3,S1.trans S3,hq⟩
theorem ub(M:bC W mem s){C N:Addr}{mN:Str->Option KC}(K:p6 W.mg W.base C N mN){fI:Addr}{oI:Obj}(hi:mN (Str.ofString "__init__")=some (.ref fI))(hfI:W.base.get? fI=some oI)(hfc:oI.cls= .type "function")
  {us:List ae} {vs:List KC} (hr:aJ W s.heap us vs) {P:KC->Kv->Prop}
  (hcall:∀x s1,bC W mem s1->aM fb mem s.heap mem s1.heap->mem x=none->aJ W s1.heap (.ref x::us) (.ref x::vs)->KP (model W.prog W.w) (A.under (.builtin "type.__call__" ⟨.ref C::vs,[]⟩)) (call (.ref fI) (.ref x::vs)) (fun _ _=>False) E s1):
  KP (model W.prog W.w) A (call (.ref C) vs) P E s:=by
 have hx:s.heap.get? (s.heap.objs.size+1)=none:=Heap.get?_none_of_le (LJ _)
 have kp:=jK s.heap C
 have hc:=hcall (s.heap.objs.size+1) {s with heap:=km s.heap C} (M.of_keeps kp) (.of_keeps kp) (M.mems.fresh hx) (.cons .mkRef (hr.keep (.of_keeps kp)))
 have Kc:=K.2.1.keeps M.stays
 have hfI:=M.stays _ _ hfI
 obtain⟨hh,g,dr,t,os⟩:=s
 exact qw Kc hi hfI hfc (KB hc (fun r s' q=>q.elim) fun _ _ x=>x)
end
end TD.Internal
namespace TD.Internal
open PySem PyProof.Rows
variable{W:Cx}{A:Around}{E:KC->Kv->Prop}{env:Env}{vis:List (Nat×Str)}{loc:aL}{mem:Mem}{s:Kv}
theorem jC{v u:ae}{l:aL}:∀{i j:Nat},bS (ay l i v) j=some u->(j=i/\u=v)\/(j≠i/\bS l j=some u):=by
 induction l with
 |nil=>intro i j h;exact no h
 |cons x r ih=>
  intro i j h
  cases i with
  |zero=>cases j with
   |zero=>exact .inl ⟨rfl,(Option.some.inj h).symm⟩
   |succ j=>exact .inr ⟨L9 j,h⟩
  |succ i=>cases j with
   |zero=>exact .inr ⟨(L9 i).symm,h⟩
   |succ j=>
    rcases ih (i:=i) (j:=j) h with ⟨rfl,b⟩|⟨a,b⟩
    ·exact .inl ⟨rfl,b⟩
    ·exact .inr ⟨fun q=>a (Nat.succ.inj q),b⟩
noncomputable def di (vis:List (Nat×Str)):Prop:=∀i x j y,(i,x)∈vis->(j,y)∈vis->(i=j↔x=y)
theorem dp(R:bx W env vis loc mem s)(hv:di vis){i:Nat}{x:Str}(hm:(i,x)∈vis)(hk:env.kindOf x=some .local\/env.kindOf x=some .cell){v:ae}{y:KC}(hr:aP W s.heap v y)
  {P:Unit->Kv->Prop} (hp:∀s',bx W env vis (ay loc i v) mem s'->aM (gk env) mem s.heap mem s'.heap->(∃a,gk env a/\(env.kindOf x=some .local->a=env.locals)/\Heap.SameBut a s.heap s'.heap)->P () s'):KP (model W.prog W.w) A (storeName env x y) P E s:=by
 rcases hk with hk|hk
 ·refine af R.e.ns fun m hns hr'=>?_
  refine wpAny_storeName_local hk hns (fun h' hn' hs'=>?_) (by refine rwl R.e.kind ?_;rfl)
  have hL:∃o,h'.get? env.locals=some o:=by obtain⟨o,_,_,e,_⟩:=hn';exact⟨o,e⟩
  have kb:∀b o,b≠env.locals->s.heap.get? b=some o->h'.get? b=some o:=fun b o hb e=>(hs'.2 b hb).trans e
  have kf:cM s.heap h':=fun b o e hf=>by
   refine kb b o ?_ e
   rintro rfl
   exact R.e.dok _ o (.inl rfl) e hf
  have St:aM (gk env) mem s.heap mem h':=by
   refine⟨fun b e=>?_,fun b o e hm' hd=>⟨o,kb b o (fun q=>hd (.inl q)) e,.refl o⟩,fun _ a b=>absurd a b⟩
   by_cases hb:b=env.locals
   ·subst hb;obtain⟨o,ho⟩:=hL;rw[ho] at e;injection e
   ·refine rwb (hs'.2 b hb) ?_;exact e
  refine hp _ ⟨⟨fun b o e=>kb b o (by rintro rfl;rw[R.new _ (.inl rfl)] at e;injection e) (R.m.stays b o e),fun b o e=>?_,R.m.gens,R.m.os⟩,?_,R.sep,R.new⟩ St ⟨_,.inl rfl,fun _=>rfl,hs'⟩
  ·refine aq (R.m.mems b o e:) fun r nb=>?_
   have hb:b≠env.locals:=by rintro rfl;rw[R.sep _ (.inl rfl)] at e;injection e
   exact⟨r.at (fun _ e=>kb _ _ hb e) kf,nb⟩
  ·have kc:∀z c u,env.cells.lookup z=some c->s.heap.IsCell c u->h'.IsCell c u:=fun z c u hz ⟨o,e,hd⟩=>by
    refine⟨o,kb c o ?_ e,hd⟩
    rintro rfl
    refine iU hns ?_;clear hns;intro o' es ep e' hd' _
    rw[e] at e';(injection e' with e';cases e');rw[hd] at hd';injection hd'
   refine⟨R.e.kind,R.e.glob,R.e.blt,⟨_,hn',fun j z u hj hg hkz=>?_⟩,fun j z u k hj hg hkz hc=>?_,R.e.cellk,fun z c hz=>let ⟨o,ho⟩:=R.e.cells z c hz;⟨o,kc z c _ hz ho⟩,R.e.apart⟩
   ·rcases jC hg with ⟨rfl,rfl⟩|⟨hne,hg⟩
    ·have:z=x:=(hv _ _ _ _ hj hm).mp rfl
     subst this;exact⟨y,by simp,hr.keep kf⟩
    ·have:z≠x:=fun q=>hne ((hv _ _ _ _ hj hm).mpr q)
     refine af (hr' j z u hj hg hkz:) fun y' h1 h2=>?_
     exact⟨y',by simp [this,h1],h2.keep kf⟩
   ·rcases jC hg with ⟨rfl,rfl⟩|⟨hne,hg⟩
    ·have:z=x:=(hv _ _ _ _ hj hm).mp rfl
     subst this;rw[hk] at hkz;cases hkz;rcases hc with hc|hc<;>injection hc
    ·refine bB (R.e.cell j z u k hj hg hkz hc:) fun c y' h1 h2 h3=>?_
     exact⟨c,y',h1,kc z c _ h1 h2,h3.keep kf⟩
 ·refine aO (R.e.cellk x _ hk (.inl rfl):) fun c hc=>?_
  refine aO (R.e.cells x c hc:) fun u₀ hu=>?_
  refine wpAny_storeName_cell R.e.kind hk hc hu fun h' hc' hs'=>?_
  have kb:∀b o,b≠c->s.heap.get? b=some o->h'.get? b=some o:=fun b o hb e=>(hs'.2 b hb).trans e
  have hcd:gk env c:= .inr ⟨x,hc⟩
  have kf:cM s.heap h':=fun b o e hf=>by
   refine kb b o ?_ e
   rintro rfl
   exact R.e.dok _ o hcd e hf
  have St:aM (gk env) mem s.heap mem h':=by
   refine⟨fun b e=>?_,fun b o e hm' hd=>⟨o,kb b o (fun q=>hd (q▸hcd)) e,.refl o⟩,fun _ a b=>absurd a b⟩
   by_cases hb:b=c
   ·subst hb;obtain⟨o,ho,_⟩:=hc';rw[ho] at e;injection e
   ·refine rwb (hs'.2 b hb) ?_;exact e
  refine hp _ ⟨⟨fun b o e=>kb b o (by rintro rfl;rw[R.new _ hcd] at e;injection e) (R.m.stays b o e),fun b o e=>?_,R.m.gens,R.m.os⟩,?_,R.sep,R.new⟩ St ⟨_,hcd,(fun q=>by rw[hk] at q;exact absurd q (by decide)),hs'⟩
  ·refine aq (R.m.mems b o e:) fun r nb=>?_
   have hb:b≠c:=by rintro rfl;rw[R.sep _ hcd] at e;injection e
   exact⟨r.at (fun _ e=>kb _ _ hb e) kf,nb⟩
  ·have kc:∀z d u,z≠x->env.cells.lookup z=some d->s.heap.IsCell d u->h'.IsCell d u:=fun z d u hzx hz ⟨o,e,hd⟩=>
    ⟨o,kb d o (fun q=>hzx (R.e.apart z x c (q▸hz) hc)) e,hd⟩
   refine af R.e.ns fun m hns hr'=>?_
   have hns':h'.Ns env.locals m:=by
    refine iU hns ?_;clear hns;intro o es ep e hd q
    refine⟨o,es,ep,kb _ o ?_ e,hd,q⟩
    rintro rfl
    refine af hu ?_;clear hu;intro o' e' hd'
    rw[e] at e';(injection e' with e';cases e');rw[hd] at hd';injection hd'
   refine⟨R.e.kind,R.e.glob,R.e.blt,⟨m,hns',fun j z u hj hg hkz=>?_⟩,fun j z u k hj hg hkz hck=>?_,R.e.cellk,fun z d hz=>?_,R.e.apart⟩
   ·rcases jC hg with ⟨rfl,rfl⟩|⟨hne,hg⟩
    ·have:z=x:=(hv _ _ _ _ hj hm).mp rfl
     subst this;rw[hk] at hkz;exact absurd hkz (by decide)
    ·refine af (hr' j z u hj hg hkz:) fun y' h1 h2=>?_
     exact⟨y',h1,h2.keep kf⟩
   ·rcases jC hg with ⟨rfl,rfl⟩|⟨hne,hg⟩
    ·have:z=x:=(hv _ _ _ _ hj hm).mp rfl
     subst this;exact⟨c,y,hc,hc',hr.keep kf⟩
    ·have hzx:z≠x:=fun q=>hne ((hv _ _ _ _ hj hm).mpr q)
     refine bB (R.e.cell j z u k hj hg hkz hck:) fun d y' h1 h2 h3=>?_
     exact⟨d,y',h1,kc z d _ hzx h1 h2,h3.keep kf⟩
   ·by_cases hzx:z=x
    ·subst hzx;rw[hc] at hz;cases hz;exact⟨_,hc'⟩
    ·refine aO (R.e.cells z d hz:) fun o ho=>?_
     exact⟨o,kc z d o hzx hz ho⟩
end TD.Internal
namespace TD.Internal
open PySem PyProof.Rows
noncomputable def Af (A:Around) (mem:Mem) (h:Lw):Prop:=A.handled=none\/∃e o vs,A.handled=some (.ref e)/\h.get? e=some o/\o.data= .fields vs/\vs[2]? =some .none/\mem e=none
theorem Af.step{A:Around}{D:Addr->Prop}{mem mem':Mem}{h h':Lw}(H:Af A mem h)(S:aM D mem h mem' h')(hD:∀e,A.handled=some (.ref e)->¬D e):Af A mem' h':=H.imp id fun⟨e,o,vs,h1,h2,h3,h4,h5⟩=>by
 refine af (S.keep e o h2 h5 (hD e h1):) fun o' e' al=>?_
 have:o'=o:=al.eq fun es ep q=>by rw[h3] at q;injection q
 subst this
 exact⟨e,o',vs,h1,e',h3,h4,S.none' h2 h5⟩
section
variable{prog:Program}{w:World}{A:Around}{E:KC->Kv->Prop}{s:Kv}{mem:Mem}
theorem pC:entryFor table "proto.unchain"=some Builtin.«proto.unchain»:=entryFor_of_tree (by kernel_rfl)
theorem pn{α:Type}{e b:Addr}{o ob:Obj}{vs ws:Array KC}{Q:α->Kv->Prop}(hh:A.handled=some (.ref e))(he:s.heap.get? e=some o)(hd:o.data= .fields vs)(h2:vs[2]? =some .none)
  (hb:s.heap.get? b=some ob) (hdb:ob.data= .fields ws) (h2b:2<ws.size) (hne:e≠b) (h:E (.ref b) {s with heap:=s.heap.update b (Obj.mapFields (·.setIfInBounds 2 (.ref e)))}):KP (model prog w) A (raiseNew (α:=α) (.ref b)) Q E s:=by
 simp only[raiseNew]
 refine Kx (wpAny_handled ?_)
 refine rwl hh ?_
 have hq:(Value.ref e !=Value.ref b)=true:=by simpa using hne
 simp only[hq,if_true]
 refine Kx (wpAny_holding (wpAny_runValue (codeAny_builtin pC ?_)))
 refine(?_:KP _ _ (field (.ref e) 2>>=_) _ _ s)
 refine Kx (wpAny_field he hd h2 ?_)
 refine rwl (if_pos (rfl:((Value.none==Value.none)=true))) ?_
 refine KV ?_
 refine(?_:KP _ _ (setField (.ref b) 2 (.ref e)>>=_) _ _ s)
 exact Kx (wpAny_setField hb hdb h2b (wpAny_throw h))
theorem zt{it l:Addr}{i:Nat}{items:Array KC}{Q:Option KC->Kv->Prop}(hh:Af A mem s.heap)(hne:∀e,A.handled=some (.ref e)->e≠it)
  (hit:s.heap.IsListIter it l i) (hl:s.heap.IsList l items) (hx:items[i]? =none)
  (hQ:∀h',Heap.ExtBut it s.heap h'->Q none {s with heap:=h'}):KP (model prog w) A (pyNext (.ref it)) Q E s:=by
 rcases hh with hh|⟨e,oe,vs,hh,he,hde,h2,_⟩
 ·exact wpAny_pyNext_list_end hh hit hl hx hQ
 refine bq (id hit:) fun o ho hc hd=>?_
 obtain⟨ol,hol,_,nl,hdl⟩:=hl
 have hei:=hne e hh
 unfold pyNext
 refine Kx (wpAny_attempt (wpAny_callSpecial?_slot (name:=Str.ofString "__next__") hit.typeIs slot_listiter_next
  (wpAny_call_entry slot_listiter_next hit.typeIs entry_listiter_next ?_ (args_listiter_next _))))
 refine(?_:KP _ _ (field (.ref it) 0>>=_) _ _ s)
 refine Kx (wpAny_field ho hd (x:= .ref l) rfl ?_)
 refine(?_:KP _ _ (if (Value.ref l==Value.none)=true then _ else _) _ _ s)
 refine rwl (if_neg (M6:¬((Value.ref l==Value.none)=true))) ?_
 refine(?_:KP _ _ (field (.ref it) 1>>=_) _ _ s)
 refine Kx (wpAny_field ho hd (x:= .int i 0) rfl ?_)
 refine(?_:KP _ _ (seqItems? (.ref l)>>=_) _ _ s)
 refine Kx (wpAny_seqItems hol hdl ?_)
 simp only[L4,hx]
 refine Kx (wpAny_rule (Kx (wpAny_setField ho hd (by simp) ?_)))
 refine(?_:KP _ _ (newExc (.type "StopIteration") []>>=_) _ _ _)
 refine Kx ?_
 simp only[newExc,newTuple]
 refine Kx (wpAny_newObj_type ?_ (by size_fits))
 refine Kx (m:=firstArgMember _ _) (wpAny_of_eq (a:=Value.none) (by first|rfl|(simp only[firstArgMember];rfl)) ?_)
 refine wpAny_newObj_type ?_ (by size_fits)
 generalize hH:s.heap.update it _=H
 have k1:Heap.ExtBut it s.heap H:=by refine rwb hH ?_;exact(Heap.SameBut.update ..).extBut
 generalize hO:({cls:= .type "tuple",data:= .seq ([]:List KC).toArray}:Obj)=oT
 have he1:(H.push oT).get? e=some oe:=Heap.get?_push_of_some _ (k1 e oe hei he)
 refine pn (e:=e) (hh:A.in1.handled=_) (Heap.get?_push_of_some _ he1) hde h2 (Heap.get?_push_size _ rfl) rfl (by refine rwl Array.size_append ?_;exact Ks (by decide:2<6) (Lo _ _)) (MA (Heap.lt_size he1)) ?_
 refine Kx (wpAny_isInstance (T:="StopIteration") (b:=true) ⟨_,Heap.get?_update_self _ (Heap.get?_push_size _ rfl) rfl,rfl⟩ isSubtype_stop ?_)
 refine KV (hQ _ fun b o hb eb=>?_)
 have e1:=Heap.get?_push_of_some oT (k1 b o hb eb)
 refine rwl (Heap.get?_update_other _ _ (MB (Heap.lt_size e1))) ?_
 exact Heap.get?_push_of_some _ e1
end
end TD.Internal
namespace TD.Internal
open PySem PyProof.Rows
variable{W:Cx}{A:Around}{E:KC->Kv->Prop}{env:Env}{vis:List (Nat×Str)}{loc:aL}{mem:Mem}{s:Kv}
noncomputable def BP (k:i5) (v:ae) (xs:List ae) (mem:Mem):Prop:=match k with
 | .plain=>seq mem v=some xs
 | .range=>∃n:Int,(0<=n/\n<br)/\xs=bP n
 | .enum=>∃us,lst mem v=some us/\us.length<br/\xs=j0 0 us
noncomputable def i5.own (k:i5) (I b:Addr):Prop:=b=I\/(k= .enum/\b+1=I)
noncomputable def eJ (S:Addr->Prop) (h h':Lw):Prop:=∀b o,¬S b->h.get? b=some o->h'.get? b=some o
noncomputable def bY (W:Cx) (k:i5) (v:ae) (xs:List ae) (I:Addr) (i:Nat) (h:Lw):Prop:=match k with
 | .plain=>(v= .tup xs/\∃a vs,IsTup h a (LK vs)/\aJ W h xs vs/\h.IsTupleIter I a i)\/((∀us,v≠ .tup us)/\∃a,aP W h v (.ref a)/\h.IsListIter I a i)
 | .range=>IsRangeIter h I i ((xs.length:Int)-i) 1
 | .enum=>∃a J old,J+1=I/\aP W h v (.ref a)/\IsEnum h I J i old/\h.IsListIter J a i
noncomputable def vI (W:Cx) (k:i5) (v:ae) (xs:List ae) (I:Addr) (i:Nat) (y:KC) (h:Lw):Prop:=match k with
 | .enum=>∃a J x T,y= .ref T/\J+1=I/\aP W h v (.ref a)/\IsEnumOut h I J i x T/\h.IsListIter J a i
 |_=>bY W k v xs I i h
theorem bY.there{k:i5}{v:ae}{xs:List ae}{I b:Addr}{i:Nat}{h:Lw}(x:bY W k v xs I i h)(hb:k.own I b):∃o fs,h.get? b=some o/\o.data= .fields fs:=by
 cases k with
 |plain=>
  obtain rfl:b=I:=hb.resolve_right fun q=>nomatch q.1
  rcases x with ⟨_,a,vs,_,_,o,ho,_,hd⟩|⟨_,a,_,o,ho,_,hd⟩
  ·exact⟨o,_,ho,hd⟩
  ·exact⟨o,_,ho,hd⟩
 |range=>obtain rfl:b=I:=hb.resolve_right fun q=>nomatch q.1;exact⟨_,_,x,rfl⟩
 |enum=>
  obtain⟨a,J,old,hJ,_,he,o,ho,_,hd⟩:=x
  rcases hb with rfl|⟨_,hb⟩
  ·exact⟨_,_,he,rfl⟩
  ·obtain rfl:b=J:=Nat.succ.inj (hb.trans hJ.symm)
   exact⟨o,_,ho,hd⟩
theorem bY.keep{k:i5}{v:ae}{xs:List ae}{I:Addr}{i:Nat}{h h':Lw}(x:bY W k v xs I i h)(kf:cM h h')(ki:∀b o,k.own I b->h.get? b=some o->h'.get? b=some o):bY W k v xs I i h':=by
 cases k with
 |plain=>
  rcases x with ⟨e,a,vs,⟨o,ho,hc,n,hd⟩,r,o',ho',q⟩|⟨e,a,r,o,ho,q⟩
  ·exact Or.inl ⟨e,a,vs,⟨o,kf a o ho ⟨hc,_,n,hd⟩,hc,n,hd⟩,r.keep kf,o',ki _ _ (.inl rfl) ho',q⟩
  ·exact Or.inr ⟨e,a,r.keep kf,o,ki _ _ (.inl rfl) ho,q⟩
 |range=>exact ki _ _ (.inl rfl) x
 |enum=>
  obtain⟨a,J,old,hJ,r,he,o,ho,q⟩:=x
  exact⟨a,J,old,hJ,r.keep kf,ki _ _ (.inl rfl) he,o,ki _ _ (.inr ⟨rfl,hJ⟩) ho,q⟩
theorem nk{v:ae}{xs:List ae}(h:seq mem v=some xs)(e:∀us,v≠ .tup us):lst mem v=some xs:=(uH h).resolve_left (e xs)
theorem fc(n:Int):(bP n).length=n.toNat:=by simp [bP]
theorem nu{n:Int}{i:Nat}(h:i<n.toNat):(bP n)[i]? =some (.int i):=by simp [bP,h]
theorem qg(M:bC W mem s){k:i5}{v:ae}{xs:List ae}{I:Addr}{i:Nat}(hc:BP k v xs mem)(hi:bY W k v xs I i s.heap)(hlt:i<xs.length){P:Option KC->Kv->Prop}
  (hp:∀x y h' tk,xs[i]? =some x->aP W h' x y->vI W k v xs I (i+1) y h'->eJ (k.own I) s.heap h'->P (some y) {s with heap:=h',toks:=tk}):
  KP (model W.prog W.w) A (pyNext (.ref I)) P E s:=by
 have kfI:∀{h':Lw},Heap.SameBut I s.heap h'->cM s.heap h':=fun hs b o e hf=>by
  refine cG (hi.there (.inl rfl):) fun o' fs ho' hd'=>?_
  have:b≠I:=by rintro rfl;rw[e] at ho';(injection ho' with ho';cases ho');obtain⟨_,xs,n,q⟩:=hf;rw[hd'] at q;injection q
  refine rwl (hs.2 b this) ?_;exact e
 obtain⟨x,hx⟩:∃x,xs[i]? =some x:=⟨xs[i],by simp [hlt]⟩
 cases k with
 |plain=>
  rcases hi with ⟨rfl,a,vs,ht,r,hit⟩|⟨ne,a,ra,hit⟩
  ·refine af (r.get hx:) fun y hy ry=>?_
   refine wpAny_pyNext_tuple_item hit (IsTup.tuple ht) (by simpa using hy) fun h' hit' hs'=>?_
   have kf:=kfI hs'
   obtain⟨o,ho,hcl,n,hd⟩:=ht
   exact hp x y h' s.toks hx (ry.keep kf) (Or.inl ⟨rfl,a,vs,⟨o,kf a o ho ⟨hcl,_,n,hd⟩,hcl,n,hd⟩,r.keep kf,hit'⟩) fun b o hb e=>(hs'.2 b fun q=>hb (.inl q)).trans e
  ·refine bB (cm M ra (nk hc ne):) fun b vs e hl r=>?_
   cases e
   refine af (r.get hx:) fun y hy ry=>?_
   refine wpAny_pyNext_list_item hit hl (by simpa using hy) fun h' hit' hs'=>?_
   have kf:=kfI hs'
   exact hp x y h' s.toks hx (ry.keep kf) (Or.inr ⟨ne,a,ra.keep kf,hit'⟩) fun b o hb e=>(hs'.2 b fun q=>hb (.inl q)).trans e
 |range=>
  refine af hc ?_;clear hc;intro n hn e7r0_2
  subst e7r0_2
  rw[fc] at hlt
  rw[nu hlt] at hx;cases hx
  have hi':IsRangeIter s.heap I i (((bP n).length:Int)-i) 1:=hi
  refine wpAny_pyNext_range_item hi' (by refine rwl (fc ..) ?_;exact JM hlt) fun h' hit' hs'=>?_
  refine hp _ _ h' _ (nu hlt) .mkInt ?_ fun b o hb e=>(hs'.2 b fun q=>hb (.inl q)).trans e
  have e:((bP n).length:Int)-i-1=((bP n).length:Int)-((i+1:Nat):Int):=IC
  rw[e] at hit'
  exact hit'
 |enum=>
  refine bq hc ?_;clear hc;intro us hus hl e8r0_3
  subst e8r0_3
  refine gf hi ?_;clear hi;intro a J old hJ ra he hit
  refine bB (cm M ra hus:) fun b vs e hL r=>?_
  cases e
  rw[gS] at hx
  refine af (KD.mp hx:) fun u hu e11r0_2=>?_
  subst e11r0_2
  refine af (r.get hu:) fun y hy ry=>?_
  have hne:I≠J:=fun q=>Ng J (hJ.trans q)
  refine wpAny_pyNext_enum_item he hit hL (by simpa using hy) hne fun h' ho hit' hT hsz hk=>?_
  have hkb:eJ (i5.own .enum I) s.heap h':=fun b o hb e=>hk b o (fun q=>hb (.inl q)) (fun q=>hb (.inr ⟨rfl,q▸hJ⟩)) e
  have kf:cM s.heap h':=fun b o e hf=>by
   refine hkb b o (fun hb=>?_) e
   refine cG (bY.there (W:=W) (k:= .enum) (v:=v) (xs:=j0 0 us) ⟨a,J,old,hJ,ra,he,hit⟩ hb:) fun o' fs ho' hd'=>?_
   rw[e] at ho';(injection ho' with ho';cases ho')
   obtain⟨_,xs,n,q⟩:=hf;rw[hd'] at q;injection q
  have hv:aP W h' (.tup [.int ((0+i:Nat):Int),u]) (.ref s.heap.objs.size):=KF _ ⟨[.int i s.toks,y],rfl,⟨_,hT,rfl,_,rfl⟩,.cons (by refine rwl (MS ..) ?_;exact .mkInt) (.cons (ry.keep kf) .nil)⟩
  exact hp _ (.ref s.heap.objs.size) h' _ (by refine rwl (gS ..) (rwl (hu ..) ?_);rfl) hv ⟨a,J,y,_,rfl,hJ,ra.keep kf,ho,hit'⟩ hkb
noncomputable def JB (A:Around) (k:i5) (v:ae) (mem:Mem) (h:Lw) (I:Addr):Prop:=A.handled=none\/k= .plain/\(∀us,v≠ .tup us)/\Af A mem h/\∀e,A.handled=some (.ref e)->e≠I
theorem Af.ne{A:Around}{mem:Mem}{h:Lw}{I:Addr}(H:Af A mem h)(hI:h.get? I=none):∀e,A.handled=some (.ref e)->e≠I:=fun e he q=>by
 rcases H with H|⟨e',o,vs,h1,h2,_⟩
 ·rw[H] at he;injection he
 ·rw[h1] at he;(injection he with he;cases he)
  rw[q,hI] at h2;injection h2
theorem tH(M:bC W mem s){k:i5}{v:ae}{xs:List ae}{I:Addr}(hh:JB A k v mem s.heap I)(hc:BP k v xs mem)(hi:bY W k v xs I xs.length s.heap){P:Option KC->Kv->Prop}
  (hp:∀h',eJ (k.own I) s.heap h'->P none {s with heap:=h'}):KP (model W.prog W.w) A (pyNext (.ref I)) P E s:=by
 have hp':∀h',Heap.ExtBut I s.heap h'->P none {s with heap:=h'}:=fun h' x=>hp h' fun b o hb e=>x b o (fun q=>hb (.inl q)) e
 rcases hh with hh|⟨rfl,ne0,H,hne⟩
 rotate_left
 ·rcases hi with ⟨rfl,_⟩|⟨ne,a,ra,hit⟩
  ·exact absurd rfl (ne0 _)
  ·refine bB (cm M ra (nk hc ne):) fun b vs e hl r=>?_
   cases e
   exact zt H hne hit hl (by simp [r.length]) hp'
 cases k with
 |plain=>
  rcases hi with ⟨rfl,a,vs,ht,r,hit⟩|⟨ne,a,ra,hit⟩
  ·exact wpAny_pyNext_tuple_end hh hit (IsTup.tuple ht) (by simp [r.length]) hp'
  ·refine bB (cm M ra (nk hc ne):) fun b vs e hl r=>?_
   cases e
   exact wpAny_pyNext_list_end hh hit hl (by simp [r.length]) hp'
 |range=>
  have hi':IsRangeIter s.heap I xs.length ((xs.length:Int)-xs.length) 1:=hi
  exact wpAny_pyNext_range_end hh hi' (Hs) hp'
 |enum=>
  refine bq hc ?_;clear hc;intro us hus hl e16r0_3
  subst e16r0_3
  refine gf hi ?_;clear hi;intro a J old hJ ra he hit
  refine bB (cm M ra hus:) fun b vs e hL r=>?_
  cases e
  exact wpAny_pyNext_enum_end hh he hit hL (by refine rwl (jE ..) ?_;simp [r.length]) fun h' x=>hp h' fun b o hb e=>x b o (fun q=>hb (.inr ⟨rfl,q▸hJ⟩)) e
theorem uy(R:bx W env vis loc mem s){v:ae}{y:KC}{xs:List ae}(hv:aP W s.heap v y)(e:seq mem v=some xs){P:KC->Kv->Prop}
  (hp:∀I s',s.heap.get? I=none->bY W .plain v xs I 0 s'.heap->bx W env vis loc mem s'->aM fb mem s.heap mem s'.heap->P (.ref I) s'):KP (model W.prog W.w) A (pyIter y) P E s:=by
 by_cases q:∃us,v= .tup us
 ·refine aO q ?_;clear q;intro us e19r0_1
  subst e19r0_1
  cases e
  have hv':=hv
  refine bB hv' ?_;clear hv';intro a vs e20r0_2 ht r
  subst e20r0_2
  refine wpAny_pyIter_tuple (IsTup.tuple ht) ?_
  have k:bV env.locals s.heap (s.heap.push {cls:= .type "tuple_iterator",data:= .fields #[.ref a,.int 0 0]}):= .push _
  refine hp _ _ (cj _) ?_ (R.step (R.keepM k) (R.keepS k)) (R.keepS k)
  obtain⟨o,ho,hcl,n,hd⟩:=ht
  exact Or.inl ⟨rfl,a,vs,⟨o,Heap.get?_push_of_some _ ho,hcl,n,hd⟩,r.keep (R.keepF k),_,Heap.get?_push_size _ rfl,rfl,rfl⟩
 ·have ne:∀us,v≠ .tup us:=fun us h=>q ⟨us,h⟩
  refine bB (cm R.m hv (nk e ne):) fun a vs e22r0_2 hl r=>?_
  subst e22r0_2
  refine wpAny_pyIter_list hl ?_
  have k:bV env.locals s.heap (s.heap.push {cls:= .type "list_iterator",data:= .fields #[.ref a,.int 0 0]}):= .push _
  refine hp _ _ (cj _) ?_ (R.step (R.keepM k) (R.keepS k)) (R.keepS k)
  exact Or.inr ⟨ne,a,hv.keep (R.keepF k),_,Heap.get?_push_size _ rfl,rfl,rfl⟩
theorem tG(R:bx W env vis loc mem s){n:Int}{t:Tok}(hn:0<=n/\n<br){P:KC->Kv->Prop}
  (hp:∀I s',s.heap.get? I=none->bY W .range (.int n) (bP n) I 0 s'.heap->bx W env vis loc mem s'->aM fb mem s.heap mem s'.heap->P (.ref I) s'):
  KP (model W.prog W.w) A (call (.type "range") [.int n t]) (fun y s'=>KP (model W.prog W.w) A (pyIter y) P E s') E s:=by
 refine call_range_1 ?_
 refine aq (mq hn:) fun h1 h2=>?_
 have k1:bV env.locals s.heap (s.heap.push {cls:= .type "range",data:= .fields #[.int 0 s.toks,.int n t,.int 1 (s.toks+1)]}):= .push _
 have R1:bx W env vis loc mem {s with heap:=s.heap.push {cls:= .type "range",data:= .fields #[.int 0 s.toks,.int n t,.int 1 (s.toks+1)]},toks:=s.toks+1+1}:=R.step (R.keepM k1) (R.keepS k1)
 refine wpAny_pyIter_range (IsRange.new ..) h1 ?_
 refine rwl h2 ?_
 have k2:bV env.locals (s.heap.push {cls:= .type "range",data:= .fields #[.int 0 s.toks,.int n t,.int 1 (s.toks+1)]}) ((s.heap.push {cls:= .type "range",data:= .fields #[.int 0 s.toks,.int n t,.int 1 (s.toks+1)]}).push {cls:= .type "range_iterator",data:= .fields #[rawInt 0,rawInt ((n.toNat:Nat):Int),rawInt 1]}):= .push _
 refine hp _ _ ?_ ?_ (R1.step (R1.keepM k2) (R1.keepS k2)) ((R.keepS k1).trans (R1.keepS k2))
 ·cases q:s.heap.get? (s.heap.push {cls:= .type "range",data:= .fields #[.int 0 s.toks,.int n t,.int 1 (s.toks+1)]}).objs.size with
  |none=>rfl
  |some o=>have:=Heap.lt_size q;rw[Heap.size_push] at this;exact absurd this (Nr.mpr (LJ _))
 ·refine(?_:IsRangeIter _ _ ((0:Nat):Int) (((bP n).length:Int)-((0:Nat):Int)) 1)
  refine rwl (fc ..) ?_
  simp only[Int.ofNat_zero,Int.sub_zero]
  exact Heap.get?_push_size _ rfl
theorem uq(R:bx W env vis loc mem s){v:ae}{y:KC}{us:List ae}(hv:aP W s.heap v y)(e:lst mem v=some us){P:KC->Kv->Prop}
  (hp:∀I s',(∀b,i5.own .enum I b->s.heap.get? b=none)->bY W .enum v (j0 0 us) I 0 s'.heap->bx W env vis loc mem s'->aM fb mem s.heap mem s'.heap->P (.ref I) s'):
  KP (model W.prog W.w) A (call (.type "enumerate") [y]) (fun y s'=>KP (model W.prog W.w) A (pyIter y) P E s') E s:=by
 refine bB (cm R.m hv e:) fun a vs e24r0_2 hl r=>?_
 subst e24r0_2
 refine call_enumerate_list hl fun h' he hit hsz hk=>?_
 have k:bV env.locals s.heap h':= .of_keeps hk
 refine wpAny_pyIter_enum he (hp _ _ (fun b hb=>?_) ⟨a,_,_,rfl,hv.keep (R.keepF k),he,hit⟩ (R.step (R.keepM k) (R.keepS k)) (R.keepS k))
 cases q:s.heap.get? b with
 |none=>rfl
 |some o=>
  have:=Heap.lt_size q
  rcases hb with rfl|⟨_,hb⟩
  ·exact absurd this (Nr.mpr (LJ _))
  ·obtain rfl:b=s.heap.objs.size:=Nat.succ.inj hb
   exact absurd this (Lj _)
end TD.Internal
namespace TD.Internal
open PySem PyProof.Rows
variable{A:Around}{env:Env}{s:Kv}
theorem aM.off{D:Addr->Prop}{m1 m2:Mem}{h1 h2 h3:Lw}(x:aM D m1 h1 m2 h2)(S:Addr->Prop)(hS:∀b,S b->h1.get? b=none)(k:∀b o,¬S b->h2.get? b=some o->h3.get? b=some o):aM D m1 h1 m2 h3 where
 alive:=fun b e=>by
  by_cases hb:S b
  ·exact hS b hb
  ·refine x.alive b ?_
   cases q:h2.get? b with
   |none=>rfl
   |some o=>rw[k b o hb q] at e;injection e
 keep:=fun b o e hm hd=>by
  refine af (x.keep b o e hm hd:) fun o' e' a=>?_
  exact⟨o',k b o' (fun hb=>by rw[hS b hb] at e;injection e) e',a⟩
 grow:=x.grow
theorem rT{prog:Program}{w:World}{R:Result->Kv->Prop}{elt target iter:KX}{ifs:List KX}{scope:Scope}{pos:Pos}{it acc:KC}{env:Env}(I:Nat->Kv->Prop)
  (turn:∀n s,I n s->KP (model prog w) A (pyNext it) (fun r s₁=>match r with
   |none=>R (.ok .next) s₁
   |some v=>KP (model prog w) A (letOwnedTupleGo target it v) (fun _ s₁'=>KP (model prog w) A (assign target env v) (fun _ s₂=>
     KP (model prog w) A (forIn ifs true fun c r=>if r=true then do let ok<-isTrue c env (eval c env);pure (ForInStep.yield ok) else pure (ForInStep.yield r)) (fun ok s₃=>
      if ok=true then KP (model prog w) A (eval elt env) (fun x s₄=>
       KP (model prog w) A (call (.builtin "list.append") [acc,x]) (fun _ s₅=>∃m,m<n/\I m s₅) (notedBy (model prog w) A env fun e s'=>R (.error e) s') s₄) (notedBy (model prog w) A env fun e s'=>R (.error e) s') s₃
      else∃m,m<n/\I m s₃) (notedBy (model prog w) A env fun e s'=>R (.error e) s') s₂) (notedBy (model prog w) A env fun e s'=>R (.error e) s') s₁') (notedBy (model prog w) A env fun e s'=>R (.error e) s') s₁) (notedBy (model prog w) A env fun e s'=>R (.error e) s') s)
  (n:Nat) (h:I n s):
  codeAny (model prog w) A (.compLoop (.ListComp elt [⟨target,iter,ifs,0⟩] scope pos) 0 it acc env) R s:=by
 refine codeAny_loop rfl I (fun n s hI=>?_) n h
 refine(?_:KP _ A ((compTurn (.ListComp elt [⟨target,iter,ifs,0⟩] scope pos) 0 it acc env).onRaise (fun x=>do noteFrame x env;theTreesLotGoes x)) _ _ s)
 refine wpAny_noted ?_
 refine rwl (compTurn_list ..) ?_
 refine Kx (wpAny_standAt (Kx (KB (turn n s hI) (fun r s₁ h₁=>?_) fun _ _ h'=>h')))
 cases r with
 |none=>exact KV h₁
 |some v=>
  refine Kx (KB h₁ (fun _ s₁' h₁'=>?_) fun _ _ h'=>h')
  refine Kx (KB h₁' (fun _ s₂ h₂=>?_) fun _ _ h'=>h')
  refine Kx (KB h₂ (fun ok s₃ h₃=>?_) fun _ _ h'=>h')
  cases ok with
  |false=>exact KV ⟨rfl,h₃⟩
  |true=>
   refine Kx (Kx (KB h₃ (fun x s₄ h₄=>?_) fun _ _ h'=>h'))
   exact Kx (KB h₄ (fun _ s₅ h₅=>KV (KV ⟨rfl,h₅⟩)) fun _ _ h'=>h')
noncomputable def cf (env:Env):List (Str×NameKind)->List (Str×Addr)->List (Str×Addr)
 | [],acc=>acc
 |(n,k)::r,acc=>if k== .free then cf env r ((n,(env.cells.lookup n).getD 0)::acc) else cf env r acc
theorem n6{env:Env}{scope:Scope}(h:∀p∈scope.names,p.2= .free->∃c,env.cells.lookup p.1=some c):closureFor scope env=pure (cf env scope.names []):=by
 have go:∀(l:List (Str×NameKind)) (acc:List (Str×Addr)),(∀p∈l,p.2= .free->∃c,env.cells.lookup p.1=some c)->
   (forIn l acc fun x r=>match x with|(name,kind)=>if (kind==NameKind.free)=true then do let a<-cellOf env name;pure (ForInStep.yield ((name,a)::r)) else pure (ForInStep.yield r))=(pure (cf env l acc):Sem _):=by
  intro l
  induction l with
  |nil=>intro acc _;rfl
  |cons p r ih=>
   intro acc hl
   obtain⟨n,k⟩:=p
   refine rwl (Ny ..) ?_
   by_cases hk:(k==NameKind.free)=true
   ·refine aO (hl (n,k) (.head _) (by simpa using hk):) fun c hc=>?_
    have hc':env.cells.lookup n=some c:=hc
    simp only[hk,if_true]
    unfold cf
    refine rwl (if_pos hk) (rwl hc' ?_)
    have:cellOf env n=pure c:=by unfold cellOf;exact rwl hc' rfl
    refine rwl this ?_
    exact ih _ fun p hp=>hl p (.tail _ hp)
   ·simp only[hk]
    unfold cf
    refine rwl (if_neg hk) ?_
    exact ih _ fun p hp=>hl p (.tail _ hp)
 show (do let r<-forIn scope.names ([]:List (Str×Addr)) _;pure r)=_
 refine rwl (go scope.names [] h:(forIn scope.names ([]:List (Str×Addr)) _:Sem _)=_) ?_
 rfl
theorem eW{env:Env}{x:Str}:∀(l:List (Str×NameKind)) (acc:List (Str×Addr)),(∀p∈l,p.2= .free->∃c,env.cells.lookup p.1=some c)->∀c,(cf env l acc).lookup x=some c->(acc.lookup x=some c)\/((x,NameKind.free)∈l/\env.cells.lookup x=some c)
 | [],acc,_,c,h=> .inl h
 |(n,k)::r,acc,hl,c,h=>by
  unfold cf at h
  split at h
  ·rename_i hk
   have hk':k= .free:=by simpa using hk
   rcases eW r _ (fun p hp=>hl p (.tail _ hp)) c h with q|⟨q1,q2⟩
   ·rw[Ld] at q
    split at q
    ·rename_i hx
     have hx':x=n:=by simpa using hx
     refine aO (hl (n,k) (.head _) hk':) fun c' hc'=>?_
     have hc'':env.cells.lookup n=some c':=hc'
     rw[hc''] at q
     cases q
     subst hx' hk'
     exact .inr ⟨.head _,hc''⟩
    ·exact .inl q
   ·exact .inr ⟨.tail _ q1,q2⟩
  ·rcases eW r _ (fun p hp=>hl p (.tail _ hp)) c h with q|⟨q1,q2⟩
   ·exact .inl q
   ·exact .inr ⟨.tail _ q1,q2⟩
theorem ez{env:Env}{x:Str}:∀(l:List (Str×NameKind)) (acc:List (Str×Addr)),(∀p∈l,p.2= .free->∃c,env.cells.lookup p.1=some c)->(x,NameKind.free)∈l\/(∃c,acc.lookup x=some c)->∃c,(cf env l acc).lookup x=some c
 | [],acc,_,h=>by
  rcases h with h|h
  ·cases h
  ·exact h
 |(n,k)::r,acc,hl,h=>by
  unfold cf
  split
  ·rename_i hk
   refine ez r _ (fun p hp=>hl p (.tail _ hp)) ?_
   rcases h with h|⟨c,h⟩
   ·cases h with
    |head=>exact .inr ⟨_,by simp [Ld];rfl⟩
    |tail _ q=>exact .inl q
   ·refine .inr ?_
    refine rwl Ld ?_
    split
    ·exact⟨_,rfl⟩
    ·exact⟨c,h⟩
  ·rename_i hk
   refine ez r _ (fun p hp=>hl p (.tail _ hp)) ?_
   rcases h with h|h
   ·cases h with
    |head=>simp at hk
    |tail _ q=>exact .inl q
   ·exact .inr h
end TD.Internal
namespace TD.Internal
open PySem PyProof.Rows
variable{W:Cx}{A:Around}{E:KC->Kv->Prop}{env:Env}{vis:List (Nat×Str)}{loc:aL}{mem:Mem}{s:Kv}
noncomputable def unset:aL->Nat->aL
 | [],_=>[]
 |x::r,n=>match n with|0=>Option.none::r|n+1=>x::unset r n
theorem qY(R:bx W env vis loc mem s){t:Tg}(hh:A.handled=none\/∃i,t= .one i)(hv:di vis){target:KX}{new:List (Nat×Str)}(hn:i7 t target=some new)(hm:∀p∈new,p∈vis)(hk:∀p∈new,env.kindOf p.2=some .local\/env.kindOf p.2=some .cell)
  {x:ae} {y:KC} (hx:aP W s.heap x y) {l:aL} (hl:zE t x loc l) {P:Unit->Kv->Prop}
  (hp:∀s',bx W env vis l mem s'->aM (gk env) mem s.heap mem s'.heap->((∀p∈new,env.kindOf p.2=some .local)->eJ (·=env.locals) s.heap s'.heap)->P () s'):KP (model W.prog W.w) A (assign target env y) P E s:=by
 cases t with
 |one i=>
  refine cG (lV hn:) fun z pz e0r0_2 e0r0_3=>?_
  subst e0r0_2
  subst e0r0_3
  obtain rfl:l=ay loc i x:=hl
  refine wpAny_assign_Name (dp R hv (hm _ (.head _)) (hk _ (.head _)) hx fun s' R' S' ⟨a,_,ha,hs⟩=>hp s' R' S' fun hloc b o hb e=>?_)
  have:=ha (hloc _ (.head _));subst this
  exact(hs.2 b hb).trans e
 |two i j=>
  refine yF (fS hn:) fun z pz z' pz' kk pp e1r0_6 _ _ e1r0_9=>?_
  subst e1r0_6
  subst e1r0_9
  have hh:A.handled=none:=hh.elim id fun⟨_,q⟩=>nomatch q
  refine cG hl ?_;clear hl;intro a b e2r0_2 e2r0_3
  subst e2r0_2
  subst e2r0_3
  have hx':=hx
  refine bB hx' ?_;clear hx';intro ta vs e3r0_2 ht r
  subst e3r0_2
  refine bB r.inv fun y1 ys e4r0_2 r1 r2=>?_
  subst e4r0_2
  refine bB r2.inv fun y2 ys' e5r0_2 r3 r4=>?_
  subst e5r0_2
  obtain rfl:=r4.inv0
  refine wpAny_assign_Tuple hh (IsTup.tuple ht) rfl rfl fun h' he=>?_
  have k1:∀b o,s.heap.get? b=some o->h'.get? b=some o:=fun b o e=>he b o (MA (Heap.lt_size e)) e
  have k:bV env.locals s.heap h':= .of_keeps k1
  have R1:bx W env vis loc mem {s with heap:=h'}:=R.step (R.keepM k) (R.keepS k)
  have S1:=R.keepS k
  refine(?_:KP _ A (do holding [y2] (assign (.Name z pz) env y1);(do holding [] (assign (.Name z' pz') env y2);pure ())) _ _ _)
  refine Kx (wpAny_holding (wpAny_assign_Name (dp R1 hv (hm _ (.head _)) (hk _ (.head _)) (r1.keep (R.keepF k)) fun s2 R2 S2 ⟨a2,_,ha2,hs2⟩=>?_)))
  refine Kx (wpAny_holding (wpAny_assign_Name (dp R2 hv (hm _ (.tail _ (.head _))) (hk _ (.tail _ (.head _))) (r3.keep fun b o e hf=>(S2.keepF R1.m.mems R1.e.dok) b o (R.keepF k b o e hf) hf) fun s3 R3 S3 ⟨a3,_,ha3,hs3⟩=>?_)))
  refine KV (hp s3 R3 ((S1.mono (fun _ q=>q.elim)).trans (S2.trans S3)) fun hloc b o hb e=>?_)
  have h2:=ha2 (hloc _ (.head _));have h3:=ha3 (hloc _ (.tail _ (.head _)))
  subst h2;subst h3
  exact(hs3.2 b hb).trans ((hs2.2 b hb).trans (k1 b o e))
noncomputable def rI (t:Tg) (l:aL):aL:=match t with
 | .one i=>unset l i
 | .two i j=>unset (unset l i) j
theorem eT{u:ae}{l:aL}:∀{i j:Nat},bS (unset l i) j=some u->j≠i/\bS l j=some u:=by
 induction l with
 |nil=>intro i j h;exact no h
 |cons x r ih=>
  intro i j h
  cases i with
  |zero=>cases j with
   |zero=>exact no h
   |succ j=>exact⟨L9 j,h⟩
  |succ i=>cases j with
   |zero=>exact⟨(L9 i).symm,h⟩
   |succ j=>obtain⟨a,b⟩:=ih (i:=i) (j:=j) h;exact⟨fun q=>a (Nat.succ.inj q),b⟩
theorem lE{u v:ae}(l:aL):∀i,ay (ay l i u) i v=ay l i v:=by
 induction l with
 |nil=>intro i;rfl
 |cons x r ih=>intro i;cases i with
  |zero=>rfl
  |succ i=>exact congrArg (x::·) (ih i)
theorem ka{v:ae}(l:aL):∀i,ay (unset l i) i v=ay l i v:=by
 induction l with
 |nil=>intro i;rfl
 |cons x r ih=>intro i;cases i with
  |zero=>rfl
  |succ i=>exact congrArg (x::·) (ih i)
theorem xI{u v:ae}(l:aL):∀{i j:Nat},i≠j->ay (ay l i u) j v=ay (ay l j v) i u:=by
 induction l with
 |nil=>intro i j _;rfl
 |cons x r ih=>intro i j h;cases i with
  |zero=>cases j with
   |zero=>exact absurd rfl h
   |succ j=>rfl
  |succ i=>cases j with
   |zero=>rfl
   |succ j=>exact congrArg (x::·) (ih fun q=>h (congrArg NJ q))
theorem mQ{u:ae}(l:aL):∀{i j:Nat},i≠j->ay (unset l j) i u=unset (ay l i u) j:=by
 induction l with
 |nil=>intro i j _;rfl
 |cons x r ih=>intro i j h;cases i with
  |zero=>cases j with
   |zero=>exact absurd rfl h
   |succ j=>rfl
  |succ i=>cases j with
   |zero=>rfl
   |succ j=>exact congrArg (x::·) (ih fun q=>h (congrArg NJ q))
noncomputable def me (t:Tg) (l' l:aL):Prop:=∀x r,zE t x l r->zE t x l' r
noncomputable def CQ:Tg->Prop
 | .one _=>True
 | .two i j=>i≠j
theorem me.unset{t:Tg}{l:aL}(ht:CQ t):me t (rI t l) l:=fun x r h=>by
 cases t with
 |one i=>exact(h:r=ay l i x).trans (ka l i).symm
 |two i j=>
  have hij:i≠j:=ht
  refine cG h ?_;clear h;intro a b e h
  refine KF a ⟨b,e,h.trans ?_⟩
  refine(?_:_=ay (ay (Internal.unset (Internal.unset l i) j) i a) j b)
  exact rwl (mQ _ hij ..) (rwl (ka ..) (rwl (ka ..) rfl))
theorem me.set{t:Tg}{x:ae}{l l':aL}(ht:CQ t)(h:zE t x l l'):me t l' l:=fun y r q=>by
 cases t with
 |one i=>
  obtain rfl:l'=ay l i x:=h
  exact(q:r=ay l i y).trans (lE l i).symm
 |two i j=>
  have hij:i≠j:=ht
  refine cG h ?_;clear h;intro a b _ e7r0_3
  subst e7r0_3
  refine cG q ?_;clear q;intro c d e e8r0_3
  subst e8r0_3
  refine KF c ⟨d,e,?_⟩
  exact rwl (xI (ay l i a) (Ne.symm hij) ..) (rwl (lE ..) (rwl (lE ..) rfl))
end TD.Internal
namespace TD.Internal
open PySem PyProof.Rows
variable{W:Cx}{A:Around}{E:KC->Kv->Prop}{env:Env}{vis:List (Nat×Str)}{loc:aL}{mem:Mem}{s:Kv}
theorem bx.off(R:bx W env vis loc mem s){s':Kv}(S:Addr->Prop)(ha:∀a,S a->mem a=none)(hb:∀a,S a->W.base.get? a=none)(hd:∀a,S a->¬gk env a)(hf:∀a o,S a->s.heap.get? a=some o->¬kP o)
  (k:eJ S s.heap s'.heap) (hg:s'.gens=s.gens:=by rfl) (ho:s'.os=s.os:=by rfl):bx W env vis loc mem s'/\cM s.heap s'.heap:=by
 have kf:cM s.heap s'.heap:=fun b o e hfx=>k b o (fun q=>hf b o q e hfx) e
 refine⟨⟨⟨fun b o e=>k b o (fun q=>by rw[hb b q] at e;injection e) (R.m.stays b o e),fun b o e=>?_,hg.trans R.m.gens,ho.trans R.m.os⟩,?_,R.sep,R.new⟩,kf⟩
 ·refine aq (R.m.mems b o e:) fun r nb=>?_
  have hba:¬S b:=fun q=>by rw[ha b q] at e;injection e
  exact⟨r.at (fun _ e=>k _ _ hba e) kf,nb⟩
 ·exact R.e.keep kf fun b o hbd e=>⟨o,k b o (fun q=>hd b q hbd) e,.refl o⟩
theorem mB{k:i5}{v:ae}{xs:List ae}{I:Addr}{i:Nat}{y:KC}(hi:vI W k v xs I i y s.heap){t:Tg}{target:KX}{new:List (Nat×Str)}(hT:i7 t target=some new)(h2:k.two t=true){P:Unit->Kv->Prop}
  (hp:∀h',bY W k v xs I i h'->eJ (·=I) s.heap h'->cM s.heap h'->P () {s with heap:=h'}):KP (model W.prog W.w) A (letOwnedTupleGo target (.ref I) y) P E s:=by
 by_cases hke:k= .enum
 ·subst hke
  refine Iy hi ?_;clear hi;intro a J x T e1r0_4 hJ ra ho hit
  subst e1r0_4
  cases t with
  |one _=>exact nb h2
  |two _ _=>
  refine Gv (fS hT:) fun z pz z' pz' kk pp e2r0_6 _=>?_
  subst e2r0_6
  refine wpAny_letOwnedTupleGo_enum ho fun h' he hs=>?_
  have hne:J≠I:=fun q=>Ng J (hJ.trans q.symm)
  have kf:cM s.heap h':=fun b o e hf=>(hs.2 b (by rintro rfl;rw[ho] at e;(injection e with e;cases e);obtain⟨_,_,_,q⟩:=hf;injection q)).trans e
  refine af hit ?_;clear hit;intro o e q
  exact hp h' ⟨a,J,x,hJ,ra.keep kf,he,o,(hs.2 J hne).trans e,q⟩ (fun b o hb e=>(hs.2 b hb).trans e) kf
 have hi:bY W k v xs I i s.heap:=by cases k<;>first|exact hi|exact absurd rfl hke
 have hp:P () s:=hp s.heap hi (fun _ _ _ e=>e) fun _ _ e _=>e
 have hcls:∃o fs T,s.heap.get? I=some o/\o.cls= .type T/\o.data= .fields fs/\(T="list_iterator"\/T="tuple_iterator"\/T="range_iterator"):=by
  cases k with
  |plain=>
   rcases hi with ⟨_,a,vs,_,_,o,ho,hc,hd⟩|⟨_,a,_,o,ho,hc,hd⟩
   ·exact⟨o,_,_,ho,hc,hd,.inr (.inl rfl)⟩
   ·exact⟨o,_,_,ho,hc,hd,.inl rfl⟩
  |range=>exact⟨_,_,_,hi,rfl,rfl,.inr (.inr rfl)⟩
  |enum=>exact absurd rfl hke
 refine gf hcls ?_;clear hcls;intro o fs T ho hc hd hT
 have go:KP (model W.prog W.w) A (do
   let o<-load I
   match o.cls,o.data with
   | .type n,.fields vs=>
    if (["enumerate","zip","dict_itemiterator","dict_reverseitemiterator","odict_iterator","itertools.zip_longest","itertools.pairwise"].contains n&&vs[0]? ==some (rawInt (match y with| .ref a=>a|_=>0)))=true then do
     rule "for.unpacks-the-owned-tuple"
     updateField I 0 .none
    else pure ()
   |_,_=>pure ()) P E s:=by
  refine Kx (wpAny_load ho ?_)
  refine rwl hc (rwl hd ?_)
  dsimp only
  rw[if_neg]
  ·exact KV hp
  ·rcases hT with rfl|rfl|rfl<;>simp
 unfold letOwnedTupleGo
 cases target<;>first|exact KV hp|(cases y<;>first|exact KV hp|exact go)
theorem bQ{sc csc:Scope}{new vis:List (Nat×Str)}(h:dM sc csc new vis=true):
  csc.kind= .function/\(∀p∈csc.names,p.2≠ .cell)/\(∀p∈csc.names,p.2= .local->csc.names.lookup p.1=some .local/\(p.1=(".0":Str)\/∃q∈new,q.2=p.1))/\(∀p∈csc.names,p.2= .free->rx sc p.1=true)/\
   (∀q∈new,csc.names.lookup q.2=some .local)/\(∀q∈vis,q.2≠(".0":Str))/\(∀p∈vis,∀q∈new,p.1≠q.1):=by
 unfold dM at h
 simp only[KW,KI,beq_iff_eq] at h
 refine aq h ?_;clear h;intro w5r0_0 h7
 refine aq w5r0_0 ?_;clear w5r0_0;intro w0r1_0 _
 refine aq w0r1_0 ?_;clear w0r1_0;intro w0r2_0 h6
 obtain⟨⟨⟨⟨h1,_⟩,_⟩,h4⟩,h5⟩:=w0r2_0
 refine⟨h1,fun p hp e=>?_,fun p hp e=>?_,fun p hp e=>?_,h5,fun q hq e=>?_,fun p hp q hq e=>?_⟩
 ·have:=h4 p hp;rw[e] at this;simp at this
 ·have:=h4 p hp
  rw[e] at this
  simp only[KW,beq_iff_eq,Bool.or_eq_true,Nk] at this
  exact this
 ·have:=h4 p hp;rw[e] at this;exact this
 ·have:=h6 q hq
  rw[e] at this;simp at this
 ·have:=h7 p hp q hq
  rw[e] at this;simp at this
theorem gd{env:Env}{x:Str}{k:NameKind}:∀{names:List (Str×NameKind)},names.lookup x=some k->
  (names.map fun(n,k)=>if (k==NameKind.free&&env.scope.kind== .function&&env.kindOf n==some .cell) then (n,NameKind.cell) else (n,k)).lookup x=some (if (k==NameKind.free&&env.scope.kind== .function&&env.kindOf x==some .cell) then .cell else k)
 | [],h=>by simp at h
 |(n,k')::r,h=>by
  simp only[LG]
  rw[Ld] at h
  split at h
  ·rename_i q
   cases h
   have:x=n:=by simpa using q
   subst this
   split<;>simp [Ld]
  ·rename_i q
   have ih:=gd (env:=env) h
   split<;>(refine rwl Ld (rwl q ?_);exact ih)
theorem fH{env:Env}{x:Str}:∀{names:List (Str×NameKind)},names.lookup x=none->
  (names.map fun(n,k)=>if (k==NameKind.free&&env.scope.kind== .function&&env.kindOf n==some .cell) then (n,NameKind.cell) else (n,k)).lookup x=none
 | [],h=>rfl
 |(n,k')::r,h=>by
  simp only[LG]
  rw[Ld] at h
  split at h
  ·injection h
  ·rename_i q
   have ih:=fH (env:=env) h
   split<;>(refine rwl Ld (rwl q ?_);exact ih)
theorem mem_of_lookup{x:Str}{k:NameKind}:∀{l:List (Str×NameKind)},l.lookup x=some k->(x,k)∈l
 |(n,k')::r,h=>by
  rw[Ld] at h
  split at h
  ·rename_i q;cases h;have:x=n:=by simpa using q
   subst this;exact .head _
  ·exact .tail _ (mem_of_lookup h)
noncomputable abbrev ia (csc:Scope) (C:Addr) (env:Env):Env:=
 {scope:=relabel csc env,locals:=C,globals:=env.globals,cells:=cf env csc.names [],qual:=env.qual,func:=none,code:=env.code,frame:=env.frame,builtins:=env.builtins}
theorem l0{csc:Scope}{C:Addr}{x:Str}{k:NameKind}(h:(ia csc C env).kindOf x=some k):
  ∃k',csc.names.lookup x=some k'/\(k'≠ .free->k=k')/\(k'= .free->k= .free\/k= .cell):=by
 have h':(csc.names.map fun(n,k)=>if (k==NameKind.free&&env.scope.kind== .function&&env.kindOf n==some .cell) then (n,NameKind.cell) else (n,k)).lookup x=some k:=h
 cases q:csc.names.lookup x with
 |none=>rw[fH q] at h';injection h'
 |some k'=>
  rw[gd q] at h'
  refine⟨k',rfl,fun hn=>?_,fun hf=>?_⟩
  ·rw[if_neg (by simp [hn])] at h';cases h';rfl
  ·subst hf
   split at h'
   ·cases h';exact .inr rfl
   ·cases h';exact .inl rfl
theorem iJ{csc:Scope}{C:Addr}:dj csc (ia csc C env):=fun x k h=>by
 have h':(ia csc C env).kindOf x=some (if (k==NameKind.free&&env.scope.kind== .function&&env.kindOf x==some .cell) then .cell else k):=gd h
 refine⟨fun hf=>?_,fun hn=>?_⟩
 ·subst hf
  refine rwl h' ?_
  split
  ·exact .inr rfl
  ·exact .inl rfl
 ·exact rwl h' (rwl (if_neg (by simp [hn])) rfl)
theorem j7{sc csc:Scope}{new:List (Nat×Str)}(R:bx W env vis loc mem s)(hsc:dj sc env)(hc:dM sc csc new vis=true):∀p∈csc.names,p.2= .free->∃c,env.cells.lookup p.1=some c:=fun p hp hf=>by
 have h:=(bQ hc).2.2.2.1 p hp hf
 unfold rx at h
 split at h
 ·rename_i q;exact R.e.cellk _ _ ((hsc _ _ q).2 (by simp)) (.inl rfl)
 ·rename_i q
  rcases (hsc _ _ q).1 rfl with q'|q'
  ·exact R.e.cellk _ _ q' (.inr rfl)
  ·exact R.e.cellk _ _ q' (.inl rfl)
 ·exact Bool.noConfusion h
theorem zm{sc csc:Scope}{new:List (Nat×Str)}{C:Addr}{t:Tg}{target:KX}(R:bx W env vis loc mem s)(hsc:dj sc env)(hc:dM sc csc new vis=true)(hT:i7 t target=some new)
  (hC:s.heap.Ns C fun _=>none) (hm:mem C=none) (hb:W.base.get? C=none):bx W (ia csc C env) (dn new vis) (rI t loc) mem s:=by
 refine GV (bQ hc:) fun h1 h2 h3 h4 h5 h6 _=>?_
 have hfc:=j7 R hsc hc
 have hcl:∀x c,(cf env csc.names []).lookup x=some c->(x,NameKind.free)∈csc.names/\env.cells.lookup x=some c:=fun x c h=>by
  rcases eW csc.names [] hfc c h with q|q
  ·injection q
  ·exact q
 have hgv:∀i x v,(i,x)∈dn new vis->bS (rI t loc) i=some v->(i,x)∈vis/\(∀q∈new,q.2≠x)/\bS loc i=some v:=fun i x v hi hg=>by
  unfold dn at hi
  rcases KM.mp hi with hi|hi
  ·exfalso
   cases t with
   |one j=>
    refine cG (lV hT:) fun z pz e7r0_2 e7r0_3=>?_
    subst e7r0_2
    subst e7r0_3
    have:i=j:=by have:=Kq.mp hi;cases this;rfl
    subst this
    exact(eT hg).1 rfl
   |two j j'=>
    refine yF (fS hT:) fun z pz z' pz' kk pp e8r0_6 _ _ e8r0_9=>?_
    subst e8r0_6
    subst e8r0_9
    have g1:=eT (l:=unset loc j) hg
    have g2:=eT g1.2
    rcases Kw.mp hi with q|q
    ·cases q;exact g2.1 rfl
    ·have:=Kq.mp q;cases this;exact g1.1 rfl
  ·rw[K5] at hi
   have hnew:∀q∈new,q.2≠x:=fun q hq e=>by
    have:=hi.2
    simp only[Mb,MG,beq_iff_eq] at this
    exact this q hq e
   refine⟨hi.1,hnew,?_⟩
   cases t with
   |one j=>exact(eT hg).2
   |two j j'=>exact(eT (eT hg).2).2
 refine⟨R.m,⟨h1,R.e.glob,R.e.blt,⟨_,hC,fun i x v hi hg hk=>?_⟩,fun i x v k hi hg hk hck=>?_,fun x k hk hck=>?_,fun x c hx=>?_,fun x y c hx hy=>?_⟩,fun b hbd=>?_,fun b hbd=>?_⟩
 ·exfalso
  refine cI (hgv i x v hi hg:) fun g1 g2 g3=>?_
  refine bq (l0 hk:) fun k' e1 e2 e3=>?_
  have:k'= .local:=by
   cases k' with
   |free=>rcases e3 rfl with q|q<;>injection q
   |«local»=>rfl
   |cell=>have:=e2 (by simp);injection this
   |globalExplicit=>have:=e2 (by simp);injection this
   |globalImplicit=>have:=e2 (by simp);injection this
  subst this
  rcases (h3 (x,.local) (mem_of_lookup e1) rfl).2 with q|⟨q,hq,e⟩
  ·exact h6 _ g1 q
  ·exact g2 q hq e
 ·refine cI (hgv i x v hi hg:) fun g1 g2 g3=>?_
  refine bq (l0 hk:) fun k' e1 e2 e3=>?_
  have hk':k'= .free:=by
   cases k' with
   |free=>rfl
   |cell=>exact absurd rfl (h2 _ (mem_of_lookup e1))
   |«local»=>have:=e2 (by simp);subst this;rcases hck with q|q<;>injection q
   |globalExplicit=>have:=e2 (by simp);subst this;rcases hck with q|q<;>injection q
   |globalImplicit=>have:=e2 (by simp);subst this;rcases hck with q|q<;>injection q
  subst hk'
  have hm':=mem_of_lookup e1
  refine aO (ez csc.names [] hfc (.inl hm'):) fun c hc'=>?_
  have hcc:=(hcl x c hc').2
  have hks:=h4 _ hm' rfl
  have hkk:∃kk,env.kindOf x=some kk/\(kk= .cell\/kk= .free):=by
   unfold rx at hks
   split at hks
   ·rename_i q;exact⟨_,(hsc _ _ q).2 (by simp),.inl rfl⟩
   ·rename_i q
    rcases (hsc _ _ q).1 rfl with q'|q'
    ·exact⟨_,q',.inr rfl⟩
    ·exact⟨_,q',.inl rfl⟩
   ·exact Bool.noConfusion hks
  refine af hkk ?_;clear hkk;intro kk hk1 hk2
  refine bB (R.e.cell i x v kk g1 g3 hk1 hk2:) fun c' y f1 f2 f3=>?_
  rw[hcc] at f1;cases f1
  exact⟨c,y,hc',f2,f3⟩
 ·refine bq (l0 hk:) fun k' e1 e2 e3=>?_
  have hk':k'= .free:=by
   cases k' with
   |free=>rfl
   |cell=>exact absurd rfl (h2 _ (mem_of_lookup e1))
   |«local»=>have:=e2 (by simp);subst this;rcases hck with q|q<;>injection q
   |globalExplicit=>have:=e2 (by simp);subst this;rcases hck with q|q<;>injection q
   |globalImplicit=>have:=e2 (by simp);subst this;rcases hck with q|q<;>injection q
  subst hk'
  exact ez csc.names [] hfc (.inl (mem_of_lookup e1))
 ·exact R.e.cells x c (hcl x c hx).2
 ·exact R.e.apart x y c (hcl x c hx).2 (hcl y c hy).2
 ·rcases hbd with rfl|⟨x,hx⟩
  ·exact hm
  ·exact R.sep _ (.inr ⟨x,(hcl x b hx).2⟩)
 ·rcases hbd with rfl|⟨x,hx⟩
  ·exact hb
  ·exact R.new _ (.inr ⟨x,(hcl x b hx).2⟩)
end TD.Internal
namespace TD.Internal
open PySem PyProof.Rows
variable{W:Cx}{A:Around}{E:KC->Kv->Prop}{env:Env}{vis:List (Nat×Str)}{loc:aL}{mem:Mem}{s:Kv}
theorem jG{new vis:List (Nat×Str)}{t:Tg}{target:KX}(hT:i7 t target=some new)(hv:di vis)(hi:∀p∈vis,∀q∈new,p.1≠q.1):di (dn new vis):=by
 have hnew:∀i x j y,(i,x)∈new->(j,y)∈new->(i=j↔x=y):=by
  cases t with
  |one j=>
   refine cG (lV hT:) fun z pz e0r0_2 e0r0_3=>?_
   subst e0r0_2
   subst e0r0_3
   intro i x j y h1 h2
   have a:=Kq.mp h1;have b:=Kq.mp h2
   cases a;cases b;exact⟨fun _=>rfl,fun _=>rfl⟩
  |two j j'=>
   refine yF (fS hT:) fun z pz z' pz' kk pp e1r0_6 hne1 hne2 e1r0_9=>?_
   subst e1r0_6
   subst e1r0_9
   intro a x b y h1 h2
   rcases Kw.mp h1 with h1|h1<;>rcases Kw.mp h2 with h2|h2
   ·cases h1;cases h2;exact⟨fun _=>rfl,fun _=>rfl⟩
   ·have h2:=Kq.mp h2;cases h1;cases h2;exact⟨fun q=>absurd q hne2,fun q=>absurd q hne1⟩
   ·have h1:=Kq.mp h1;cases h1;cases h2;exact⟨fun q=>absurd q.symm hne2,fun q=>absurd q.symm hne1⟩
   ·have h1:=Kq.mp h1;have h2:=Kq.mp h2;cases h1;cases h2;exact⟨fun _=>rfl,fun _=>rfl⟩
 intro i x j y h1 h2
 unfold dn at h1 h2
 rcases KM.mp h1 with h1|h1<;>rcases KM.mp h2 with h2|h2
 ·exact hnew i x j y h1 h2
 ·rw[K5] at h2
  have hy:∀q∈new,q.2≠y:=fun q hq e=>by
   have:=h2.2
   simp only[Mb,MG,beq_iff_eq] at this
   exact this q hq e
  exact⟨fun e=>absurd e (Ne.symm (hi _ h2.1 _ h1)),fun e=>absurd e (hy _ h1)⟩
 ·rw[K5] at h1
  have hy:∀q∈new,q.2≠x:=fun q hq e=>by
   have:=h1.2
   simp only[Mb,MG,beq_iff_eq] at this
   exact this q hq e
  exact⟨fun e=>absurd e (hi _ h1.1 _ h2),fun e=>absurd e.symm (hy _ h2)⟩
 ·rw[K5] at h1 h2
  exact hv i x j y h1.1 h2.1
theorem Bd{t:Tg}{target:KX}{new:List (Nat×Str)}(hT:i7 t target=some new):CQ t:=by
 cases t with
 |one _=>trivial
 |two i j=>
  refine yF (fS hT:) fun z pz z' pz' kk pp _ _ hne _=>?_
  exact hne
theorem BP.stands{k:i5}{v:ae}{xs:List ae}{mem mem':Mem}(h:BP k v xs mem)(hs:stands k v mem mem'):BP k v xs mem':=by
 cases k with
 |plain=>
  cases v with
  |tup _=>exact h
  |_=>exact(hs:lst mem' _=_).trans h
 |range=>exact h
 |enum=>obtain⟨us,e,hl,q⟩:=h;exact⟨us,(hs:lst mem' v=_).trans e,hl,q⟩
theorem xb{k:i5}{v:ae}{xs:List ae}{I:Addr}{i:Nat}(hi:bY W k v xs I i s.heap){P:KC->Kv->Prop}(hp:P (.ref I) s):KP (model W.prog W.w) A (pyIter (.ref I)) P E s:=by
 cases k with
 |plain=>
  rcases hi with ⟨_,a,vs,_,_,hit⟩|⟨_,a,_,hit⟩
  ·exact wpAny_pyIter_tupleiter hit hp
  ·exact wpAny_pyIter_listiter hit hp
 |range=>exact wpAny_pyIter_rangeiter hi hp
 |enum=>obtain⟨a,J,old,_,_,he,_⟩:=hi;exact wpAny_pyIter_enum he hp
theorem sb{n i:Nat}(h:i<n):n+1-(i+1)<n+1-i:=J6 h
inductive CI(W:Cx)(csc:Scope)(env:Env)(vis':List (Nat×Str))(t:Tg)(loc:aL)(mem:Mem)(h₀:Lw)(k:i5)(v:ae)(xs:List ae)(I D C':Addr)(B:aL->(Bool->Mem->Prop)->Mem->Prop)(V:aL->(ae->Mem->Prop)->Mem->Prop)(QL:List ae->Mem->Prop)(n:Nat)(s':Kv):Prop
 |mk (i:Nat) (mem':Mem) (l':aL) (ys:List ae) (vs:List KC) (h1:n=xs.length+1-i) (h2:i<=xs.length) (h3:me t l' loc) (h4:bx W (ia csc C' env) vis' l' mem' s') (h5:aM fb mem h₀ mem' s'.heap) (h6:bY W k v xs I i s'.heap)
   (h7:stands k v mem mem') (h8:s'.heap.PlainList D (LK vs)) (h9:aJ W s'.heap ys vs) (h10:mem' D=none) (h11:∀b,k.own I b->mem' b=none) (h12:ys.length<=i) (h13:compLoop (pV t loc B V) (stands k v mem) (xs.drop i) ys QL mem')
theorem qy{B:aL->(Bool->Mem->Prop)->Mem->Prop}{V:aL->(ae->Mem->Prop)->Mem->Prop}{k:i5}{v:ae}{xs:List ae}{I:Addr}{s₂:Kv}{sc csc:Scope}{new:List (Nat×Str)}{t:Tg}{target iter elt':KX}{ifs:List KX}{pos:Pos}
  {QL:List ae->Mem->Prop} {RR:KC->Addr->Result->Kv->Prop} (hh:A.handled=none\/k= .plain/\(∀us,v≠ .tup us)/\(∃i,t= .one i)/\Af A mem s.heap) (hk2:k.two t=true)
  (R:bx W env vis loc mem s) (R2:bx W env vis loc mem s₂) (S2:aM fb mem s.heap mem s₂.heap) (hI:∀b,k.own I b->s.heap.get? b=none) (hit:bY W k v xs I 0 s₂.heap) (hcur:BP k v xs mem) (hlen:xs.length<br)
  (hsc:dj sc env) (hchk:dM sc csc new vis=true) (hT:i7 t target=some new) (hv:di vis) (hi:∀p∈vis,∀q∈new,p.1≠q.1)
  (htests:∀C' l P mem' s' E',bx W (ia csc C' env) (dn new vis) l mem' s'->B l P mem'->
   KP (model W.prog W.w) A (forIn ifs true fun c r=>if r=true then do let ok<-isTrue c (ia csc C' env) (eval c (ia csc C' env));pure (ForInStep.yield ok) else pure (ForInStep.yield r)) (PT W mem' s' P) E' s')
  (helt:∀C' l P mem' s' E',bx W (ia csc C' env) (dn new vis) l mem' s'->V l P mem'->KP (model W.prog W.w) A (eval elt' (ia csc C' env)) (PM W mem' s' P) E' s')
  (hloop:compLoop (pV t loc B V) (stands k v mem) xs [] QL mem)
  (hRR:∀D C' s' mem' ys vs m,s.heap.get? D=none->s.heap.get? C'=none->C'≠D->s'.heap.Ns C' m->s'.heap.PlainList D (LK vs)->aJ W s'.heap ys vs->bC W mem' s'->aM fb mem s.heap mem' s'.heap->mem' C'=none->mem' D=none->QL ys mem'->
   RR (.ref D) C' (.ok .next) s'):
  KP (model W.prog W.w) A (newList []) (fun acc s₃=>KP (model W.prog W.w) A (newFunctionEnv csc env.globals (cf env csc.names []) [] env.qual none .none (some env)) (fun cenv s₄=>
   codeAny (model W.prog W.w) A (.compStart (.ListComp elt' [⟨target,iter,ifs,0⟩] csc pos) 0 (.ref I) acc {cenv with scope:=relabel csc env}) (RR acc cenv.locals) s₄) E s₃) E s₂:=by
 refine GV (bQ hchk:) fun c1 c2 c3 c4 c5 c6 _=>?_
 have gone:∀b,s₂.heap.get? b=none->s.heap.get? b=none:=S2.alive
 refine wpAny_newObj_type ?_ (by refine(?_:([]:List KC).toArray.size<=sizeLine);simp)
 refine wpAny_newFunctionEnv c2 (by intro x hx;cases hx) (fun h₄ hns hsb=>?_) c1
 dsimp only at hns hsb⊢
 generalize hDdef:s₂.heap.objs.size=D at hns hsb⊢
 generalize hH3:s₂.heap.push {cls:= .type "list",data:= .seq ([]:List KC).toArray}=H3 at hns hsb⊢
 generalize hCdef:H3.objs.size=C' at hns hsb⊢
 have hCD:C'=D+1:=rwb (hCdef ..) (rwb (hH3 ..) (rwl (Heap.size_push ..) (rwl (hDdef ..) rfl)))
 have hDne:C'≠D:=by refine rwl hCD ?_;exact Ng D
 have hD2:s₂.heap.get? D=none:=hDdef▸cj _
 have hC2:s₂.heap.get? C'=none:=by
  cases q:s₂.heap.get? C' with
  |none=>rfl
  |some o=>have:=Heap.lt_size q;rw[hDdef,hCD] at this;exact absurd this (Nr.mpr (LJ _))
 have old:∀b o,s₂.heap.get? b=some o->h₄.get? b=some o:=fun b o e=>by
  have hb:b≠C':=by rintro rfl;rw[hC2] at e;injection e
  refine rwl (hsb.2 b hb) ?_
  exact Heap.get?_push_of_some _ (hH3▸Heap.get?_push_of_some _ e)
 have hDobj:h₄.get? D=some {cls:= .type "list",data:= .seq ([]:List KC).toArray}:=by
  refine rwl (hsb.2 D (Ne.symm hDne)) ?_
  refine Heap.get?_push_of_some _ ?_
  refine rwb hH3 (rwb hDdef ?_);exact Heap.get?_push_size _ rfl
 have kL:bV env.locals s₂.heap h₄:= .of_keeps old
 have R4:bx W env vis loc mem {s₂ with heap:=h₄,toks:=s₂.toks+([]:List (Str×KC)).length}:=R2.step (R2.keepM kL) (R2.keepS kL)
 have S4:aM fb mem s.heap mem h₄:=S2.trans (R2.keepS kL)
 have hbase:∀b,s.heap.get? b=none->W.base.get? b=none:=fun b e=>by
  cases q:W.base.get? b with
  |none=>rfl
  |some o=>rw[R.m.stays b o q] at e;injection e
 have hsD:=gone D hD2
 have hsC:=gone C' hC2
 have RC:=zm (csc:=csc) (C:=C') R4 hsc hchk hT (by simpa using hns) (R.m.mems.fresh hsC) (hbase _ hsC)
 have hit4:bY W k v xs I 0 h₄:=hit.keep (R2.keepF kL) fun b o _ e=>old b o e
 have hv':=jG hT hv hi
 have htg:=Bd hT
 have hkn:∀p∈new,(ia csc C' env).kindOf p.2=some .local:=fun p hp=>(iJ (csc:=csc) (C:=C') (env:=env) _ _ (c5 p hp)).2 (by simp)
 have hmn:∀p∈new,p∈dn new vis:=fun p hp=>KR _ hp
 have hI2:∀b,k.own I b->∃o,s₂.heap.get? b=some o:=fun b hb=>let ⟨o,_,e,_⟩:=hit.there hb;⟨o,e⟩
 have hDI:∀b,k.own I b->b≠D:=fun b hb q=>by obtain⟨o,e⟩:=hI2 b hb;rw[q,hD2] at e;injection e
 have hCI:∀b,k.own I b->b≠C':=fun b hb q=>by obtain⟨o,e⟩:=hI2 b hb;rw[q,hC2] at e;injection e
 have loop:codeAny (model W.prog W.w) A (.compLoop (.ListComp elt' [⟨target,iter,ifs,0⟩] csc pos) 0 (.ref I) (.ref D) (ia csc C' env)) (RR (.ref D) C') {s₂ with heap:=h₄,toks:=s₂.toks+([]:List (Str×KC)).length}:=by
  refine rT (CI W csc env (dn new vis) t loc mem s.heap k v xs I D C' B V QL) ?_ (xs.length+1)
   (.mk 0 mem (rI t loc) [] [] rfl (Lp _) (me.unset htg) RC S4 hit4 (by cases k<;>first|trivial|rfl) ⟨0,hDobj⟩ .nil (R.m.mems.fresh hsD) (fun b hb=>R.m.mems.fresh (hI b hb)) (Lk _) hloop)
  rintro n s' ⟨i,mem',l',ys,vs,rfl,hi',hst,R',S',hit',hstd,hpl,hr,hmD,hmI,hys,hlp⟩
  have hnC:∀b,gk (ia csc C' env) b->∃o,s'.heap.get? b=some o/\((∃es n,o.data= .dict es n)\/∃u,o.data= .cell u):=fun b hb=>R'.e.there hb
  have hDnf:¬gk (ia csc C' env) D:=fun hb=>by
   refine af (hnC D hb:) fun o e hd=>?_
   refine aO hpl ?_;clear hpl;intro n hn
   rw[hn] at e;(injection e with e;cases e)
   rcases hd with ⟨_,_,q⟩|⟨_,q⟩<;>injection q
  have hInf:∀b,k.own I b->¬gk (ia csc C' env) b:=fun b ho hb=>by
   refine af (hnC b hb:) fun o e hd=>?_
   refine cG (hit'.there ho:) fun o' fs e' hd'=>?_
   rw[e] at e';(injection e' with e';cases e')
   rw[hd'] at hd
   rcases hd with ⟨_,_,q⟩|⟨_,q⟩<;>injection q
  have hIfx:∀b o,k.own I b->s'.heap.get? b=some o->¬kP o:=fun b o hb e hf=>by
   refine cG (hit'.there hb:) fun o' fs e' hd'=>?_
   rw[e] at e';(injection e' with e';cases e')
   obtain⟨_,_,_,q⟩:=hf;rw[hd'] at q;injection q
  by_cases hlt:i<xs.length
  ·refine qg R'.m (hcur.stands hstd) hit' hlt fun x y ho tk hx hxr hout hs1=>?_
   refine mB (s:={s' with heap:=ho,toks:=tk}) hout hT hk2 fun h' hit1 hs2 hkf=>?_
   have kb1:eJ (k.own I) s'.heap h':=fun b o hb e=>hs2 b o (fun q=>hb (.inl q)) (hs1 b o hb e)
   refine aq (R'.off (s':={s' with heap:=h',toks:=tk}) (k.own I) hmI (fun b hb=>hbase _ (hI b hb)) hInf hIfx kb1:) fun R1 kf1=>?_
   have S1:aM fb mem s.heap mem' h':=S'.off (k.own I) hI kb1
   have hxr:aP W h' x y:=hxr.keep hkf
   have hdrop:xs.drop i=x::xs.drop (i+1):=by
    refine rwl (Mo hlt) ?_
    congr 1
    rw[KA hlt] at hx
    exact Option.some.inj hx
   rw[hdrop] at hlp
   refine af hlp ?_;clear hlp;intro l hl hlp'
   ·refine qY R1 (hh.imp id fun q=>q.2.2.1) hv' hT hmn (fun p hp=> .inl (hkn p hp)) hxr (hst x l hl) fun s2 R2' _ hkb2=>?_
    have kb2:∀b o,b≠C'->h'.get? b=some o->s2.heap.get? b=some o:=fun b o hb e=>hkb2 hkn b o hb e
    have S2':aM fb mem s.heap mem' s2.heap:=S1.off (·=C') (fun b hb=>hb▸hsC) fun b o hb e=>kb2 b o hb e
    have pl1:h'.PlainList D (LK vs):=let ⟨n,hn⟩:=hpl;⟨n,kb1 D _ (fun q=>hDI D q rfl) hn⟩
    have pl2:s2.heap.PlainList D (LK vs):=let ⟨n,hn⟩:=pl1;⟨n,kb2 D _ (Ne.symm hDne) hn⟩
    have kf2:cM h' s2.heap:=fun b o e hf=>kb2 b o (by
     rintro rfl
     exact R1.e.dok _ o (.inl rfl) e hf) e
    have hit2:bY W k v xs I (i+1) s2.heap:=hit1.keep kf2 fun b o hb e=>kb2 b o (hCI b hb) e
    have hr2:aJ W s2.heap ys vs:=(hr.keep kf1).keep kf2
    refine KB (htests C' l _ mem' s2 _ R2' hlp') (fun ok s3 h3=>?_) fun _ _ e=>e
    refine bq h3 ?_;clear h3;intro mem3 M3 S3 h3
    have R3:=R2'.step M3 S3
    have keepI:∀(ma mb:Mem) (ha hb:Lw),aM fb ma ha mb hb->(∀b,k.own I b->ma b=none)->bY W k v xs I (i+1) ha->∀b o,k.own I b->ha.get? b=some o->hb.get? b=some o:=fun ma mb ha hb S hm hi b o ho e=>by
     refine cG (hi.there ho:) fun o' fs e' hd'=>?_
     refine af (S.keep b o e (hm b ho) id:) fun o2 e2 a2=>?_
     rw[e] at e';cases e'
     rw[e2,a2.eq fun es ep q=>by rw[hd'] at q;cases q]
    have noneI:∀(ma mb:Mem) (ha hb:Lw),aM fb ma ha mb hb->(∀b,k.own I b->ma b=none)->bY W k v xs I (i+1) ha->∀b,k.own I b->mb b=none:=fun ma mb ha hb S hm hi b ho=>by
     refine cG (hi.there ho:) fun o' fs e' hd'=>?_
     exact S.none' e' (hm b ho)
    have keepD:∀(ma mb:Mem) (ha hb:Lw),aM fb ma ha mb hb->ma D=none->ha.PlainList D (LK vs)->hb.PlainList D (LK vs):=fun ma mb ha hb S hm ⟨n,hn⟩=>by
     refine af (S.keep D _ hn hm id:) fun o2 e2 a2=>?_
     exact⟨n,by exact rwl e2 (rwl (a2.eq fun es ep q=>by injection q) rfl)⟩
    have kf3:=S3.keepF R2'.m.mems .none
    have hit3:=hit2.keep kf3 (keepI _ _ _ _ S3 hmI hit2)
    have pl3:=keepD _ _ _ _ S3 hmD pl2
    have hmI3:=noneI _ _ _ _ S3 hmI hit2
    refine aO (id pl2:) fun nD eD=>?_
    have hmD3:=S3.none' eD hmD
    cases ok with
    |false=>
     simp only[LU,if_false]
     refine aq (h3.2 rfl:) fun q1 q2=>?_
     exact⟨xs.length+1-(i+1),sb hlt,.mk (i+1) mem3 l (ys++ []) vs rfl hlt (me.set htg hl) R3 (S2'.trans S3) hit3 q1 pl3 (by refine rwl (Ll ..) ?_;exact hr2.keep kf3) hmD3 hmI3 (by refine rwl (Ll ..) ?_;exact NG hys) q2⟩
    |true=>
     simp only[if_true]
     refine KB (helt C' l _ mem3 s3 _ R3 (h3.1 rfl)) (fun z s4 h4=>?_) fun _ _ e=>e
     refine wx h4 ?_;clear h4;intro w mem4 hw M4 S4' q1 q2
     have R4':=R3.step M4 S4'
     have kf4:=S4'.keepF R3.m.mems .none
     have hit4':=hit3.keep kf4 (keepI _ _ _ _ S4' hmI3 hit3)
     have pl4:=keepD _ _ _ _ S4' hmD3 pl3
     have hmI4:=noneI _ _ _ _ S4' hmI3 hit3
     refine aO (id pl3:) fun nD3 eD3=>?_
     have hmD4:=S4'.none' eD3 hmD3
     have hr4:=(hr2.keep kf3).keep kf4
     refine wpAny_list_append_plain pl4 (fun h5 pl5 hs5=>?_) (by refine rwl KJ (rwl hr4.length ?_);exact cO (HD hlen hys hlt))
     have kb5:eJ (·=D) s4.heap h5:=fun b o hb e=>(hs5.2 b hb).trans e
     refine aO (id pl4:) fun nD4 eD4=>?_
     obtain⟨R5,kf5⟩:=R4'.off (s':={s4 with heap:=h5}) (·=D) (fun b q=>q▸hmD4) (fun b q=>q▸hbase _ hsD) (fun b q hb=>by
      subst q
      refine af (R4'.e.there hb:) fun o e hd=>?_
      rw[eD4] at e;(injection e with e;cases e)
      rcases hd with ⟨_,_,q⟩|⟨_,q⟩<;>injection q) (fun b o q e hf=>by
      subst q
      rw[eD4] at e;(injection e with e;cases e)
      have:=hf.1;simp at this) kb5
     have S5:aM fb mem s.heap mem4 h5:=((S2'.trans S3).trans S4').off (·=D) (fun b hb=>hb▸hsD) fun b o hb e=>kb5 b o hb e
     exact⟨xs.length+1-(i+1),sb hlt,.mk (i+1) mem4 l (ys++ [w]) (vs++ [z]) rfl hlt (me.set htg hl) R5 S5 (hit4'.keep kf5 fun b o hb e=>kb5 b o (hDI b hb) e) q1 (by simpa using pl5) ((aJ.append (.cons hw .nil) hr4).keep kf5) hmD4 hmI4 (by refine rwl Km ?_;exact LV hys) q2⟩
  ·have hie:i=xs.length:=yR hi' hlt
   subst hie
   refine tH R'.m (hh.imp id fun q=>⟨q.1,q.2.1,q.2.2.2.step S' (fun _ _ z=>z),q.2.2.2.ne (hI I (.inl rfl))⟩) (hcur.stands hstd) hit' fun h' kb1=>?_
   refine aq (R'.off (s':={s' with heap:=h'}) (k.own I) hmI (fun b hb=>hbase _ (hI b hb)) hInf hIfx kb1:) fun R1 kf1=>?_
   have S1:aM fb mem s.heap mem' h':=S'.off (k.own I) hI kb1
   have hq:QL ys mem':=by rw[List.drop_length] at hlp;exact hlp
   refine aO R1.hasNs fun m hm=>?_
   refine aO hpl ?_;clear hpl;intro nD eD
   exact hRR D C' _ mem' ys vs m hsD hsC hDne hm ⟨nD,kb1 D _ (fun q=>hDI D q rfl) eD⟩ (hr.keep kf1) R1.m S1 (R1.sep _ (.inl rfl)) hmD hq
 exact codeAny_compStart_list loop (xb hit4 loop)
end TD.Internal
namespace TD.Internal
open PySem PyProof.Rows
variable{W:Cx}{A:Around}{E:KC->Kv->Prop}{env:Env}{vis:List (Nat×Str)}{loc:aL}{mem:Mem}{s:Kv}{Q:ae->Mem->Prop}
theorem aX{x:Str}{px p:Pos}{args:List KX}{M:Model}{P:KC->Kv->Prop}(h:KP M A (eval (.Name x px) env) (fun f s₁=>KP M A (callWith p f [] (backTo p (starEach args env)) []) P E s₁) E s):
  KP M A (eval (.Call (.Name x px) args [] p) env) P E s:=by
 refine(?_:KP M A (do callWith p (<-eval (.Name x px) env) [] (backTo p (starEach args env)) []) P E s)
 exact Kx h
theorem bK{p:Pos}{e:KX}{rest:List KX}(h:∀a q,e≠ .Starred a q):backTo p (starEach (e::rest) env)=(false,eval e env)::backTo p (starEach rest env):=by
 refine rwl (fY h) ?_;rfl
theorem lU{id:String}{p:Pos}{e:KX}{P:KC->Kv->Prop}(he:∀a q,e≠ .Starred a q)(h:KP (model W.prog W.w) A (eval e env) (fun v s₁=>KP (model W.prog W.w) A (call (.builtin id) [v]) P E s₁) E s):
  KP (model W.prog W.w) A (callWith p (.builtin id) [] (backTo p (starEach [e] env)) []) P E s:=by
 refine rwl (bK he) ?_
 refine Calls.callWith_builtin rfl (Calls.evalArgs_plain (Calls.spliced_cons ?_))
 exact KB h (fun v s₁ h₁=>Calls.spliced_nil h₁) fun _ _ x=>x
theorem iA{T:String}{p:Pos}{e:KX}{P:KC->Kv->Prop}(he:∀a q,e≠ .Starred a q)(h:KP (model W.prog W.w) A (eval e env) (fun v s₁=>KP (model W.prog W.w) A (call (.type T) [v]) P E s₁) E s):
  KP (model W.prog W.w) A (callWith p (.type T) [] (backTo p (starEach [e] env)) []) P E s:=by
 refine rwl (bK he) ?_
 refine PySem.callWith_type rfl (Calls.evalArgs_plain (Calls.spliced_cons ?_))
 exact KB h (fun v s₁ h₁=>Calls.spliced_nil h₁) fun _ _ x=>x
theorem uK{id:String}{p:Pos}{e e':KX}{P:KC->Kv->Prop}(he:∀a q,e≠ .Starred a q)(he':∀a q,e'≠ .Starred a q)
  (h:KP (model W.prog W.w) A (eval e env) (fun v s₁=>KP (model W.prog W.w) A (eval e' env) (fun u s₂=>KP (model W.prog W.w) A (call (.builtin id) [v,u]) P E s₂) E s₁) E s):
  KP (model W.prog W.w) A (callWith p (.builtin id) [] (backTo p (starEach [e,e'] env)) []) P E s:=by
 refine rwl (bK he) (rwl (bK he') ?_)
 refine Calls.callWith_builtin rfl (Calls.evalArgs_plain (Calls.spliced_cons ?_))
 exact KB h (fun v s₁ h₁=>Calls.spliced_cons (KB h₁ (fun u s₂ h₂=>Calls.spliced_nil h₂) fun _ _ x=>x)) fun _ _ x=>x
theorem sd{id:String}{p:Pos}{o:KC}{e:KX}{P:KC->Kv->Prop}(he:∀a q,e≠ .Starred a q)(h:KP (model W.prog W.w) A (eval e env) (fun v s₁=>KP (model W.prog W.w) A (call (.builtin id) [o,v]) P E s₁) E s):
  KP (model W.prog W.w) A (callWith p (.builtin id) [o] (backTo p (starEach [e] env)) []) P E s:=by
 refine rwl (bK he) ?_
 refine Calls.callWith_builtin rfl (Calls.evalArgs_plain (Calls.spliced_cons ?_))
 exact KB h (fun v s₁ h₁=>Calls.spliced_nil h₁) fun _ _ x=>x
theorem CW{id:String}{p:Pos}{o:KC}{P:KC->Kv->Prop}(h:KP (model W.prog W.w) A (call (.builtin id) [o]) P E s):
  KP (model W.prog W.w) A (callWith p (.builtin id) [o] (backTo p (starEach [] env)) []) P E s:=by
 refine Calls.callWith_builtin rfl ?_
 have e:evalArgs (.builtin id) true [] []=pure ⟨[],[]⟩:=by rfl
 refine(?_:KP _ A (evalArgs (.builtin id) true [] []) _ _ s)
 refine rwl e ?_
 exact KV h
theorem gH{e:KX}(h:eK e=true)(x:KC):foldedSetIterable e env x=pure x:=by
 cases e<;>first|rfl|exact nb h
theorem lX{G:String->Option ae}(ok:iY W G){sc:Scope}(hsc:dj sc env){k:i5}{iter:KX}{PX:ae->List ae->Mem->Prop}(R:bx W env vis loc mem s)
  {ex:KX} (hex:∀a q,ex≠ .Starred a q) (hk:lG sc k.call iter ex)
  (hsrc:KP (model W.prog W.w) A (eval ex env) (PM W mem s (fun v m1=>dX k v (fun xs=>PX v xs m1) m1)) E s) {P:KC->Kv->Prop}
  (hp:∀I v xs mem1 s1 s',bx W env vis loc mem1 s1->aM fb mem s.heap mem1 s1.heap->(∀b,k.own I b->s1.heap.get? b=none)->bY W k v xs I 0 s'.heap->bx W env vis loc mem1 s'->aM fb mem1 s1.heap mem1 s'.heap->BP k v xs mem1->xs.length<br->PX v xs mem1->P (.ref I) s'):
  KP (model W.prog W.w) A (eval iter env) (fun y s₁=>KP (model W.prog W.w) A (pyIter y) P E s₁) E s:=by
 cases k with
 |plain=>
  obtain rfl:iter=ex:=hk
  refine aS R hsrc fun v y mem1 s1 hv R1 S1 h1=>?_
  refine bq h1 ?_;clear h1;intro xs e hl hq
  exact uy R1 hv e fun I s' hI hit R' S'=>hp I v xs mem1 s1 s' R1 S1 (fun b hb=>(hb.resolve_right fun q=>nomatch q.1)▸hI) hit R' S' e hl hq
 |range=>
  refine mT hk ?_;clear hk;intro x px p e1r0_3 hg
  subst e1r0_3
  refine aX (aI R ok hsc hg (by simp [ff]) Boot.«range» (iA hex ?_))
  refine aS R hsrc fun v y mem1 s1 hv R1 S1 h1=>?_
  refine bq h1 ?_;clear h1;intro n e2r0_1 hn hq
  subst e2r0_1
  refine aO hv.int fun t e3r0_1=>?_
  subst e3r0_1
  exact tG R1 hn fun I s' hI hit R' S'=>hp I _ _ mem1 s1 s' R1 S1 (fun b hb=>(hb.resolve_right fun q=>nomatch q.1)▸hI) hit R' S' ⟨n,hn,rfl⟩ (by refine rwl (fc ..) ?_;unfold br at hn⊢;exact ID hn) hq
 |enum=>
  refine mT hk ?_;clear hk;intro x px p e4r0_3 hg
  subst e4r0_3
  refine aX (aI R ok hsc hg (by simp [ff]) Boot.«enumerate» (iA hex ?_))
  refine aS R hsrc fun v y mem1 s1 hv R1 S1 h1=>?_
  refine bq h1 ?_;clear h1;intro us e hl hq
  exact uq R1 hv e fun I s' hI hit R' S'=>hp I _ _ mem1 s1 s' R1 S1 hI hit R' S' ⟨us,e,hl,rfl⟩ (by refine rwl (jE ..) ?_;exact hl) hq
theorem qc{sc csc:Scope}{new vis:List (Nat×Str)}(h:dM sc csc new vis=true):∀p∈csc.names,p.2= .local->csc.names.lookup p.1=some .local:=fun p hp e=>((bQ h).2.2.1 p hp e).1
section
variable{B:aL->(Bool->Mem->Prop)->Mem->Prop}{V:aL->(ae->Mem->Prop)->Mem->Prop}{G:String->Option ae}{k:i5}{sc csc:Scope}{new:List (Nat×Str)}{t:Tg}{target iter elt':KX}{ifs:List KX}{pos:Pos}{QL:List ae->Mem->Prop}
noncomputable def gP (W:Cx) (env:Env) (mem:Mem) (s:Kv) (QL:List ae->Mem->Prop) (D C':Addr) (s':Kv):Prop:=
 ∃mem' ys vs m,s.heap.get? D=none/\s.heap.get? C'=none/\C'≠D/\s'.heap.Ns C' m/\s'.heap.PlainList D (LK vs)/\aJ W s'.heap ys vs/\bC W mem' s'/\aM fb mem s.heap mem' s'.heap/\mem' C'=none/\mem' D=none/\QL ys mem'
theorem sC{use:Option (KC->Sem Unit)}{PP:KC->Kv->Prop}(hh:A.handled=none)(ok:iY W G)(R:bx W env vis loc mem s)
  (hsc:dj sc env) (hchk:dM sc csc new vis=true) (hns:eK iter=true) (hT:i7 t target=some new) (hk2:k.two t=true) (hv:di vis) (hi:∀p∈vis,∀q∈new,p.1≠q.1)
  {ex:KX} (hex:∀a q,ex≠ .Starred a q) (hk:lG sc k.call iter ex)
  (hsrc:KP (model W.prog W.w) A (eval ex env) (PM W mem s (fun v m1=>dX k v (fun xs=>compLoop (pV t loc B V) (stands k v m1) xs [] QL m1) m1)) E s)
  (htests:∀C' l P mem' s' E',bx W (ia csc C' env) (dn new vis) l mem' s'->B l P mem'->
   KP (model W.prog W.w) A (forIn ifs true fun c r=>if r=true then do let ok<-isTrue c (ia csc C' env) (eval c (ia csc C' env));pure (ForInStep.yield ok) else pure (ForInStep.yield r)) (PT W mem' s' P) E' s')
  (helt:∀C' l P mem' s' E',bx W (ia csc C' env) (dn new vis) l mem' s'->V l P mem'->KP (model W.prog W.w) A (eval elt' (ia csc C' env)) (PM W mem' s' P) E' s')
  (hpost:∀D C' s',gP W env mem s QL D C' s'->compPost (model W.prog W.w) A E use PP (.ref D) C' (.ok .next) s'):
  KP (model W.prog W.w) A (comprehension (.ListComp elt' [⟨target,iter,ifs,0⟩] csc pos) csc env (firstIterPos [⟨target,iter,ifs,0⟩] pos) (newList []) false (eval iter env) use) PP E s:=by
 refine wpAny_comprehension_free (g:=⟨target,iter,ifs,0⟩) (gs:=[]) rfl (fun x=>gH hns x) (n6 (j7 R hsc hchk)) (bQ hchk).1 (qc hchk) ?_
 refine lX ok hsc R hex hk hsrc fun I v xs mem1 s1 s' R1 S1 hI hit R' S' hcur hlen hq=>?_
 refine qy (.inl hh) hk2 R1 R' S' hI hit hcur hlen hsc hchk hT hv hi htests helt hq fun D C' s'' mem' ys vs m hD hC hne hnsC hpl hr hM hS hmC hmD hQL=>?_
 exact hpost D C' s'' ⟨mem',ys,vs,m,S1.alive D hD,S1.alive C' hC,hne,hnsC,hpl,hr,hM,S1.trans hS,hmC,hmD,hQL⟩
theorem gP.done{D C':Addr}{s':Kv}(R:bx W env vis loc mem s)(h:gP W env mem s (fun ys m'=>bf m' ys Q) D C' s'){h':Lw}(hs:Heap.SameBut C' s'.heap h'):PM W mem s Q (.ref D) {s' with heap:=h'}:=by
 refine BL h ?_;clear h;intro mem' ys vs m hD hC hne hnsC w6r0_8 hr hM hS hmC hmD hf
 refine aO w6r0_8 ?_;clear w6r0_8;intro nD eD
 have hbase:∀b,s.heap.get? b=none->W.base.get? b=none:=fun b e=>by
  cases q:W.base.get? b with
  |none=>rfl
  |some o=>rw[R.m.stays b o q] at e;injection e
 have kb:eJ (·=C') s'.heap h':=fun b o hb e=>(hs.2 b hb).trans e
 have kf:cM s'.heap h':=fun b o e hfx=>kb b o (by
  rintro rfl
  refine iU hnsC ?_;clear hnsC;intro o' es ep e' hd _
  rw[e] at e';(injection e' with e';cases e')
  obtain⟨_,_,_,q⟩:=hfx;rw[hd] at q;injection q) e
 have M':bC W mem' {s' with heap:=h'}:=by
  refine⟨fun b o e=>kb b o (by rintro rfl;rw[hbase _ hC] at e;injection e) (hM.stays b o e),fun b o e=>?_,hM.gens,hM.os⟩
  refine aq (hM.mems b o e:) fun r nb=>?_
  have hb:b≠C':=by rintro rfl;rw[hmC] at e;injection e
  exact⟨r.at (fun _ e=>kb _ _ hb e) kf,nb⟩
 have S':aM fb mem s.heap mem' h':=hS.off (·=C') (fun b hb=>hb▸hC) fun b o hb e=>kb b o hb e
 refine⟨.ref D,mem'.set D (.list ys),.mkRef,⟨M'.stays,fun b o e=>?_,M'.gens,M'.os⟩,⟨S'.alive,S'.keep,fun b hb hb'=>?_⟩,hf.2 D hmD⟩
 ·unfold Mem.set at e
  split at e
  ·rename_i q;subst q;cases e
   exact⟨⟨vs,⟨nD,kb _ _ (Ne.symm hne) eD⟩,hr.keep kf⟩,hbase _ hD⟩
  ·exact M'.mems b o e
 ·unfold Mem.set at hb'
  split at hb'
  ·rename_i q;subst q;exact hD
  ·exact S'.grow b hb hb'
end
end TD.Internal
namespace TD.Internal
open PySem PyProof.Rows
section inv
variable{FT:Nat->Option Fn}{ids:List Nat}{vis:List (Nat×Str)}{sc:Scope}{ex:KX}
theorem BY{i:Nat}(h:aA FT ids vis sc (.nm i) ex=true):∃x p,ex= .Name x p/\vis.lookup i=some x/\nI sc x=true/\gK x=true:=by
 refine cG (gM h:) ?_;clear h;intro x p e0r0_2 h
 subst e0r0_2
 refine aj h ?_;clear h;intro h1 h
 exact⟨x,p,rfl,beq_iff_eq.mp h1,bT h⟩
@[elab_as_elim] theorem nx{i:Nat}(h:aA FT ids vis sc (.nm i) ex=true){P:KX->Prop}(kk:∀x p,vis.lookup i=some x->nI sc x=true->gK x=true->P (.Name x p)):P ex:=by
 refine bM h ?_;clear h;intro x p h
 refine aj h ?_;clear h;intro h1 h
 exact kk x p (beq_iff_eq.mp h1) (bT h).1 (bT h).2
@[elab_as_elim] theorem xF{i:Int}(h:aA FT ids vis sc (.int i) ex=true){P:KX->Prop}(kk:∀k p,P (.Constant (.int i) k p)):P ex:=by
 refine bu h ?_;clear h;intro c k p h
 refine fP h ?_
 exact kk k p
@[elab_as_elim] theorem uC{i:Bool}(h:aA FT ids vis sc (.bool i) ex=true){P:KX->Prop}(kk:∀k p,P (.Constant (.bool i) k p)):P ex:=by
 refine bu h ?_;clear h;intro c k p h
 refine fP h ?_
 exact kk k p
@[elab_as_elim] theorem xJ{i:String}(h:aA FT ids vis sc (.str i) ex=true){P:KX->Prop}(kk:∀k p,P (.Constant (.str (Str.ofString i)) k p)):P ex:=by
 refine bu h ?_;clear h;intro c k p h
 refine fP h ?_
 exact kk k p
@[elab_as_elim] theorem uh(h:aA FT ids vis sc .none ex=true){P:KX->Prop}(kk:∀k p,P (.Constant .none k p)):P ex:=by
 refine bu h ?_;clear h;intro c k p h
 refine fP h ?_
 exact kk k p
@[elab_as_elim] theorem ua{i:String}(h:aA FT ids vis sc (.glob i) ex=true){P:KX->Prop}(kk:∀x p,bW sc i x=true->P (.Name x p)):P ex:=bM h kk
@[elab_as_elim] theorem wC{op:z9}{a b:Ex}(h:aA FT ids vis sc (.bin op a b) ex=true){P:KX->Prop}(kk:∀l o r p,vp op o=true->aA FT ids vis sc a l=true->aA FT ids vis sc b r=true->P (.BinOp l o r p)):P ex:=by
 refine iI h ?_;clear h;intro l o r p h
 refine aj h ?_;clear h;intro h1 h
 exact kk l o r p h1 (bT h).1 (bT h).2
@[elab_as_elim] theorem pY{a:Ex}(h:aA FT ids vis sc (.not a) ex=true){P:KX->Prop}(kk:∀x p,aA FT ids vis sc a x=true->P (.UnaryOp .Not x p)):P ex:=by
 refine lD h ?_;clear h;intro o x p h
 refine aj h fun h1 h2=>?_
 refine fP h1 ?_
 exact kk x p h2
theorem AC{a:Ex}(h:aA FT ids vis sc (.neg a) ex=true):∃x p,ex= .UnaryOp .USub x p/\aA FT ids vis sc a x=true:=by
 refine mT (Au h:) ?_;clear h;intro o x p e10r0_3 h
 subst e10r0_3
 refine aj h fun h1 h2=>?_
 refine fP h1 ?_
 exact⟨x,p,rfl,h2⟩
@[elab_as_elim] theorem xp{a:Ex}(h:aA FT ids vis sc (.neg a) ex=true){P:KX->Prop}(kk:∀x p,aA FT ids vis sc a x=true->P (.UnaryOp .USub x p)):P ex:=by
 refine lD h ?_;clear h;intro o x p h
 refine aj h fun h1 h2=>?_
 refine fP h1 ?_
 exact kk x p h2
theorem jr{α:Type}{l:List α}(h:(!l.isEmpty)=true):l≠ []:=by rintro rfl;exact nb h
@[elab_as_elim] theorem kJ{k:Bool}{es:fC}(h:aA FT ids vis sc (.boolop k es) ex=true){P:KX->Prop}(kk:∀vs p,vs≠ []->eH FT ids vis sc es vs=true->P (.BoolOp (isAnd k) vs p)):P ex:=by
 refine j4 h ?_;clear h;intro o vs p h
 refine aj h fun h1 h2=>?_
 refine aj h2 fun h3 h4=>?_
 refine fP h1 ?_
 exact kk vs p (jr h3) h4
@[elab_as_elim] theorem qf{op:vV}{a b:Ex}(h:aA FT ids vis sc (.cmp op a b) ex=true){P:KX->Prop}(kk:∀l o r p,mG op o=true->eK r=true->aA FT ids vis sc a l=true->aA FT ids vis sc b r=true->P (.Compare l [o] [r] p)):P ex:=by
 refine iz h ?_;clear h;intro l os rs p h
 refine bc h ?_;clear h;intro o h
 refine bc h ?_;clear h;intro r h
 refine aj h ?_;clear h;intro h1 h
 refine aj h ?_;clear h;intro h2 h
 exact kk l o r p h1 h2 (bT h).1 (bT h).2
@[elab_as_elim] theorem nB{o1 o2:vV}{a b c:Ex}(h:aA FT ids vis sc (.cmp2 o1 o2 a b c) ex=true){P:KX->Prop}(kk:∀l p1 p2 r1 r2 p,mG o1 p1=true->mG o2 p2=true->eK r1=true->eK r2=true->aA FT ids vis sc a l=true->aA FT ids vis sc b r1=true->aA FT ids vis sc c r2=true->P (.Compare l [p1,p2] [r1,r2] p)):P ex:=by
 refine iz h ?_;clear h;intro l os rs p h
 refine eQ h ?_;clear h;intro p1 p2 h
 refine eQ h ?_;clear h;intro r1 r2 h
 refine aj h ?_;clear h;intro h1 h
 refine aj h ?_;clear h;intro h2 h
 refine aj h ?_;clear h;intro h3 h
 refine aj h ?_;clear h;intro h4 h
 refine aj h ?_;clear h;intro h5 h
 exact kk l p1 p2 r1 r2 p h1 h2 h3 h4 h5 (bT h).1 (bT h).2
@[elab_as_elim] theorem qu{q:Bool}{a:Ex}{c:Option Bool}(h:aA FT ids vis sc (.isc q a c) ex=true){P:KX->Prop}(kk:∀l k' p' p,aA FT ids vis sc a l=true->P (.Compare l [CH q] [.Constant (Cc c) k' p'] p)):P ex:=by
 refine iz h ?_;clear h;intro l os rs p h
 refine bc h ?_;clear h;intro o h
 refine bc h ?_;clear h;intro r h
 refine aj h fun h1 h2=>?_
 refine aj h2 fun h3 h4=>?_
 refine bu h4 fun k k' p' h5=>?_
 have e1:=beq_iff_eq.mp h1
 have e2:=beq_iff_eq.mp h5
 subst e1 e2
 exact kk l k' p' p h3
theorem Bv{b:Bool}(h:(!b)=true):b=false:=by cases b<;>first|rfl|exact nb h
theorem Ad{f:Nat}{x:Str}(h:Cn FT sc f x=true):∃fn,FT f=some fn/\fn.own=false/\bW sc fn.name x=true:=by
 unfold Cn at h
 cases q:FT f with
 |none=>rw[q] at h;exact nb h
 |some fn=>rw[q] at h;obtain⟨h1,h2⟩:=bT h;exact⟨fn,rfl,Bv h1,h2⟩
@[elab_as_elim] theorem nF{f:Nat}{args:fC}(h:aA FT ids vis sc (.call f args) ex=true){P:KX->Prop}(kk:∀x px es p fn,f∈ids->FT f=some fn->fn.own=false->bW sc fn.name x=true->es≠ []->eH FT ids vis sc args es=true->P (.Call (.Name x px) es [] p)):P ex:=by
 refine bI h ?_;clear h;intro x px es p h
 refine aj h ?_;clear h;intro h1 h
 refine aj h ?_;clear h;intro h2 h
 refine aj h ?_;clear h;intro h3 h
 refine bq (Ad h2:) fun fn h4 h6 h5=>?_
 exact kk x px es p fn (LN.mp h1) h4 h6 h5 (jr h3) h
@[elab_as_elim] theorem uk{o:Ex}{f:Nat}(h:aA FT ids vis sc (.attr o f) ex=true){P:KX->Prop}(kk:∀e1 p,f<2->kK e1=true->aA FT ids vis sc o e1=true->P (.Attribute e1 (Str.ofString (de f)) p)):P ex:=by
 refine gr h ?_;clear h;intro e1 n p h
 refine aj h fun h1 g=>?_
 refine aj g fun h2 g2=>?_
 refine fP h2 ?_
 exact kk e1 p (of_decide_eq_true h1) (bT g2).1 (bT g2).2
@[elab_as_elim] theorem oy{o:Ex}{f:Nat}{args:fC}(h:aA FT ids vis sc (.meth o f args) ex=true){P:KX->Prop}(kk:∀e1 ap es p fn,rC e1 ap p=true->f∈ids->FT f=some fn->fn.own=true->fn.name∈eU->es.length<29->aA FT ids vis sc o e1=true->eH FT ids vis sc args es=true->P (.Call (.Attribute e1 (Str.ofString fn.name) ap) es [] p)):P ex:=by
 refine jy h ?_;clear h;intro fe es p h
 refine gr h ?_;clear h;intro e1 n ap h
 refine aj h fun h1 g1=>?_
 refine aj g1 fun h2 g2=>?_
 refine aj g2 fun h3 g3=>?_
 refine aj g3 fun h4 g4=>?_
 refine af (bX h3:) fun fn h5 h6=>?_
 refine aj h6 fun h7 g7=>?_
 refine aj g7 fun h8 g8=>?_
 refine fP g8 ?_
 exact kk e1 ap es p fn h1 (LN.mp h2) h5 h7 (LN.mp h8) (of_decide_eq_true h4) (bT g4).1 (bT g4).2
@[elab_as_elim] theorem wM{f:Nat}{args:fC}(h:aA FT ids vis sc (.new f args) ex=true){P:KX->Prop}(kk:∀x px es p fn,f∈ids->FT f=some fn->fn.own=true->fn.name="__init__"->bW sc "Estate" x=true->es≠ []->eH FT ids vis sc args es=true->P (.Call (.Name x px) es [] p)):P ex:=by
 refine bI h ?_;clear h;intro x px es p h
 refine aj h ?_;clear h;intro h1 h
 refine aj h ?_;clear h;intro h2 h
 refine aj h ?_;clear h;intro h3 h
 refine af (bX h2:) fun fn h4 h5=>?_
 refine aj h5 ?_;clear h5;intro h6 h5
 refine aj h5 ?_;clear h5;intro h7 h5
 exact kk x px es p fn (LN.mp h1) h4 h6 (beq_iff_eq.mp h7) h5 (jr h3) h
@[elab_as_elim] theorem xk{a:Ex}{i j:Int}(h:aA FT ids vis sc (.cut a i j) ex=true){P:KX->Prop}(kk:∀e1 k1 p1 k2 p2 p q,aA FT ids vis sc a e1=true->P (.Subscript e1 (.Slice (some (.Constant (.int i) k1 p1)) (some (.Constant (.int j) k2 p2)) none p) q)):P ex:=by
 refine f9 h ?_;clear h;intro e1 e2 q h
 refine ur h ?_;clear h;intro l u p h
 refine aj h fun h1 g1=>?_
 refine aj g1 fun h2 g2=>?_
 refine bu h1 fun c k1 p1 h3=>?_
 refine bu h2 fun c' k2 p2 h4=>?_
 refine fP h3 ?_
 refine fP h4 ?_
 exact kk e1 k1 p1 k2 p2 p q g2
theorem oH{e:KX}{f:Option String}{k:KX->Bool}(hf:f=none)(h:nY sc f e k=true):k e=true:=by subst hf;exact h
theorem vk{e:KX}{g:Option String}{f:String}{k:KX->Bool}(hf:g=some f)(h:nY sc g e k=true):∃x px e1 p,e= .Call (.Name x px) [e1] [] p/\bW sc f x=true/\k e1=true:=by
 subst hf
 refine CC (kl h:) ?_;clear h;intro x px es p e64r0_4 h
 subst e64r0_4
 refine aj h ?_;clear h;intro h1 h
 refine af (sN h:) ?_;clear h;intro e1 e66r0_1 h
 subst e66r0_1
 exact⟨x,px,e1,p,rfl,h1,h⟩
@[elab_as_elim] theorem rF{e:KX}{g:Option String}{f:String}{k:KX->Bool}(hf:g=some f)(h:nY sc g e k=true){P:KX->Prop}(kk:∀x px e1 p,bW sc f x=true->k e1=true->P (.Call (.Name x px) [e1] [] p)):P e:=by
 subst hf
 refine bI h ?_;clear h;intro x px es p h
 refine aj h ?_;clear h;intro h1 h
 refine bc h ?_;clear h;intro e1 h
 exact kk x px e1 p h1 h
theorem lP{e:KX}{f:Option String}{k:KX->Bool}(h:nY sc f e k=true):∃e1,lG sc f e e1/\k e1=true:=by
 cases q:f with
 |none=>exact⟨e,rfl,oH q h⟩
 |some g=>
  refine Az (vk q h:) fun x px e1 p a b c=>?_
  exact⟨e1,⟨x,px,p,a,b⟩,c⟩
@[elab_as_elim] theorem zH{b:B1}{a:Ex}(hb:b.inner=none)(h:aA FT ids vis sc (.b1 b a) ex=true){P:KX->Prop}(kk:∀x px e1 p,bW sc b.call x=true->aA FT ids vis sc a e1=true->P (.Call (.Name x px) [e1] [] p)):P ex:=by
 refine bI h ?_;clear h;intro x px es p h
 refine aj h ?_;clear h;intro h1 h
 refine bc h ?_;clear h;intro e1 h
 exact kk x px e1 p h1 (oH hb h)
@[elab_as_elim] theorem xA{b:B1}{a:Ex}{f:String}(hb:b.inner=some f)(h:aA FT ids vis sc (.b1 b a) ex=true){P:KX->Prop}(kk:∀x px y py e1 p p',bW sc b.call x=true->bW sc f y=true->aA FT ids vis sc a e1=true->P (.Call (.Name x px) [.Call (.Name y py) [e1] [] p'] [] p)):P ex:=by
 refine bI h ?_;clear h;intro x px es p h
 refine aj h ?_;clear h;intro h1 h
 refine bc h ?_;clear h;intro e1 h
 refine rF hb h ?_;clear h;intro y py e2 p' h2 h
 exact kk x px y py e2 p p' h1 h2 h
@[elab_as_elim] theorem rd{a:Ex}{c:ie}(h:aA FT ids vis sc (.isinst a c) ex=true){P:KX->Prop}(kk:∀x px e1 y py p,bW sc "isinstance" x=true->aA FT ids vis sc a e1=true->bW sc c.bi y=true->P (.Call (.Name x px) [e1,.Name y py] [] p)):P ex:=by
 refine bI h ?_;clear h;intro x px es p h
 refine aj h ?_;clear h;intro h1 h
 refine eQ h ?_;clear h;intro e1 e2 h
 refine aj h ?_;clear h;intro h2 h
 refine bM h ?_;clear h;intro y py h
 exact kk x px e1 y py p h1 h2 h
@[elab_as_elim] theorem qX{o a:Ex}(h:aA FT ids vis sc (.append o a) ex=true){P:KX->Prop}(kk:∀e1 ap e2 p,rC e1 ap p=true->aA FT ids vis sc o e1=true->aA FT ids vis sc a e2=true->P (.Call (.Attribute e1 (Str.ofString "append") ap) [e2] [] p)):P ex:=by
 refine gC h ?_;clear h;intro e1 ap es p h1 h
 refine bc h ?_;clear h;intro e2 h
 exact kk e1 ap e2 p h1 (bT h).1 (bT h).2
@[elab_as_elim] theorem sP{o a:Ex}(h:aA FT ids vis sc (.index o a) ex=true){P:KX->Prop}(kk:∀e1 ap e2 p,rC e1 ap p=true->aA FT ids vis sc o e1=true->aA FT ids vis sc a e2=true->P (.Call (.Attribute e1 (Str.ofString "index") ap) [e2] [] p)):P ex:=by
 refine gC h ?_;clear h;intro e1 ap es p h1 h
 refine bc h ?_;clear h;intro e2 h
 exact kk e1 ap e2 p h1 (bT h).1 (bT h).2
@[elab_as_elim] theorem xy{o:Ex}{i:fC}(h:aA FT ids vis sc (.pop o i) ex=true){P:KX->Prop}(kk:∀e1 ap es p,rC e1 ap p=true->aA FT ids vis sc o e1=true->eH FT ids vis sc i es=true->es.length<=1->P (.Call (.Attribute e1 (Str.ofString "pop") ap) es [] p)):P ex:=by
 refine gC h ?_;clear h;intro e1 ap es p h1 h
 refine aj h ?_;clear h;intro h2 h
 refine aj h ?_;clear h;intro h3 h
 exact kk e1 ap es p h1 h2 h3 (of_decide_eq_true h)
@[elab_as_elim] theorem w9{a i:Ex}(h:aA FT ids vis sc (.sub a i) ex=true){P:KX->Prop}(kk:∀e1 e2 p,aA FT ids vis sc a e1=true->aA FT ids vis sc i e2=true->P (.Subscript e1 e2 p)):P ex:=by
 refine f9 h ?_;clear h;intro e1 e2 p h
 exact kk e1 e2 p (bT h).1 (bT h).2
@[elab_as_elim] theorem tW{up:Bool}{a i:Ex}(h:aA FT ids vis sc (.slice up a i) ex=true){P:KX->Prop}(kk:∀e1 e2 p q,aA FT ids vis sc a e1=true->aA FT ids vis sc i e2=true->P (.Subscript e1 (.Slice (qz up e2) (qz (!up) e2) none p) q)):P ex:=by
 refine f9 h fun e1 e2 q g=>?_
 refine xw g fun e3 p g3=>?_
 exact kk e1 e3 p q (bT g3).1 (bT g3).2
@[elab_as_elim] theorem x9{mx:Bool}{a b:Ex}(h:aA FT ids vis sc (.mm mx a b) ex=true){P:KX->Prop}(kk:∀x px e1 e2 p,bW sc (rv mx) x=true->aA FT ids vis sc a e1=true->aA FT ids vis sc b e2=true->P (.Call (.Name x px) [e1,e2] [] p)):P ex:=by
 refine bI h ?_;clear h;intro x px es p h
 refine aj h ?_;clear h;intro h1 h
 refine eQ h ?_;clear h;intro e1 e2 h
 exact kk x px e1 e2 p h1 (bT h).1 (bT h).2
@[elab_as_elim] theorem wu{es:fC}(h:aA FT ids vis sc (.lst es) ex=true){P:KX->Prop}(kk:∀xs p,eH FT ids vis sc es xs=true->P (.List xs p)):P ex:=gy h kk
@[elab_as_elim] theorem sX(h:aA FT ids vis sc .dict0 ex=true){P:KX->Prop}(kk:∀p,P (.Dict [] [] p)):P ex:=by
 refine tU h ?_;clear h;intro a b p h
 refine aj h fun h1 h2=>?_
 refine rwl (LM.mp h1) (rwl (LM.mp h2) ?_)
 exact kk p
@[elab_as_elim] theorem wA{es:fC}(h:aA FT ids vis sc (.tup es) ex=true){P:KX->Prop}(kk:∀xs k p,eH FT ids vis sc es xs=true->P (.Tuple xs k p)):P ex:=vf h kk
theorem Aa{elt:Ex}{t:Tg}{k:i5}{src:Ex}{cond:fC}(h:aA FT ids vis sc (.comp elt t k src cond) ex=true):∃elt' target iter ifs csc p new e1,ex= .ListComp elt' [⟨target,iter,ifs,0⟩] csc p/\(i7 t target=some new/\k.two t=true)/\dM sc csc new vis=true/\eK iter=true/\
  lG sc k.call iter e1/\aA FT ids vis sc src e1=true/\aA FT ids (dn new vis) csc elt elt'=true/\eH FT ids (dn new vis) csc cond ifs=true:=by
 refine CC (Ap h:) ?_;clear h;intro elt' gs csc p e96r0_4 h
 subst e96r0_4
 refine af (sN h:) ?_;clear h;intro w97r0_0 e97r0_1 h
 obtain⟨target,iter,ifs,n⟩:=w97r0_0
 subst e97r0_1
 refine af (bX h:) ?_;clear h;intro new hT h
 refine aj h ?_;clear h;intro h0 h
 refine aj h ?_;clear h;intro h1 h
 refine aj h ?_;clear h;intro h2 h
 refine aj h fun h3 h4=>?_
 refine af (lP h3:) fun e1 hk h5=>?_
 refine aj h0 ?_;clear h0;intro h0 hk2
 obtain rfl:n=0:=of_decide_eq_true h0
 exact⟨elt',target,iter,ifs,csc,p,new,e1,rfl,⟨hT,hk2⟩,h1,h2,hk,h5,bT h4⟩
@[elab_as_elim] theorem oG{elt:Ex}{t:Tg}{k:i5}{src:Ex}{cond:fC}(h:aA FT ids vis sc (.comp elt t k src cond) ex=true){P:KX->Prop}(kk:∀elt' target iter ifs csc p new e1,(i7 t target=some new/\k.two t=true)->dM sc csc new vis=true->eK iter=true->lG sc k.call iter e1->aA FT ids vis sc src e1=true->aA FT ids (dn new vis) csc elt elt'=true->eH FT ids (dn new vis) csc cond ifs=true->P (.ListComp elt' [⟨target,iter,ifs,0⟩] csc p)):P ex:=by
 refine wU h ?_;clear h;intro elt' gs csc p h
 refine bc h ?_;clear h;intro w97r0_0 h
 obtain⟨target,iter,ifs,n⟩:=w97r0_0
 refine af (bX h:) ?_;clear h;intro new hT h
 refine aj h ?_;clear h;intro h0 h
 refine aj h ?_;clear h;intro h1 h
 refine aj h ?_;clear h;intro h2 h
 refine aj h fun h3 h4=>?_
 refine af (lP h3:) fun e1 hk h5=>?_
 refine aj h0 ?_;clear h0;intro h0 hk2
 obtain rfl:n=0:=of_decide_eq_true h0
 exact kk elt' target iter ifs csc p new e1 ⟨hT,hk2⟩ h1 h2 hk h5 (bT h4).1 (bT h4).2
theorem nH{e:Ex}{es:fC}{xs:List KX}(h:eH FT ids vis sc (.cons e es) xs=true):∃x r,xs=x::r/\aA FT ids vis sc e x=true/\eH FT ids vis sc es r=true:=by
 cases xs with
 |nil=>exact nb h
 |cons x r=>exact⟨x,r,rfl,bT h⟩
@[elab_as_elim] theorem gg{e:Ex}{es:fC}{xs:List KX}(h:eH FT ids vis sc (.cons e es) xs=true){P:List KX->Prop}(kk:∀x r,aA FT ids vis sc e x=true->eH FT ids vis sc es r=true->P (x::r)):P xs:=by
 cases xs with
 |nil=>exact nb h
 |cons x r=>exact kk x r (bT h).1 (bT h).2
theorem il{xs:List KX}(h:eH FT ids vis sc .nil xs=true):xs= []:=LM.mp h
end inv
noncomputable def tA:Ex->Nat
 | .nm _=>23| .int _=>19| .bool _=>19| .none=>19| .glob _=>23| .bin _ _ _=>2| .not _=>3| .neg _=>3| .boolop _ _=>0| .cmp _ _ _=>15| .cmp2 _ _ _ _ _=>15| .isc _ _ _=>15
 | .call _ _=>16| .b1 _ _=>16| .isinst _ _=>16| .append _ _=>16| .pop _ _=>16| .index _ _=>16| .sub _ _=>21| .slice _ _ _=>21| .mm _ _ _=>16| .lst _=>24| .tup _=>25| .comp _ _ _ _ _=>8| .str _=>19| .dict0=>6| .attr _ _=>20| .meth _ _ _=>16| .new _ _=>16| .cut _ _ _=>21
theorem rB{FT:Nat->Option Fn}{ids:List Nat}{vis:List (Nat×Str)}{sc:Scope}{e:Ex}{ex:KX}(h:aA FT ids vis sc e ex=true):ex.ctorIdx=tA e:=by
 cases e with
 |nm _=>exact sT h
 |int _=>exact jN h
 |bool _=>exact jN h
 |none=>exact jN h
 |glob _=>exact sT h
 |bin _ _ _=>exact AY h
 |not _=>exact yL h
 |neg _=>exact yL h
 |boolop _ _=>exact uF h
 |cmp _ _ _=>exact r5 h
 |cmp2 _ _ _ _ _=>exact r5 h
 |isc _ _ _=>exact r5 h
 |call _ _=>exact eu h
 |b1 _ _=>exact eu h
 |isinst _ _=>exact eu h
 |append _ _=>exact eu h
 |pop _ _=>exact eu h
 |index _ _=>exact eu h
 |sub _ _=>exact rf h
 |slice _ _ _=>exact rf h
 |mm _ _ _=>exact eu h
 |lst _=>exact z4 h
 |tup _=>exact Aj h
 |comp _ _ _ _ _=>exact Cj h
 |str _=>exact jN h
 |dict0=>exact z7 h
 |attr _ _=>exact(aN h).1
 |meth _ _ _=>exact eu h
 |new _ _=>exact eu h
 |cut _ _ _=>exact rf h
theorem Fb(e:Ex):tA e=8\/ [23,19,2,3,0,15,16,21,24,25,6,20].contains (tA e)=true:=by
 cases e<;>first|exact .inr rfl|exact .inl rfl
theorem vL{e:Ex}{n:Nat}(h:tA e=n)(h8:n≠8)(hn: [23,19,2,3,0,15,16,21,24,25,6,20].contains n=false):False:=by
 subst h
 rcases Fb e with q|q
 ·exact h8 q
 ·rw[q] at hn;exact Bool.noConfusion hn
theorem jc{FT:Nat->Option Fn}{ids:List Nat}{vis:List (Nat×Str)}{sc:Scope}{e:Ex}{a:KX}{p:Pos}(h:aA FT ids vis sc e (.Starred a p)=true):False:=
 vL (n:=22) (rB h).symm (by decide) rfl
theorem Ck{a b:Nat}(h:a≠b):(!(a==b))=true:=by refine rwl (beq_false_of_ne h) ?_;rfl
theorem rt{FT:Nat->Option Fn}{ids:List Nat}{vis:List (Nat×Str)}{sc:Scope}{e:Ex}{ex:KX}(h:aA FT ids vis sc e ex=true):kI ex=true:=
 Ck fun q=>vL (n:=26) ((rB h).symm.trans q) (by decide) rfl
section inv
variable{FT:Nat->Option Fn}{ids:List Nat}{vis:List (Nat×Str)}{sc:Scope}
theorem bU{es:fC}{xs:List KX}(h:eH FT ids vis sc es xs=true):∀e∈xs,∀a p,e≠ .Starred a p:=by
 induction xs generalizing es with
 |nil=>intro e he;cases he
 |cons x r ih=>
  cases es with
  |nil=>exact nb h
  |cons e es=>
   refine aj h fun h1 h2=>?_
   intro e he a p q
   cases he with
   |head=>subst q;exact jc h1
   |tail _ he=>exact ih h2 e he a p q
end inv
theorem dw{FT:Nat->Option Fn}{ids:List Nat}{vis:List (Nat×Str)}{sc:Scope}{e:Ex}{ex:KX}(h:aA FT ids vis sc e ex=true):∀a q,ex≠ .Starred a q:=fun a q e=>jc (e▸h)
end TD.Internal
namespace TD.Internal
open PySem PyProof.Rows
theorem aY{W:Cx}{env:Env}{vis:List (Nat×Str)}{loc:aL}{m1 m2:Mem}{s1 s2:Kv}{v:ae}{y:KC}(R:bx W env vis loc m1 s1)(S:aM fb m1 s1.heap m2 s2.heap)(h:aP W s1.heap v y):aP W s2.heap v y:=h.keep (S.keepF R.m.mems .none)
theorem aP.kinds{W:Cx}{h:Lw}{x:ae}{a:KC}(hx:aP W h x a):(x= .none/\a= .none)\/(∃t,x= .bool t/\a= .bool t)\/(isNone x=false/\(∀t,zN t x=false)/\((∃i t,a= .int i t)\/(∃c,a= .ref c)\/∃x t,a= .str x t)):=by
 cases x with
 |none=>exact .inl ⟨rfl,hx.none'⟩
 |bool t=>exact .inr (.inl ⟨t,rfl,hx.bool⟩)
 |int i=>exact .inr (.inr ⟨rfl,fun _=>rfl,.inl ⟨i,hx.int⟩⟩)
 |ref c=>exact .inr (.inr ⟨rfl,fun _=>rfl,.inr (.inl ⟨c,hx.ref⟩)⟩)
 |str x=>obtain⟨t,q⟩:=hx.str;exact .inr (.inr ⟨rfl,fun _=>rfl,.inr (.inr ⟨_,t,q⟩)⟩)
 |tup _=>obtain⟨c,_,q,_⟩:=hx;exact .inr (.inr ⟨rfl,fun _=>rfl,.inr (.inl ⟨c,q⟩)⟩)
 |frz _=>obtain⟨c,_,q,_⟩:=hx;exact .inr (.inr ⟨rfl,fun _=>rfl,.inr (.inl ⟨c,q⟩)⟩)
noncomputable def wK:Option Bool->KC
 |none=> .none
 |some t=> .bool t
theorem aP.plain{W:Cx}{h:Lw}{x:ae}{a:KC}{c:Option Bool}(hx:aP W h x a):plainIs a (wK c)=true:=by
 cases c<;>rcases hx.kinds with ⟨_,rfl⟩|⟨t,_,rfl⟩|⟨_,_,⟨i,t,rfl⟩|⟨c,rfl⟩|⟨x,t,rfl⟩⟩<;>rfl
theorem aP.lit{W:Cx}{h:Lw}{x:ae}{a:KC}{c:Option Bool}(hx:aP W h x a):(i9 c x=true->a=wK c)/\(i9 c x=false->a≠wK c):=by
 cases c with
 |none=>
  rcases hx.kinds with ⟨rfl,rfl⟩|⟨t,rfl,rfl⟩|⟨h1,h2,⟨i,t,rfl⟩|⟨c,rfl⟩|⟨x,t,rfl⟩⟩
  ·exact⟨fun _=>rfl,fun e=>Bool.noConfusion e⟩
  ·exact⟨fun e=>nb e,fun _ e=>by exact PySem.Value.noConfusion e⟩
  ·exact⟨fun e=>nb (h1.symm.trans e),fun _ e=>by exact PySem.Value.noConfusion e⟩
  ·exact⟨fun e=>nb (h1.symm.trans e),fun _ e=>by exact PySem.Value.noConfusion e⟩
  ·exact⟨fun e=>nb (h1.symm.trans e),fun _ e=>by exact PySem.Value.noConfusion e⟩
 |some u=>
  rcases hx.kinds with ⟨rfl,rfl⟩|⟨t,rfl,rfl⟩|⟨h1,h2,⟨i,t,rfl⟩|⟨c,rfl⟩|⟨x,t,rfl⟩⟩
  ·exact⟨fun e=>nb e,fun _ e=>by exact PySem.Value.noConfusion e⟩
  ·refine⟨fun e=>congrArg Value.bool (beq_iff_eq.mp e),fun e q=>?_⟩
   (injection q with q;cases q)
   exact absurd ((beq_self_eq_true u).symm.trans e) (fun q=>Bool.noConfusion q)
  ·exact⟨fun e=>nb ((h2 u).symm.trans e),fun _ e=>by exact PySem.Value.noConfusion e⟩
  ·exact⟨fun e=>nb ((h2 u).symm.trans e),fun _ e=>by exact PySem.Value.noConfusion e⟩
  ·exact⟨fun e=>nb ((h2 u).symm.trans e),fun _ e=>by exact PySem.Value.noConfusion e⟩
theorem qe{W:Cx}{A:Around}{E:KC->Kv->Prop}{mem:Mem}{s:Kv}{Q:ae->Mem->Prop}(M:bC W mem s){p:Bool}{x:ae}{a:KC}{c:Option Bool}(hx:aP W s.heap x a)(hq:Q (.bool (i9 c x==p)) mem):
  KP (model W.prog W.w) A (compareOp (CH p) a (wK c)) (PM W mem s Q) E s:=by
 have hpl:plainIs a (wK c)=true:=hx.plain
 refine aq (hx.lit (c:=c):) fun h1 h2=>?_
 cases r:i9 c x with
 |false=>
  rw[r] at hq
  cases p with
  |false=>exact wpAny_isNot_other hpl (h2 r) (PM.here M .mkBool hq)
  |true=>exact wpAny_is_other hpl (h2 r) (PM.here M .mkBool hq)
 |true=>
  rw[r] at hq
  have e:=h1 r
  rw[<-e] at hpl⊢
  cases p with
  |false=>exact wpAny_isNot_self hpl (PM.here M .mkBool hq)
  |true=>exact wpAny_is_self hpl (PM.here M .mkBool hq)
theorem i0{M:Model}{A:Around}{E:KC->Kv->Prop}{s:Kv}{env:Env}{P:Bool->Kv->Prop}(h:P false s):∀(l:List KX),
  KP M A (forIn l false fun c r=>if r=true then do let ok<-isTrue c env (eval c env);pure (ForInStep.yield ok) else pure (ForInStep.yield r)) P E s
 | []=>KV h
 |c::l=>by
  refine rwl (Ny ..) ?_
  simp only[LU,if_false]
  exact i0 h l
theorem AW{sc:Scope}{c:ie}{y:Str}(h:bW sc c.bi y=true):c.code<3/\bW sc c.name y=true/\c.name∈ff/\bootBuiltins (Str.ofString c.name)=some (.type c.name):=by
 cases c<;>first|exact(sE h).elim|skip
 ·exact⟨by decide,h,by repeat (first|exact List.Mem.head _|refine List.Mem.tail _ ?_),Boot.«int»⟩
 ·exact⟨by decide,h,by repeat (first|exact List.Mem.head _|refine List.Mem.tail _ ?_),Boot.«bool»⟩
 ·exact⟨by decide,h,by repeat (first|exact List.Mem.head _|refine List.Mem.tail _ ?_),Boot.«list»⟩
theorem PM.mono{W:Cx}{mem:Mem}{s s':Kv}{Q Q':ae->Mem->Prop}{y:KC}(k:∀v m,Q v m->Q' v m)(h:PM W mem s Q y s'):PM W mem s Q' y s':=by
 refine dJ h ?_;clear h;intro v m a b c d
 exact⟨v,m,a,b,c,k _ _ d⟩
theorem AK{k b:Bool}{P:Bool->Mem->Prop}{m:Mem}{W:Mem->Prop}(hW:W m->P k m)(h:xP k W P b m):P b m:=by
 cases b<;>cases k
 ·exact hW (h.1 rfl)
 ·exact h.2 rfl
 ·exact h.2 rfl
 ·exact hW (h.1 rfl)
noncomputable def IL (W:Cx) (FT:Nat->Option Fn) (ids:List Nat) (G:String->Option ae) (A:Around) (C:bb) (e:Ex):Prop:=∀{ex:KX} {env:Env} {vis:List (Nat×Str)} {sc:Scope} {loc:aL} {Q:ae->Mem->Prop} {X:Nat->Mem->Prop} {mem:Mem} {s:Kv} {E:KC->Kv->Prop},
  aA FT ids vis sc e ex=true->dj sc env->di vis->jd W A mem s X->bx W env vis loc mem s->bk C G X e loc Q mem->KP (model W.prog W.w) A (eval ex env) (PM W mem s Q) E s
noncomputable def J3 (W:Cx) (FT:Nat->Option Fn) (ids:List Nat) (G:String->Option ae) (A:Around) (C:bb) (e:Ex):Prop:=∀{ex:KX} {env:Env} {vis:List (Nat×Str)} {sc:Scope} {loc:aL} {P:Bool->Mem->Prop} {X:Nat->Mem->Prop} {mem:Mem} {s:Kv} {E:KC->Kv->Prop},
  aA FT ids vis sc e ex=true->dj sc env->di vis->jd W A mem s X->bx W env vis loc mem s->bk C G X e loc (oO P) mem->KP (model W.prog W.w) A (isTrue ex env (eval ex env)) (PT W mem s P) E s
noncomputable def mW (ex:KX):Prop:=∀(env:Env) (w:Sem KC),isTrue ex env w=(do let v<-w;standAt ex.pos;holding [v] (truthy v))
theorem r8{ex:KX}(h: [0,3,5,15].contains ex.ctorIdx=false):mW ex:=fun env w=>by
 cases ex<;>first|rfl|exact nb (h.symm:false=true)
theorem mP{W:Cx}{FT:Nat->Option Fn}{ids:List Nat}{G:String->Option ae}{A:Around}{C:bb}{e:Ex}(ev:IL W FT ids G A C e)(hp:∀{ex:KX} {vis:List (Nat×Str)} {sc:Scope},aA FT ids vis sc e ex=true->mW ex):IL W FT ids G A C e/\J3 W FT ids G A C e:=
 ⟨ev,fun hc hsc hv hX R h=>isTrue_plain (pZ (ev hc hsc hv hX R h) fun b s' q=>q) (hp hc _ _)⟩
theorem su{M:Model}{A:Around}{E:KC->Kv->Prop}{s:Kv}{env:Env}{c:Option Bool}{k:Nat}{p:Pos}{P:KC->Kv->Prop}(h:P (wK c) s):KP M A (eval (.Constant (Cc c) k p) env) P E s:=by
 cases c<;>exact KV h
theorem nK{P:Bool->Mem->Prop}{b:Bool}{m:Mem}(h:oO P (.bool b) m):P b m:=by
 refine af h ?_;clear h;intro b' e h
 cases e
 exact h
theorem PT.plain{W:Cx}{mem:Mem}{s s':Kv}{P:Bool->Mem->Prop}{b:Bool}(h:PT W mem s (fun b m=>oO P (.bool b) m) b s'):PT W mem s P b s':=by
 refine bq h ?_;clear h;intro m a c d
 exact⟨m,a,c,nK d⟩
theorem aW{FT:Nat->Option Fn}{ids:List Nat}{vis:List (Nat×Str)}{sc:Scope}{e:Ex}{ex:KX}(he: [0,3,5,15].contains (tA e)=false)(h:aA FT ids vis sc e ex=true):mW ex:=
 r8 (by refine rwl (rB h) ?_;exact he)
theorem vU{e1:KX}(h:∀a q,e1≠ .Starred a q):∀e∈ [e1],∀a q,e≠ .Starred a q:=fun e he=>by
 cases Kq.mp he
 exact h
mutual
theorem aD{W:Cx}{FT:Nat->Option Fn}{ids:List Nat}{G:String->Option ae}{n:Nat}{A:Around}{C:bb}(SC:A1 W FT ids G n A C):∀(e:Ex),IL W FT ids G A C e/\J3 W FT ids G A C e
 | .nm i=>mP (fun{ex env vis sc loc Q X mem s E} hc hsc hv hX R h=>by
  refine nx hc fun x p h1 h2 h3=>?_
  refine af h ?_;clear h;intro v q h'
  exact dY R hsc h1 h2 h3 q h') (fun{ex vis sc} h=>aW rfl h)
 | .int i=>mP (fun{ex env vis sc loc Q X mem s E} hc hsc hv hX R h=>by
  refine xF hc fun k p=>?_
  exact wpAny_Constant_int (PM.val R.m .mkInt h _)) (fun{ex vis sc} h=>aW rfl h)
 | .bool i=>mP (fun{ex env vis sc loc Q X mem s E} hc hsc hv hX R h=>by
  refine uC hc fun k p=>?_
  exact KV (PM.here R.m .mkBool h)) (fun{ex vis sc} h=>aW rfl h)
 | .none=>mP (fun{ex env vis sc loc Q X mem s E} hc hsc hv hX R h=>by
  refine uh hc fun k p=>?_
  exact KV (PM.here R.m .mkNone h)) (fun{ex vis sc} h=>aW rfl h)
 | .str i=>mP (fun{ex env vis sc loc Q X mem s E} hc hsc hv hX R h=>by
  refine xJ hc fun k p=>?_
  exact wpAny_Constant_str (PM.val R.m .mkStr h _)) (fun{ex vis sc} h=>aW rfl h)
 | .dict0=>mP (fun{ex env vis sc loc Q X mem s E} hc hsc hv hX R h=>by
  refine sX hc fun p=>?_
  have k:bV env.locals s.heap (s.heap.push {cls:= .type "dict",data:= .dict #[]}):= .push _
  have ha:=cj s.heap
  exact wpAny_Dict_empty ⟨.ref s.heap.objs.size,_,.mkRef,R.allocM (o:= .dict0) k ha (fun kf=>⟨_,_,_,Heap.get?_push_size _ rfl,rfl,rfl⟩) rfl rfl,R.allocS (o:= .dict0) k ha,h _ (R.m.mems.fresh ha)⟩) (fun{ex vis sc} h=>aW rfl h)
 | .glob i=>mP (fun{ex env vis sc loc Q X mem s E} hc hsc hv hX R h=>by
  refine ua hc fun x p h1=>?_
  refine af h ?_;clear h;intro v q h'
  refine cG (SC.ok.gl i v q:) fun j t e13r0_2 hm=>?_
  subst e13r0_2
  exact cy R SC.ok hsc h1 hm (PM.here R.m .mkInt h')) (fun{ex vis sc} h=>aW rfl h)
 | .bin op a b=>mP (fun{ex env vis sc loc Q X mem s E} hc hsc hv hX R h=>by
  refine wC hc fun l o r p h1 h2 h3=>?_
  refine wpAny_BinOp (aS R ((aD SC a).1 h2 hsc hv hX R h) fun x xv m1 s1 hx R1 S1 q1=>?_)
  refine aS R1 ((aD SC b).1 h3 hsc hv (hX.step S1) R1 q1) fun y yv m2 s2 hy R2 S2 q2=>?_
  exact bp (S1.trans S2) (jB R2 (aY R1 S2 hx) hy h1 q2)) (fun{ex vis sc} h=>aW rfl h)
 | .not a=>⟨(fun{ex env vis sc loc Q X mem s E} hc hsc hv hX R h=>by
  refine pY hc fun x p h1=>?_
  refine wpAny_UnaryOp (KB ((aD SC a).1 h1 hsc hv hX R h) (fun y s1 q=>?_) fun _ _ x=>x)
  obtain⟨b,rfl,m1,M1,S1,q1⟩:=q.test
  exact not_of (wpAny_truthy_bool ⟨.bool !b,m1,.mkBool,M1,S1,q1⟩)),(fun{ex env vis sc loc P X mem s E} hc hsc hv hX R h=>by
  refine pY hc fun x p h1=>?_
  refine isTrue_not (KB ((aD SC a).2 (P:=fun b m=>oO P (.bool !b) m) h1 hsc hv hX R h) (fun b s1 q=>?_) fun _ _ x=>x)
  refine bq q ?_;clear q;intro m1 M1 S1 q1
  exact⟨m1,M1,S1,nK q1⟩)⟩
 | .neg a=>mP (fun{ex env vis sc loc Q X mem s E} hc hsc hv hX R h=>by
  refine xp hc fun x p h1=>?_
  refine wpAny_UnaryOp (aS R ((aD SC a).1 h1 hsc hv hX R h) fun v y m1 s1 hy R1 S1 q1=>?_)
  refine af q1 ?_;clear q1;intro i e20r0_1 q1
  subst e20r0_1
  refine aO hy.int fun t e21r0_1=>?_
  subst e21r0_1
  exact neg_int (PM.trans S1 (PM.val R1.m .mkInt q1 _))) (fun{ex vis sc} h=>by obtain⟨x,p,rfl,_⟩:=AC h;exact fun _ _=>rfl)
 | .boolop k es=>⟨(fun{ex env vis sc loc Q X mem s E} hc hsc hv hX R h=>by
  refine kJ hc fun vs p hne h1=>?_
  refine KB (vi SC es (k:=k) h1 hne hsc hv hX R h) (fun y s1 q=>?_) fun _ _ x=>x
  obtain⟨b,rfl,m1,M1,S1,q1⟩:=q.test
  exact⟨.bool b,m1,.mkBool,M1,S1,q1⟩),(fun{ex env vis sc loc P X mem s E} hc hsc hv hX R h=>by
  refine kJ hc fun vs p hne h1=>?_
  exact KB (si SC es h1 hsc hv hX R h) (fun _ _ q=>q.plain) fun _ _ x=>x)⟩
 | .cmp op a b=>⟨(fun{ex env vis sc loc Q X mem s E} hc hsc hv hX R h=>by
  refine qf hc fun l o r p h0 h1 h2 h3=>?_
  refine wpAny_Compare1 (aS R ((aD SC a).1 h2 hsc hv hX R h) fun x xv m1 s1 hx R1 S1 q1=>?_) (dQ h1)
  refine aS R1 ((aD SC b).1 h3 hsc hv (hX.step S1) R1 q1) fun y yv m2 s2 hy R2 S2 q2=>?_
  refine KB (fT R2 SC.room (aY R1 S2 hx) hy h0 q2) (fun z s3 q=>?_) fun _ _ x=>x
  obtain⟨b,rfl,m3,M3,S3,q3⟩:=PM.test q
  exact⟨.bool b,m3,.mkBool,M3,S1.trans (S2.trans S3),q3⟩),(fun{ex env vis sc loc P X mem s E} hc hsc hv hX R h=>by
  refine qf hc fun l o r p h0 h1 h2 h3=>?_
  refine wpAny_isTrue_Compare1 (aS R ((aD SC a).1 h2 hsc hv hX R h) fun x xv m1 s1 hx R1 S1 q1=>?_) (dQ h1)
  refine aS R1 ((aD SC b).1 h3 hsc hv (hX.step S1) R1 q1) fun y yv m2 s2 hy R2 S2 q2=>?_
  exact pZ (fT R2 SC.room (aY R1 S2 hx) hy h0 q2) fun b s3 q=>PT.trans S1 (PT.trans S2 (PT.plain q)))⟩
 | .cmp2 o1 o2 a b c=>⟨(fun{ex env vis sc loc Q X mem s E} hc hsc hv hX R h=>by
  refine nB hc fun l p1 p2 r1 r2 p h1 h2 h3 h4 h5 h6 h7=>?_
  have hm:lastMarks [p1,p2] [r1,r2]=false:=by
   refine(?_:behindInMarks p2 r2=false)
   exact dQ h4
  refine Compare_chain (rs:=[]) (ops:=[]) (aS R ((aD SC a).1 h5 hsc hv hX R h) fun x xv m1 s1 hx R1 S1 q1=>?_) hm
  refine chain_link (aS R1 ((aD SC b).1 h6 hsc hv (hX.step S1) R1 q1) fun y yv m2 s2 hy R2 S2 q2=>?_)
  refine KB (fT R2 SC.room (aY R1 S2 hx) hy h1 q2) (fun z s3 q=>?_) fun _ _ x=>x
  obtain⟨t,rfl,m3,M3,S3,q3⟩:=PM.test q
  refine wpAny_truthy_bool ?_
  have R3:=R2.step M3 S3
  cases t with
  |false=>exact⟨.bool false,m3,.mkBool,M3,S1.trans (S2.trans S3),q3.2 rfl⟩
  |true=>
   simp only[if_true]
   refine chain_last ?_
   refine aS R3 ((aD SC c).1 h7 hsc hv (hX.step (S1.trans (S2.trans S3))) R3 (q3.1 rfl)) fun u uv m4 s4 hu R4 S4 q4=>?_
   refine KB (fT R4 SC.room (aY R3 S4 (aY R2 S3 hy)) hu h2 q4) (fun z s5 q=>?_) fun _ _ x=>x
   obtain⟨b,rfl,m5,M5,S5,q5⟩:=PM.test q
   exact⟨.bool b,m5,.mkBool,M5,S1.trans (S2.trans (S3.trans (S4.trans S5))),q5⟩),(fun{ex env vis sc loc P X mem s E} hc hsc hv hX R h=>by
  refine nB hc fun l p1 p2 r1 r2 p h1 h2 h3 h4 h5 h6 h7=>?_
  have hm:lastMarks [p1,p2] [r1,r2]=false:=by
   refine(?_:behindInMarks p2 r2=false)
   exact dQ h4
  refine isTrue_chain (rs:=[]) (ops:=[]) (aS R ((aD SC a).1 h5 hsc hv hX R h) fun x xv m1 s1 hx R1 S1 q1=>?_) hm
  refine test_link (aS R1 ((aD SC b).1 h6 hsc hv (hX.step S1) R1 q1) fun y yv m2 s2 hy R2 S2 q2=>?_)
  refine pZ (fT R2 SC.room (aY R1 S2 hx) hy h1 q2) fun t s3 q=>?_
  refine bq q ?_;clear q;intro m3 M3 S3 q3
  have R3:=R2.step M3 S3
  cases t with
  |false=>exact⟨m3,M3,S1.trans (S2.trans S3),nK (q3.2 rfl)⟩
  |true=>
   simp only[if_true]
   refine test_last ?_
   refine aS R3 ((aD SC c).1 h7 hsc hv (hX.step (S1.trans (S2.trans S3))) R3 (q3.1 rfl)) fun u uv m4 s4 hu R4 S4 q4=>?_
   exact pZ (fT R4 SC.room (aY R3 S4 (aY R2 S3 hy)) hu h2 q4) fun b s5 q=>PT.trans S1 (PT.trans S2 (PT.trans S3 (PT.trans S4 (PT.plain q)))))⟩
 | .isc q a c=>⟨(fun{ex env vis sc loc Q X mem s E} hc hsc hv hX R h=>by
  refine qu hc fun l k' p' p h2=>?_
  refine wpAny_Compare1 (aS R ((aD SC a).1 h2 hsc hv hX R h) fun x xv m1 s1 hx R1 S1 q1=>?_) rfl
  exact su (bp S1 (qe R1.m hx q1))),(fun{ex env vis sc loc P X mem s E} hc hsc hv hX R h=>by
  refine qu hc fun l k' p' p h2=>?_
  refine wpAny_isTrue_Compare1 (aS R ((aD SC a).1 h2 hsc hv hX R h) fun x xv m1 s1 hx R1 S1 q1=>?_) rfl
  exact su (pZ (qe R1.m hx q1) fun b s2 q=>PT.trans S1 q))⟩
 | .call f args=>mP (fun{ex env vis sc loc Q X mem s E} hc hsc hv hX R h=>by
  refine nF hc fun x px es p fn h1 h2 h0 h3 h4 h5=>?_
  refine gf (SC.call f h1 fn h2:) fun a o fd hm ho hd hcall=>?_
  refine aX (cy R SC.ok hsc h3 (hm.1 h0) ?_)
  refine Calls.callWith_function (o:=o) (fd:=fd) ?_
  cases es with
  |nil=>exact absurd rfl h4
  |cons e0 er=>
   refine rwl (bK (bU h5 e0 (.head _))) ?_
   refine Calls.evalArgs_plain ?_
   refine rwb (bK (bU h5 e0 (.head _))) ?_
   refine KB (iu SC args h5 hsc hv hX R h) (fun vs s1 q=>?_) fun _ _ x=>x
   refine dJ q ?_;clear q;intro us m1 hr M1 S1 q1
   exact⟨⟨M1.stays _ _ ho,hd⟩,bp S1 (hcall A (.inl rfl) us vs Q X m1 s1 E (hX.step S1).ok q1 M1 hr)⟩) (fun{ex vis sc} h=>aW rfl h)
 | .attr o f=>mP (fun{ex env vis sc loc Q X mem s E} hc hsc hv hX R h=>by
  refine uk hc fun e1 p hf h1 h2=>?_
  refine wN h1 (aS R ((aD SC o).1 h2 hsc hv hX R h) fun x xv m1 s1 hx R1 S1 q1=>?_)
  exact bp S1 (uw R1 SC.est hx q1)) (fun{ex vis sc} h=>aW rfl h)
 | .meth o f args=>mP (fun{ex env vis sc loc Q X mem s E} hc hsc hv hX R h=>by
  refine oy hc fun e1 ap es p fn hok h1 h2 h3 h4 h5 h6 h7=>?_
  refine gf (SC.call f h1 fn h2:) fun a ob fd hm ho hd hcall=>?_
  refine aq (hm.2 h3:) fun hcl K=>?_
  refine mT K ?_;clear K;intro C' N mN K hf
  refine dy hok (bU h7) h5 (aS R ((aD SC o).1 h6 hsc hv hX R h) fun x xv m1 s1 hx R1 S1 q1=>fun pl=>?_)
  refine aq q1 ?_;clear q1;intro hi q1
  refine oE R1.m hx hi h4 K hf ho hcl ?_
  refine Calls.callWith_function (o:=ob) (fd:=fd) ?_
  cases es with
  |nil=>
   cases args with
   |cons _ _=>exact nb h7
   |nil=>exact PyProof.Rows.evalArgs_none ⟨⟨R1.m.stays _ _ ho,hd⟩,bp S1 (hcall A (.inl rfl) [x] [xv] Q X m1 s1 E (hX.step S1).ok q1 R1.m (.cons hx .nil))⟩
  |cons e0 er=>
   refine rwl (bK (bU h7 e0 (.head _))) ?_
   refine Calls.evalArgs_plain ?_
   refine rwb (bK (bU h7 e0 (.head _))) ?_
   refine KB (iu SC args h7 hsc hv (hX.step S1) R1 q1) (fun vs s2 q=>?_) fun _ _ x=>x
   refine dJ q ?_;clear q;intro us m2 hr M2 S2 q2
   exact⟨⟨M2.stays _ _ ho,hd⟩,bp (S1.trans S2) (hcall A (.inl rfl) (x::us) (xv::vs) Q X m2 s2 E (hX.step (S1.trans S2)).ok q2 M2 (.cons (aY R1 S2 hx) hr))⟩) (fun{ex vis sc} h=>aW rfl h)
 | .new f args=>mP (fun{ex env vis sc loc Q X mem s E} hc hsc hv hX R h=>by
  refine wM hc fun x px es p fn h1 h2 h3 h4 h5 h6 h7=>?_
  refine gf (SC.call f h1 fn h2:) fun a ob fd hm ho hd hcall=>?_
  refine aq (hm.2 h3:) fun hcl K=>?_
  refine mT K ?_;clear K;intro C' N mN K hf
  rw[h4] at hf
  refine aX (cy R SC.ok hsc h5 K.1 ?_)
  cases es with
  |nil=>exact absurd rfl h6
  |cons e0 er=>
   refine callWith_cls K.2.1 ?_ (fY (bU h7 e0 (.head _))) (nA fun e he=>bU h7 e (.tail _ he))
   refine KB (iu SC args h7 hsc hv hX R h) (fun vs s1 q=>?_) fun _ _ x=>x
   refine dJ q ?_;clear q;intro us m1 hr M1 S1 q1
   refine⟨M1.stays,bp S1 (xf M1 K hf ho hcl hr q1 fun x xs m2 s2 hT M2 S2 hr2=>?_)⟩
   exact hcall _ (.inr ⟨_,_,rfl⟩) (x::us) xs _ X m2 s2 E (jd.ok (A:=A.under _) (hX.step (S1.trans S2))) hT M2 hr2) (fun{ex vis sc} h=>aW rfl h)
 | .cut a i j=>mP (fun{ex env vis sc loc Q X mem s E} hc hsc hv hX R h=>by
  refine xk hc fun e1 k1 p1 k2 p2 p q h1=>?_
  refine Subscript_ (aS R ((aD SC a).1 h1 hsc hv hX R h) fun x xv m1 s1 hx R1 S1 q1=>?_)
  refine wpAny_Slice (wpAny_Constant_int (k:=k1) (pos:=p1) (wpAny_Constant_int (k:=k2) (pos:=p2) (KV ?_)))
  refine bp S1 ?_
  have R2:bx W env vis loc m1 {s1 with toks:=s1.toks+1+1}:=R1.step (R1.m.toks _) .refl
  exact wo (s:={s1 with toks:=s1.toks+1+1}) R2 hx q1) (fun{ex vis sc} h=>aW rfl h)
 | .b1 b a=>mP (fun{ex env vis sc loc Q X mem s E} hc hsc hv hX R h=>by
  cases hb:b.inner with
  |none=>
   refine zH hb hc fun x px e1 p h1 h2=>?_
   have he:=dw h2
   have ev:=fun(K:KC->Sem KC) (hK:∀v y m1 s1,aP W s1.heap v y->bx W env vis loc m1 s1->gj b v Q m1->KP (model W.prog W.w) A (K y) (PM W m1 s1 Q) E s1)=>
    aS (E:=E) R ((aD SC a).1 h2 hsc hv hX R h) (P:=fun y s1=>KP (model W.prog W.w) A (K y) (PM W mem s Q) E s1) fun v y m1 s1 hy R1 S1 q1=>bp S1 (hK v y m1 s1 hy R1 q1)
   cases b with
   |len=>exact aX (aI R SC.ok hsc h1 (by repeat (first|exact List.Mem.head _|refine List.Mem.tail _ ?_)) Boot.«len» (lU he (ev _ fun v y m1 s1 hy R1 q1=>fy R1 SC.room hb hy q1)))
   |all=>exact aX (aI R SC.ok hsc h1 (by repeat (first|exact List.Mem.head _|refine List.Mem.tail _ ?_)) Boot.«all» (lU he (ev _ fun v y m1 s1 hy R1 q1=>fy R1 SC.room hb hy q1)))
   |sum=>exact aX (aI R SC.ok hsc h1 (by repeat (first|exact List.Mem.head _|refine List.Mem.tail _ ?_)) Boot.«sum» (lU he (ev _ fun v y m1 s1 hy R1 q1=>fy R1 SC.room hb hy q1)))
   |minL=>exact aX (aI R SC.ok hsc h1 (by repeat (first|exact List.Mem.head _|refine List.Mem.tail _ ?_)) Boot.«min» (lU he (ev _ fun v y m1 s1 hy R1 q1=>fy R1 SC.room hb hy q1)))
   |list=>exact aX (aI R SC.ok hsc h1 (by repeat (first|exact List.Mem.head _|refine List.Mem.tail _ ?_)) Boot.«list» (iA he (ev _ fun v y m1 s1 hy R1 q1=>fy R1 SC.room hb hy q1)))
   |tuple=>exact aX (aI R SC.ok hsc h1 (by repeat (first|exact List.Mem.head _|refine List.Mem.tail _ ?_)) Boot.«tuple» (iA he (ev _ fun v y m1 s1 hy R1 q1=>fy R1 SC.room hb hy q1)))
   |sorted=>exact aX (aI R SC.ok hsc h1 (by repeat (first|exact List.Mem.head _|refine List.Mem.tail _ ?_)) Boot.«sorted» (lU he (ev _ fun v y m1 s1 hy R1 q1=>fy R1 SC.room hb hy q1)))
   |int=>exact aX (aI R SC.ok hsc h1 (by repeat (first|exact List.Mem.head _|refine List.Mem.tail _ ?_)) Boot.«int» (iA he (ev _ fun v y m1 s1 hy R1 q1=>fy R1 SC.room hb hy q1)))
   |lrange=>injection hb
   |lrev=>injection hb
  |some f=>
   refine xA hb hc fun x px y py e1 p p' h1 h2 h3=>?_
   have he:=dw h3
   have hne:∀a q,(Expr.Call (.Name y py) [e1] [] p')≠ .Starred a q:=fun a q e=>by exact PySem.Expr.noConfusion e
   cases b with
   |lrange=>
    cases hb
    refine aX (aI R SC.ok hsc h1 (by repeat (first|exact List.Mem.head _|refine List.Mem.tail _ ?_)) Boot.«list» (iA hne ?_))
    refine aX (aI R SC.ok hsc h2 (by repeat (first|exact List.Mem.head _|refine List.Mem.tail _ ?_)) Boot.«range» (iA he ?_))
    refine aS R ((aD SC a).1 h3 hsc hv hX R h) fun v yv m1 s1 hy R1 S1 q1=>?_
    refine bq q1 ?_;clear q1;intro nn e53r0_1 hn hf
    subst e53r0_1
    refine aO hy.int fun t e54r0_1=>?_
    subst e54r0_1
    exact KB (qK R1 SC.room hn hf) (fun r s2 q=>bp S1 q) fun _ _ x=>x
   |lrev=>
    cases hb
    refine aX (aI R SC.ok hsc h1 (by repeat (first|exact List.Mem.head _|refine List.Mem.tail _ ?_)) Boot.«list» (iA hne ?_))
    refine aX (aI R SC.ok hsc h2 (by repeat (first|exact List.Mem.head _|refine List.Mem.tail _ ?_)) boot_reversed (iA he ?_))
    refine aS R ((aD SC a).1 h3 hsc hv hX R h) fun v yv m1 s1 hy R1 S1 q1=>?_
    refine dJ q1 ?_;clear q1;intro a' xs e55r0_2 em hl hf
    subst e55r0_2
    obtain rfl:=hy.ref
    exact KB (ud R1 SC.room em hl hf) (fun r s2 q=>bp S1 q) fun _ _ x=>x
   |len=>injection hb
   |all=>injection hb
   |sum=>injection hb
   |minL=>injection hb
   |list=>injection hb
   |tuple=>injection hb
   |sorted=>injection hb
   |int=>injection hb) (fun{ex vis sc} h=>aW rfl h)
 | .isinst a c=>mP (fun{ex env vis sc loc Q X mem s E} hc hsc hv hX R h=>by
  refine rd hc fun x px e1 y py p h1 h2 h3=>?_
  refine aX (aI R SC.ok hsc h1 (by repeat (first|exact List.Mem.head _|refine List.Mem.tail _ ?_)) Boot.«isinstance» (uK (dw h2) (fun a q e=>by exact PySem.Expr.noConfusion e) ?_))
  refine aS R ((aD SC a).1 h2 hsc hv hX R h) fun v yv m1 s1 hy R1 S1 q1=>?_
  refine af q1 ?_;clear q1;intro b hA q1
  refine Fv (AW h3:) fun hcl hg hin hw=>?_
  exact aI R1 SC.ok hsc hg hin hw (bp S1 (se R1 hcl hy hA q1))) (fun{ex vis sc} h=>aW rfl h)
 | .append o a=>mP (fun{ex env vis sc loc Q X mem s E} hc hsc hv hX R h=>by
  refine qX hc fun e1 ap e2 p hok h1 h2=>?_
  refine dy hok (vU (dw h2)) (by decide:1<29) ?_
  refine aS R ((aD SC o).1 h1 hsc hv hX R h) fun v yv m1 s1 hy R1 S1 q1 pl=>?_
  refine aq q1 ?_;clear q1;intro w60r0_0 q1
  refine cG w60r0_0 ?_;clear w60r0_0;intro a1 xs1 e5r1_2 e1m
  subst e5r1_2
  obtain rfl:=hy.ref
  refine du R1 e1m PySem.slot_list_append PySem.F.type_list_append (sd (dw h2) ?_)
  refine aS R1 ((aD SC a).1 h2 hsc hv (hX.step S1) R1 q1) fun w wv m2 s2 hw R2 S2 q2=>?_
  refine dJ q2 ?_;clear q2;intro _ xs e e2m hl hq
  cases e
  exact bp (S1.trans S2) (qL R2 e2m hl hw hq)) (fun{ex vis sc} h=>aW rfl h)
 | .pop o i=>mP (fun{ex env vis sc loc Q X mem s E} hc hsc hv hX R h=>by
  refine xy hc fun e1 ap es p hok h1 h2 hle=>?_
  cases i with
  |nil=>
   obtain rfl:=il h2
   refine dy hok (fun _ he=>nomatch he) (by decide:0<29) ?_
   refine aS R ((aD SC o).1 h1 hsc hv hX R h) fun v yv m1 s1 hy R1 S1 q1 pl=>?_
   refine aq q1 ?_;clear q1;intro w63r0_0 q1
   refine cG w63r0_0 ?_;clear w63r0_0;intro a1 xs1 e6r1_2 e1m
   subst e6r1_2
   obtain rfl:=hy.ref
   refine DU q1 ?_;clear q1;intro _ xs k j y e e2m hl hk hp hy' hq
   cases e
   rcases hk with ⟨_,rfl⟩|hk
   ·exact du R1 e1m PySem.F.slot_list_pop PySem.F.type_list_pop (CW (bp S1 (t7 R1 e2m hl hp hy' hq)))
   ·injection hk
  |cons i1 ir=>
   refine bB (nH h2:) fun x r e0 h3 h4=>?_
   subst e0
   cases ir with
   |cons _ _=>obtain⟨x2,r2,rfl,_,_⟩:=nH h4;simp at hle
   |nil=>
    obtain rfl:=il h4
    refine dy hok (vU (dw h3)) (by decide:1<29) ?_
    refine aS R ((aD SC o).1 h1 hsc hv hX R h) fun v yv m1 s1 hy R1 S1 q1 pl=>?_
    refine aq q1 ?_;clear q1;intro w66r0_0 q1
    refine cG w66r0_0 ?_;clear w66r0_0;intro a1 xs1 e7r1_2 e1m
    subst e7r1_2
    obtain rfl:=hy.ref
    refine du R1 e1m PySem.F.slot_list_pop PySem.F.type_list_pop (sd (dw h3) ?_)
    refine aS R1 ((aD SC i1).1 h3 hsc hv (hX.step S1) R1 q1) fun w wv m2 s2 hw R2 S2 q2=>?_
    refine DU q2 ?_;clear q2;intro _ xs k j y e e2m hl hk hp hy' hq
    cases e
    rcases hk with ⟨hk,_⟩|hk
    ·injection hk
    ·cases hk
     refine aO hw.int fun t e68r0_1=>?_
     subst e68r0_1
     exact bp (S1.trans S2) (wj R2 e2m hl hp hy' hq)) (fun{ex vis sc} h=>aW rfl h)
 | .index o a=>mP (fun{ex env vis sc loc Q X mem s E} hc hsc hv hX R h=>by
  refine sP hc fun e1 ap e2 p hok h1 h2=>?_
  refine dy hok (vU (dw h2)) (by decide:1<29) ?_
  refine aS R ((aD SC o).1 h1 hsc hv hX R h) fun v yv m1 s1 hy R1 S1 q1 pl=>?_
  refine aq q1 ?_;clear q1;intro w70r0_0 q1
  refine cG w70r0_0 ?_;clear w70r0_0;intro a1 xs1 e8r1_2 e1m
  subst e8r1_2
  obtain rfl:=hy.ref
  refine du R1 e1m PySem.F.slot_list_index PySem.F.type_list_index (sd (dw h2) ?_)
  refine aS R1 ((aD SC a).1 h2 hsc hv (hX.step S1) R1 q1) fun w wv m2 s2 hw R2 S2 q2=>?_
  refine je q2 ?_;clear q2;intro _ is i e e2m e71r0_5 hi hl hq
  subst e71r0_5
  cases e
  refine aO hw.int fun t e72r0_1=>?_
  subst e72r0_1
  exact bp (S1.trans S2) (tP R2 e2m hi hl hq)) (fun{ex vis sc} h=>aW rfl h)
 | .sub a i=>mP (fun{ex env vis sc loc Q X mem s E} hc hsc hv hX R h=>by
  refine w9 hc fun e1 e2 p h1 h2=>?_
  refine Subscript_ (aS R ((aD SC a).1 h1 hsc hv hX R h) fun x xv m1 s1 hx R1 S1 q1=>?_)
  refine aS R1 ((aD SC i).1 h2 hsc hv (hX.step S1) R1 q1) fun y yv m2 s2 hy R2 S2 q2=>?_
  exact bp (S1.trans S2) (p5 R2 (aY R1 S2 hx) hy q2 (rt h2))) (fun{ex vis sc} h=>aW rfl h)
 | .slice up a i=>mP (fun{ex env vis sc loc Q X mem s E} hc hsc hv hX R h=>by
  refine tW hc fun e1 e2 p q h1 h2=>?_
  refine Subscript_ (aS R ((aD SC a).1 h1 hsc hv hX R h) fun x xv m1 s1 hx R1 S1 q1=>?_)
  refine uQ (aS R1 ((aD SC i).1 h2 hsc hv (hX.step S1) R1 q1) fun y yv m2 s2 hy R2 S2 q2=>?_)
  exact bp (S1.trans S2) (sO R2 (aY R1 S2 hx) hy q2)) (fun{ex vis sc} h=>aW rfl h)
 | .mm mx a b=>mP (fun{ex env vis sc loc Q X mem s E} hc hsc hv hX R h=>by
  refine x9 hc fun x px e1 e2 p h0 h1 h2=>?_
  have go:KP (model W.prog W.w) A (callWith p (.builtin (rv mx)) [] (backTo p (starEach [e1,e2] env)) []) (PM W mem s Q) E s:=by
   refine uK (dw h1) (dw h2) ?_
   refine aS R ((aD SC a).1 h1 hsc hv hX R h) fun u uv m1 s1 hu R1 S1 q1=>?_
   refine aS R1 ((aD SC b).1 h2 hsc hv (hX.step S1) R1 q1) fun y yv m2 s2 hy R2 S2 q2=>?_
   exact bp (S1.trans S2) (zd R2 SC.room (aY R1 S2 hu) hy q2)
  cases mx with
  |true=>exact aX (aI R SC.ok hsc h0 (by repeat (first|exact List.Mem.head _|refine List.Mem.tail _ ?_)) Boot.«max» go)
  |false=>exact aX (aI R SC.ok hsc h0 (by repeat (first|exact List.Mem.head _|refine List.Mem.tail _ ?_)) Boot.«min» go)) (fun{ex vis sc} h=>aW rfl h)
 | .lst es=>mP (fun{ex env vis sc loc Q X mem s E} hc hsc hv hX R h=>by
  refine wu hc fun xs p h1=>?_
  refine List_ (KB (iu SC es h1 hsc hv hX R h) (fun vs s1 q=>?_) fun _ _ x=>x)
  refine dJ q ?_;clear q;intro us m1 hr M1 S1 q1
  exact bp S1 (eZ (R.step M1 S1) hr q1)) (fun{ex vis sc} h=>aW rfl h)
 | .tup es=>mP (fun{ex env vis sc loc Q X mem s E} hc hsc hv hX R h=>by
  refine wA hc fun xs k p h1=>?_
  refine Tuple_ (KB (iu SC es h1 hsc hv hX R h) (fun vs s1 q=>?_) fun _ _ x=>x)
  refine dJ q ?_;clear q;intro us m1 hr M1 S1 q1
  exact bp S1 (nE (R.step M1 S1) hr q1.1 q1.2)) (fun{ex vis sc} h=>aW rfl h)
 | .comp elt t k src cond=>mP (fun{ex env vis sc loc Q X mem s E} hc hsc hv hX R h=>by
  refine oG hc fun elt' target iter ifs csc p new e1 w80r0_9 h1 h2 h3 h4 h5 h6=>?_
  refine aq w80r0_9 ?_;clear w80r0_9;intro hT hk2
  have hi:=(bQ h1).2.2.2.2.2.2
  have hv':=jG hT hv hi
  refine sC (use:=none) SC.room.handled SC.ok R hsc h1 h2 hT hk2 hv hi (dw h4) h3 ((aD SC src).1 h4 hsc hv hX R h) (fun C' l P mem' s' E' R' hb=>oU SC cond h6 iJ hv' .no R' hb) (fun C' l P mem' s' E' R' he=>(aD SC elt).1 h5 iJ hv' .no R' he) fun D C' s' hl=>?_
  refine JC (id hl:) fun mem' ys vs m q=>?_
  exact⟨m,q.2.2.2.1,fun h' hs=>hl.done R hs⟩) (fun{ex vis sc} h=>aW rfl h)
theorem vi{W:Cx}{FT:Nat->Option Fn}{ids:List Nat}{G:String->Option ae}{n:Nat}{A:Around}{C:bb}(SC:A1 W FT ids G n A C):∀(es:fC) {k:Bool} {xs:List KX} {p:Pos} {env:Env} {vis:List (Nat×Str)} {sc:Scope} {loc:aL} {P:Bool->Mem->Prop} {X:Nat->Mem->Prop} {mem:Mem} {s:Kv} {E:KC->Kv->Prop},
  eH FT ids vis sc es xs=true->xs≠ []->dj sc env->di vis->jd W A mem s X->bx W env vis loc mem s->mM C G X k es loc P mem->KP (model W.prog W.w) A (eval (.BoolOp (isAnd k) xs p) env) (PM W mem s (oO P)) E s
 | .nil,k,xs,p,env,vis,sc,loc,P,X,mem,s,E,hc,hne,hsc,hv,hX,R,h=>absurd (il hc) hne
 | .cons e es,k,xs,p,env,vis,sc,loc,P,X,mem,s,E,hc,hne,hsc,hv,hX,R,h=>by
  refine gg hc fun x r h1 h2=>?_
  cases r with
  |nil=>
   have:es= .nil:=by
    cases es with
    |nil=>rfl
    |cons _ _=>obtain⟨_,_,q,_⟩:=nH h2;injection q
   subst this
   refine KB (?_:KP (model W.prog W.w) A _ (PM W mem s (oO (xP k (mM C G X k .nil loc P) P))) E s) (fun y s1 q=>PM.mono (fun _ _ q=>zX (fun _ _ q=>AK id q) q) q) fun _ _ x=>x
   cases k
   ·exact BoolOp_one ((aD SC e).1 h1 hsc hv hX R h)
   ·exact BoolOp_one ((aD SC e).1 h1 hsc hv hX R h)
  |cons x2 r=>
   cases k with
   |true=>
    refine BoolOp_and (KB ((aD SC e).1 h1 hsc hv hX R h) (fun y s1 q=>?_) fun _ _ x=>x)
    obtain⟨b,rfl,m1,M1,S1,q1⟩:=q.test
    refine wpAny_truthy_bool ?_
    cases b with
    |true=>
     exact bp S1 (vi SC es (k:=true) h2 (by simp) hsc hv (hX.step S1) (R.step M1 S1) (q1.1 rfl))
    |false=>
     exact⟨.bool false,m1,.mkBool,M1,S1,_,rfl,q1.2 rfl⟩
   |false=>
    refine BoolOp_or (KB ((aD SC e).1 h1 hsc hv hX R h) (fun y s1 q=>?_) fun _ _ x=>x)
    obtain⟨b,rfl,m1,M1,S1,q1⟩:=q.test
    refine wpAny_truthy_bool ?_
    cases b with
    |true=>
     exact⟨.bool true,m1,.mkBool,M1,S1,_,rfl,q1.2 rfl⟩
    |false=>
     exact bp S1 (vi SC es (k:=false) h2 (by simp) hsc hv (hX.step S1) (R.step M1 S1) (q1.1 rfl))
theorem si{W:Cx}{FT:Nat->Option Fn}{ids:List Nat}{G:String->Option ae}{n:Nat}{A:Around}{C:bb}(SC:A1 W FT ids G n A C):∀(es:fC) {k:Bool} {xs:List KX} {p:Pos} {env:Env} {vis:List (Nat×Str)} {sc:Scope} {loc:aL} {P:Bool->Mem->Prop} {X:Nat->Mem->Prop} {mem:Mem} {s:Kv} {E:KC->Kv->Prop} {w:Sem KC},
  eH FT ids vis sc es xs=true->dj sc env->di vis->jd W A mem s X->bx W env vis loc mem s->mM C G X k es loc P mem->KP (model W.prog W.w) A (isTrue (.BoolOp (isAnd k) xs p) env w) (PT W mem s P) E s
 | .nil,k,xs,p,env,vis,sc,loc,P,X,mem,s,E,w,hc,hsc,hv,hX,R,h=>by
  refine rwl (il hc) ?_
  cases k
  ·exact isTrue_or_nil ⟨mem,R.m,.refl,h⟩
  ·exact isTrue_and_nil ⟨mem,R.m,.refl,h⟩
 | .cons e es,k,xs,p,env,vis,sc,loc,P,X,mem,s,E,w,hc,hsc,hv,hX,R,h=>by
  refine gg hc fun x r h1 h2=>?_
  cases k with
  |true=>
   refine isTrue_and (KB ((aD SC e).2 h1 hsc hv hX R h) (fun b s1 q=>?_) fun _ _ x=>x)
   refine bq q ?_;clear q;intro m1 M1 S1 q1
   cases b with
   |true=>
    exact KB (si SC es (k:=true) h2 hsc hv (hX.step S1) (R.step M1 S1) (q1.1 rfl)) (fun b s2 q=>PT.trans S1 q) fun _ _ x=>x
   |false=>
    exact⟨m1,M1,S1,q1.2 rfl⟩
  |false=>
   refine isTrue_or (KB ((aD SC e).2 h1 hsc hv hX R h) (fun b s1 q=>?_) fun _ _ x=>x)
   refine bq q ?_;clear q;intro m1 M1 S1 q1
   cases b with
   |true=>
    exact⟨m1,M1,S1,q1.2 rfl⟩
   |false=>
    exact KB (si SC es (k:=false) h2 hsc hv (hX.step S1) (R.step M1 S1) (q1.1 rfl)) (fun b s2 q=>PT.trans S1 q) fun _ _ x=>x
theorem oU{W:Cx}{FT:Nat->Option Fn}{ids:List Nat}{G:String->Option ae}{n:Nat}{A:Around}{C:bb}(SC:A1 W FT ids G n A C):∀(es:fC) {xs:List KX} {env:Env} {vis:List (Nat×Str)} {sc:Scope} {loc:aL} {P:Bool->Mem->Prop} {X:Nat->Mem->Prop} {mem:Mem} {s:Kv} {E:KC->Kv->Prop},
  eH FT ids vis sc es xs=true->dj sc env->di vis->jd W A mem s X->bx W env vis loc mem s->mM C G X true es loc P mem->
   KP (model W.prog W.w) A (forIn xs true fun c r=>if r=true then do let ok<-isTrue c env (eval c env);pure (ForInStep.yield ok) else pure (ForInStep.yield r)) (PT W mem s P) E s
 | .nil,xs,env,vis,sc,loc,P,X,mem,s,E,hc,hsc,hv,hX,R,h=>by
  refine rwl (il hc) ?_
  exact wpAny_tests_nil ⟨mem,R.m,.refl,h⟩
 | .cons e es,xs,env,vis,sc,loc,P,X,mem,s,E,hc,hsc,hv,hX,R,h=>by
  refine gg hc fun x r h1 h2=>?_
  refine rwl (Ny ..) ?_
  simp only[if_true]
  refine Kx (Kx (KB ((aD SC e).2 h1 hsc hv hX R h) (fun b s1 q=>KV ?_) fun _ _ x=>x))
  refine bq q ?_;clear q;intro m1 M1 S1 q1
  cases b with
  |true=>
   exact KB (oU SC es h2 hsc hv (hX.step S1) (R.step M1 S1) (q1.1 rfl)) (fun b s2 q=>PT.trans S1 q) fun _ _ x=>x
  |false=>
   exact i0 ⟨m1,M1,S1,q1.2 rfl⟩ r
theorem iu{W:Cx}{FT:Nat->Option Fn}{ids:List Nat}{G:String->Option ae}{n:Nat}{A:Around}{C:bb}(SC:A1 W FT ids G n A C):∀(es:fC) {xs:List KX} {p:Pos} {env:Env} {vis:List (Nat×Str)} {sc:Scope} {loc:aL} {P:List ae->Mem->Prop} {X:Nat->Mem->Prop} {mem:Mem} {s:Kv} {E:KC->Kv->Prop},
  eH FT ids vis sc es xs=true->dj sc env->di vis->jd W A mem s X->bx W env vis loc mem s->lx C G X es loc P mem->
   KP (model W.prog W.w) A (spliced (backTo p (starEach xs env))) (fun vs s'=>∃us mem',aJ W s'.heap us vs/\bC W mem' s'/\aM fb mem s.heap mem' s'.heap/\P us mem') E s
 | .nil,xs,p,env,vis,sc,loc,P,X,mem,s,E,hc,hsc,hv,hX,R,h=>by
  refine rwl (il hc) ?_
  exact Calls.spliced_nil ⟨[],mem,.nil,R.m,.refl,h⟩
 | .cons e es,xs,p,env,vis,sc,loc,P,X,mem,s,E,hc,hsc,hv,hX,R,h=>by
  refine gg hc fun x r h1 h2=>?_
  refine rwl (bK (dw h1)) ?_
  refine Calls.spliced_cons (aS R ((aD SC e).1 h1 hsc hv hX R h) fun v yv m1 s1 hy R1 S1 q1=>?_)
  refine KB (iu SC es h2 hsc hv (hX.step S1) R1 q1) (fun vs s2 q=>?_) fun _ _ x=>x
  refine dJ q ?_;clear q;intro us m2 hr M2 S2 q2
  exact⟨v::us,m2,.cons (aY R1 S2 hy) hr,M2,S1.trans S2,q2⟩
end
end TD.Internal
namespace TD.Internal
open PySem PyProof.Rows
noncomputable def eF (e:KX):Bool:=!(e.ctorIdx==8||(e.ctorIdx==9||e.ctorIdx==10))
noncomputable def jn (sc:Scope) (x:Str):Bool:=sc.names.lookup x==some .local||sc.names.lookup x==some .cell
noncomputable def cK (vis:List (Nat×Str)) (sc:Scope) (i:Nat) (x:Str):Bool:=vis.lookup i==some x&&jn sc x
noncomputable def vu (e:Mc) (k:KX->Bool):Bool:=mS e.ctorIdx 24 fun h=>Stmt.Expr.elim (motive_2:=fun _=>Bool) e h fun v _=>k v
@[elab_as_elim] theorem jb{e:Mc}{k:KX->Bool}(h:vu e k=true){P:Mc->Prop}(kk:∀v p,k v=true->P (.Expr v p)):P e:=by
 obtain⟨hc,h⟩:=aN h
 exact Stmt.Expr.elim (motive_2:=fun e=>∀hc:e.ctorIdx=24,(Stmt.Expr.elim (motive_2:=fun _=>Bool) e hc fun v _=>k v)=true->P e) e hc (fun v p _ h=>kk v p h) hc h
noncomputable def BH (e:Mc) (k:(Option KX)->Bool):Bool:=mS e.ctorIdx 3 fun h=>Stmt.Return.elim (motive_2:=fun _=>Bool) e h fun v _=>k v
@[elab_as_elim] theorem tE{e:Mc}{k:(Option KX)->Bool}(h:BH e k=true){P:Mc->Prop}(kk:∀v p,k v=true->P (.Return v p)):P e:=by
 obtain⟨hc,h⟩:=aN h
 exact Stmt.Return.elim (motive_2:=fun e=>∀hc:e.ctorIdx=3,(Stmt.Return.elim (motive_2:=fun _=>Bool) e hc fun v _=>k v)=true->P e) e hc (fun v p _ h=>kk v p h) hc h
noncomputable def BD (e:Mc) (k:(List KX)->KX->Bool):Bool:=mS e.ctorIdx 5 fun h=>Stmt.Assign.elim (motive_2:=fun _=>Bool) e h fun ts v _=>k ts v
@[elab_as_elim] theorem sq{e:Mc}{k:(List KX)->KX->Bool}(h:BD e k=true){P:Mc->Prop}(kk:∀ts v p,k ts v=true->P (.Assign ts v p)):P e:=by
 obtain⟨hc,h⟩:=aN h
 exact Stmt.Assign.elim (motive_2:=fun e=>∀hc:e.ctorIdx=5,(Stmt.Assign.elim (motive_2:=fun _=>Bool) e hc fun ts v _=>k ts v)=true->P e) e hc (fun ts v p _ h=>kk ts v p h) hc h
noncomputable def Il (e:Mc) (k:KX->(List Mc)->(List Mc)->Bool):Bool:=mS e.ctorIdx 12 fun h=>Stmt.If.elim (motive_2:=fun _=>Bool) e h fun a b o _=>k a b o
@[elab_as_elim] theorem qI{e:Mc}{k:KX->(List Mc)->(List Mc)->Bool}(h:Il e k=true){P:Mc->Prop}(kk:∀a b o p,k a b o=true->P (.If a b o p)):P e:=by
 obtain⟨hc,h⟩:=aN h
 exact Stmt.If.elim (motive_2:=fun e=>∀hc:e.ctorIdx=12,(Stmt.If.elim (motive_2:=fun _=>Bool) e hc fun a b o _=>k a b o)=true->P e) e hc (fun a b o p _ h=>kk a b o p h) hc h
noncomputable def Bz (e:Mc) (k:KX->KX->(List Mc)->(List Mc)->Bool):Bool:=mS e.ctorIdx 9 fun h=>Stmt.For.elim (motive_2:=fun _=>Bool) e h fun t i b o _=>k t i b o
@[elab_as_elim] theorem sk{e:Mc}{k:KX->KX->(List Mc)->(List Mc)->Bool}(h:Bz e k=true){P:Mc->Prop}(kk:∀t i b o p,k t i b o=true->P (.For t i b o p)):P e:=by
 obtain⟨hc,h⟩:=aN h
 exact Stmt.For.elim (motive_2:=fun e=>∀hc:e.ctorIdx=9,(Stmt.For.elim (motive_2:=fun _=>Bool) e hc fun t i b o _=>k t i b o)=true->P e) e hc (fun t i b o p _ h=>kk t i b o p h) hc h
noncomputable def vo (e:Mc) (k:KX->(List Mc)->(List Mc)->Bool):Bool:=mS e.ctorIdx 11 fun h=>Stmt.While.elim (motive_2:=fun _=>Bool) e h fun a b o _=>k a b o
@[elab_as_elim] theorem oX{e:Mc}{k:KX->(List Mc)->(List Mc)->Bool}(h:vo e k=true){P:Mc->Prop}(kk:∀a b o p,k a b o=true->P (.While a b o p)):P e:=by
 obtain⟨hc,h⟩:=aN h
 exact Stmt.While.elim (motive_2:=fun e=>∀hc:e.ctorIdx=11,(Stmt.While.elim (motive_2:=fun _=>Bool) e hc fun a b o _=>k a b o)=true->P e) e hc (fun a b o p _ h=>kk a b o p h) hc h
noncomputable def vZ (e:Mc) (k:(Option KX)->(Option KX)->Bool):Bool:=mS e.ctorIdx 16 fun h=>Stmt.Raise.elim (motive_2:=fun _=>Bool) e h fun x c _=>k x c
@[elab_as_elim] theorem pg{e:Mc}{k:(Option KX)->(Option KX)->Bool}(h:vZ e k=true){P:Mc->Prop}(kk:∀x c p,k x c=true->P (.Raise x c p)):P e:=by
 obtain⟨hc,h⟩:=aN h
 exact Stmt.Raise.elim (motive_2:=fun e=>∀hc:e.ctorIdx=16,(Stmt.Raise.elim (motive_2:=fun _=>Bool) e hc fun x c _=>k x c)=true->P e) e hc (fun x c p _ h=>kk x c p h) hc h
noncomputable def yV (st:Mc) (k:KX->Bool):Bool:=BH st fun v=>c0 v k
noncomputable def uZ (st:Mc) (k:KX->KX->Bool):Bool:=BD st fun ts v=>ig ts fun t=>k t v
noncomputable def DF (st:Mc) (k:KX->KX->List Mc->Bool):Bool:=Bz st fun t i b o=>o.isEmpty&&k t i b
noncomputable def yx (st:Mc) (k:KX->List Mc->Bool):Bool:=vo st fun a b o=>o.isEmpty&&k a b
noncomputable def C0 (st:Mc) (k:KX->Bool):Bool:=vZ st fun e c=>c.isNone&&c0 e k
@[elab_as_elim] theorem iH{st:Mc}{k:KX->Bool}(h:yV st k=true){P:Mc->Prop}(kk:∀v p,k v=true->P (.Return (some v) p)):P st:=by
 refine tE h ?_;clear h;intro v p h
 refine cQ h ?_;clear h;intro x h
 exact kk x p h
@[elab_as_elim] theorem eV{st:Mc}{k:KX->KX->Bool}(h:uZ st k=true){P:Mc->Prop}(kk:∀t v p,k t v=true->P (.Assign [t] v p)):P st:=by
 refine sq h ?_;clear h;intro ts v p h
 refine bc h ?_;clear h;intro x h
 exact kk x v p h
@[elab_as_elim] theorem u4{st:Mc}{k:KX->KX->List Mc->Bool}(h:DF st k=true){P:Mc->Prop}(kk:∀t i b p,k t i b=true->P (.For t i b [] p)):P st:=by
 refine sk h ?_;clear h;intro t i b o p h
 cases o with
 |nil=>exact kk t i b p h
 |cons _ _=>exact nb h
@[elab_as_elim] theorem qT{st:Mc}{k:KX->List Mc->Bool}(h:yx st k=true){P:Mc->Prop}(kk:∀a b p,k a b=true->P (.While a b [] p)):P st:=by
 refine oX h ?_;clear h;intro a b o p h
 cases o with
 |nil=>exact kk a b p h
 |cons _ _=>exact nb h
noncomputable def ze (c:Nat):String:=if c=5 then "ValueError" else dA c
noncomputable def C4 (c:Nat):Bool:=c==5||(Nat.ble 7 c&&Nat.ble c 14)
noncomputable def tf (vis:List (Nat×Str)) (sc:Scope) (i:Nat) (e:KX):Bool:=gR e fun x=>vis.lookup i==some x&&(nI sc x&&gK x)
noncomputable def u3 (sc:Scope) (c:ie) (e:KX):Bool:=gR e fun y=>C4 c.code&&bW sc (ze c.code) y
noncomputable def rH (vis:List (Nat×Str)) (sc:Scope) (i:Nat) (c:ie) (e:KX):Bool:=fF e fun x es=>bW sc "isinstance" x&&vh es fun e1 e2=>tf vis sc i e1&&u3 sc c e2
noncomputable def so (vis:List (Nat×Str)) (sc:Scope) (i:Nat):List ie->List KX->Bool
 | [],l=>l.isEmpty
 |c::cs,l=>match l with|e::es=>rH vis sc i c e&&so vis sc i cs es| []=>false
noncomputable def vW:List String->List KX->Bool
 | [],l=>l.isEmpty
 |w::ws,l=>match l with|e::es=>eo e (fun c=>c== .str (Str.ofString w))&&vW ws es| []=>false
noncomputable def zI {α:Type} (xs:List α) (k:α->α->α->α->α->Bool):Bool:=match xs with| [a,b,c,d,e]=>k a b c d e|_=>false
@[elab_as_elim] theorem th{α:Type}{xs:List α}{k:α->α->α->α->α->Bool}(h:zI xs k=true){P:List α->Prop}(kk:∀a b c d e,k a b c d e=true->P ([a,b,c,d,e])):P xs:=by
 unfold zI at h
 split at h
 ·exact kk _ _ _ _ _ h
 ·exact Bool.noConfusion h
section chk
variable(vis:List (Nat×Str))(sc:Scope)(i j q:Nat)
noncomputable def Bw (cs:List ie) (st:Mc):Bool:=uZ st fun t v=>gR t (fun x=>cK vis sc j x)&&lb v fun xs=>so vis sc i cs xs
noncomputable def zh (cs:List ie) (st:Mc):Bool:=uZ st fun t v=>gR t (fun x=>cK vis sc j x)&&wk v fun l o r=>(o== .Add&&tf vis sc j l)&&lb r fun xs=>so vis sc i cs xs
noncomputable def GA (e:KX):Bool:=wm e fun l os rs=>ig os (fun o=>o== .NotEq)&&(ig rs (fun r=>eo r fun c=>c== .int 1)&&fF l fun x es=>bW sc "len" x&&ig es fun e=>aA (fun _=>none) [] vis sc (.comp (.nm q) (.one q) .plain (.nm j) (.cons (.nm q) .nil)) e)
noncomputable def BJ (st:Mc):Bool:=Il st fun a _ o=>o.isEmpty&&nj a fun op vs=>op== .Or&&vh vs fun v1 v2=>C6 v1 (fun o x=>o== .Not&&rH vis sc i .ValueError x)&&GA vis sc j q v2
noncomputable def Bu (ws:List String) (w:String) (n:Nat) (st:Mc):Bool:=yV st fun v=>uU v fun a b=>wk a (fun l o r=>(o== .Add&&lb l (fun xs=>vW ws xs))&&wk r fun l2 o2 r2=>(o2== .Mult&&lb l2 (fun xs=>vW [w] xs))&&eo r2 fun c=>c== .int n)&&tT b "index" fun o es=>tf vis sc j o&&ig es fun e=>eo e fun c=>c== .bool true
noncomputable def wa (cs ds es:List ie) (ws:List String) (w:String) (n:Nat) (l:List Mc):Bool:=zI l fun s1 s2 s3 s4 s5=>Bw vis sc i j cs s1&&(zh vis sc i j ds s2&&(zh vis sc i j es s3&&(BJ vis sc i j q s4&&Bu vis sc j ws w n s5)))
end chk
noncomputable def BI (e:Mc) (k:(List Mc)->(List ExceptHandler)->(List Mc)->(List Mc)->Bool):Bool:=mS e.ctorIdx 17 fun h=>Stmt.Try.elim (motive_2:=fun _=>Bool) e h fun b hs o f _=>k b hs o f
@[elab_as_elim] theorem sL{e:Mc}{k:(List Mc)->(List ExceptHandler)->(List Mc)->(List Mc)->Bool}(h:BI e k=true){P:Mc->Prop}(kk:∀b hs o f p,k b hs o f=true->P (.Try b hs o f p)):P e:=by
 obtain⟨hc,h⟩:=aN h
 exact Stmt.Try.elim (motive_2:=fun e=>∀hc:e.ctorIdx=17,(Stmt.Try.elim (motive_2:=fun _=>Bool) e hc fun b hs o f _=>k b hs o f)=true->P e) e hc (fun b hs o f p _ h=>kk b hs o f p h) hc h
noncomputable def BB (e:ExceptHandler) (k:KX->Str->List Mc->Bool):Bool:=match e with
 | .ExceptHandler t n b _=>c0 t fun t=>c0 n fun n=>!b.isEmpty&&k t n b
@[elab_as_elim] theorem sA{e:ExceptHandler}{k:KX->Str->List Mc->Bool}(h:BB e k=true){P:ExceptHandler->Prop}(kk:∀t n b₀ b p,k t n (b₀::b)=true->P (.ExceptHandler (some t) (some n) (b₀::b) p)):P e:=by
 obtain⟨t,n,b,p⟩:=e
 refine cQ h ?_;clear h;intro t h
 refine cQ h ?_;clear h;intro n h
 refine aj h ?_;clear h;intro h1 h
 cases b with
 |nil=>exact nb h1
 |cons b₀ b=>exact kk t n b₀ b p h
noncomputable def uJ (e:KX):Bool:=!(e.ctorIdx==25)
mutual
noncomputable def lW (FT:Nat->Option Fn) (ids:List Nat) (vis:List (Nat×Str)) (sc:Scope):St->Mc->Bool
 | .expr e,st=>vu st fun v=>eF v&&aA FT ids vis sc e v
 | .ret e,st=>yV st fun v=>aA FT ids vis sc e v
 | .asg i e,st=>uZ st fun t v=>gR t fun x=>cK vis sc i x&&aA FT ids vis sc e v
 | .asgTwo i j e,st=>uZ st fun t v=>c0 (i7 (.two i j) t) fun new=>new.all (fun q=>cK vis sc q.1 q.2)&&(eF v&&(uJ v&&aA FT ids vis sc e v))
 | .asgSub o i e,st=>uZ st fun t v=>uU t fun e1 e2=>eF v&&(aA FT ids vis sc e v&&(aA FT ids vis sc o e1&&aA FT ids vis sc i e2))
 | .ifs c t e,st=>Il st fun a b o=>aA FT ids vis sc c a&&(gA FT ids vis sc t b&&gA FT ids vis sc e o)
 | .fors t k src b,st=>DF st fun target iter body=>c0 (i7 t target) fun new=>(new.all (fun q=>cK vis sc q.1 q.2)&&k.two t)&&(eK iter&&(nY sc k.call iter (fun e1=>aA FT ids vis sc src e1)&&gA FT ids vis sc b body))
 | .whiles c b,st=>yx st fun a body=>aA FT ids vis sc c a&&gA FT ids vis sc b body
 | .raise c g,st=>C0 st fun e=>fF e fun x es=>(decide (7<=c.code/\c.code<=14)&&bW sc (dA c.code) x)&&ig es fun e1=>eo e1 fun t=>t== .str (Str.ofString g)
 | .callS f args,st=>vu st fun v=>aA FT ids vis sc (.call f args) v
 | .newR f args,st=>yV st fun v=>fF v fun x es=>ids.contains f&&(yD FT sc f x&&(!es.isEmpty&&eH FT ids vis sc args es))
 | .methR o f args,st=>yV st fun v=>aA FT ids vis sc (.meth o f args) v
 | .word f args i j q cs ds es ws w n,st=>BI st fun body hs o fin=>(o.isEmpty&&fin.isEmpty)&&(ig body (fun s0=>vu s0 fun v=>aA FT ids vis sc (.call f args) v)&&
   ig hs fun h=>BB h fun t nm hb=>gR t (bW sc "DealError")&&(((vis.lookup i==some nm)&&(sc.names.lookup nm==some .local))&&((decide ((cs++ds++es).length<1000)&&decide (ws.length+n<1000))&&wa vis sc i j q cs ds es ws w n hb)))
 | .asgAttr o f e,st=>uZ st fun t v=>tD t fun e1 n _=>decide (f<2)&&(n==Str.ofString (de f)&&(aA FT ids vis sc e v&&aA FT ids vis sc o e1))
noncomputable def gA (FT:Nat->Option Fn) (ids:List Nat) (vis:List (Nat×Str)) (sc:Scope):eM->List Mc->Bool
 | .nil,l=>l.isEmpty
 | .cons s ss,l=>match l with|x::r=>lW FT ids vis sc s x&&gA FT ids vis sc ss r| []=>false
end
noncomputable def A7 (W:Cx) (h:Lw):Flow->PySem.Flow->Prop
 | .next,f=>f= .next
 | .brk,f=>f= .brk
 | .cont,f=>f= .cont
 | .ret v,f=>∃y,f= .ret y/\aP W h v y
noncomputable def PS (W:Cx) (env:Env) (vis:List (Nat×Str)) (mem:Mem) (s:Kv) (R:Flow->aL->Mem->Prop) (f:PySem.Flow) (s':Kv):Prop:=
 ∃fl loc' mem',A7 W s'.heap fl f/\bx W env vis loc' mem' s'/\aM (gk env) mem s.heap mem' s'.heap/\R fl loc' mem'
section
variable{W:Cx}{A:Around}{E:KC->Kv->Prop}{env:Env}{vis:List (Nat×Str)}{mem:Mem}{s:Kv}{R:Flow->aL->Mem->Prop}
theorem aM.toFr{m1 m2:Mem}{h1 h2:Lw}(x:aM fb m1 h1 m2 h2):aM (gk env) m1 h1 m2 h2:=x.mono fun _ q=>q.elim
theorem PS.trans{mem':Mem}{s' s'':Kv}{f:PySem.Flow}(x:aM (gk env) mem s.heap mem' s'.heap)(p:PS W env vis mem' s' R f s''):PS W env vis mem s R f s'':=by
 obtain⟨fl,l,m2,a,b,c,d⟩:=p;exact⟨fl,l,m2,a,b,x.trans c,d⟩
theorem rG{mem':Mem}{s' s2:Kv}{t:Sem PySem.Flow}(x:aM (gk env) mem s.heap mem' s'.heap)(h:KP (model W.prog W.w) A t (PS W env vis mem' s' R) E s2):KP (model W.prog W.w) A t (PS W env vis mem s R) E s2:=
 KB h (fun _ _ p=>PS.trans x p) fun _ _ x=>x
end
theorem cC{vis:List (Nat×Str)}{sc:Scope}{i:Nat}{x:Str}{env:Env}(hsc:dj sc env)(h:cK vis sc i x=true):(i,x)∈vis/\(env.kindOf x=some .local\/env.kindOf x=some .cell):=by
 unfold cK jn at h
 simp only[KW,Bool.or_eq_true,beq_iff_eq] at h
 refine⟨?_,h.2.imp (fun q=>(hsc _ _ q).2 (by simp)) fun q=>(hsc _ _ q).2 (by simp)⟩
 have h1:=h.1
 clear h
 induction vis with
 |nil=>simp at h1
 |cons p r ih=>
  obtain⟨j,y⟩:=p
  rw[Ld] at h1
  split at h1
  ·rename_i q;cases h1;rw[beq_iff_eq] at q;subst q;exact .head _
  ·exact .tail _ (ih h1)
theorem gc{env:Env}(h:env.scope.kind= .function):interactive env=false:=by
 unfold interactive;refine rwl h ?_;rfl
theorem fW{e:KX}{t:Option KX}{n:Nat}{env:Env}(h:eF e=true):swapsWith e t n env=pure false:=by
 cases e<;>first|rfl|exact nb h
inductive FI(W:Cx)(env:Env)(vis:List (Nat×Str))(t:Tg)(mem:Mem)(h₀:Lw)(k:i5)(v:ae)(xs:List ae)(I:Addr)(f:(Flow->aL->Mem->Prop)->aL->Mem->Prop)(R:Flow->aL->Mem->Prop)(n:Nat)(s':Kv):Prop
 |mk (i:Nat) (loc':aL) (mem':Mem) (h1:n=xs.length+1-i) (h2:i<=xs.length) (h3:bx W env vis loc' mem' s') (h4:aM (gk env) mem h₀ mem' s'.heap) (h5:bY W k v xs I i s'.heap) (h6:stands k v mem mem') (h7:∀b,k.own I b->mem' b=none)
   (h8:forLoop (oa t f) (stands k v mem) (xs.drop i) R loc' mem')
theorem xx{W:Cx}{A:Around}{E:KC->Kv->Prop}{env:Env}{vis:List (Nat×Str)}{loc:aL}{mem:Mem}{s s₂:Kv}{R:Flow->aL->Mem->Prop}{k:i5}{v:ae}{xs:List ae}{I:Addr}{target:KX}{new:List (Nat×Str)}{t:Tg}{body:List Mc}
  {f:(Flow->aL->Mem->Prop)->aL->Mem->Prop} {RR:Result->Kv->Prop} (hh:A.handled=none) (hv:di vis)
  (R1:bx W env vis loc mem s) (R2:bx W env vis loc mem s₂) (S2:aM fb mem s.heap mem s₂.heap) (hI:∀b,k.own I b->s.heap.get? b=none) (hit:bY W k v xs I 0 s₂.heap) (hcur:BP k v xs mem)
  (hT:i7 t target=some new) (hk2:k.two t=true) (hm:∀p∈new,p∈vis) (hk:∀p∈new,env.kindOf p.2=some .local\/env.kindOf p.2=some .cell)
  (hbody:∀l P mem' s' E',bx W env vis l mem' s'->aM (gk env) mem s.heap mem' s'.heap->f P l mem'->KP (model W.prog W.w) A (execs body env) (PS W env vis mem' s' P) E' s')
  (hloop:forLoop (oa t f) (stands k v mem) xs R loc mem)
  (hRR:∀fl s',PS W env vis mem s R fl s'->RR (.ok fl) s'):
  codeAny (model W.prog W.w) A (.forLoop target (.ref I) body [] env) RR s₂:=by
 have hbase:∀b,k.own I b->W.base.get? b=none:=fun b hb=>by
  cases q:W.base.get? b with
  |none=>rfl
  |some o=>have:=hI b hb;rw[R1.m.stays b o q] at this;injection this
 refine codeAny_forLoop_any (FI W env vis t mem s.heap k v xs I f R) ?_ (xs.length+1)
  (.mk 0 loc mem rfl (Lp _) R2 S2.toFr hit (by cases k<;>first|trivial|rfl) (fun b hb=>R1.m.mems.fresh (hI b hb)) hloop)
 rintro n s' ⟨i,loc',mem',rfl,hi',R',S',hit',hstd,hmI,hlp⟩
 have hInf:∀b,k.own I b->¬gk env b:=fun b ho hb=>by
  refine af (R'.e.there hb:) fun o e hd=>?_
  refine cG (hit'.there ho:) fun o' fs e' hd'=>?_
  rw[e] at e';(injection e' with e';cases e')
  rw[hd'] at hd
  rcases hd with ⟨_,_,q⟩|⟨_,q⟩<;>injection q
 have hIfx:∀b o,k.own I b->s'.heap.get? b=some o->¬kP o:=fun b o ho e hf=>by
  refine cG (hit'.there ho:) fun o' fs e' hd'=>?_
  rw[e] at e';(injection e' with e';cases e')
  obtain⟨_,_,_,q⟩:=hf;rw[hd'] at q;injection q
 by_cases hlt:i<xs.length
 ·refine qg R'.m (hcur.stands hstd) hit' hlt fun x y ho tk hx hxr hout hs1=>?_
  refine mB (s:={s' with heap:=ho,toks:=tk}) hout hT hk2 fun h' hit1 hs2 hkf=>?_
  have kb1:eJ (k.own I) s'.heap h':=fun b o hb e=>hs2 b o (fun q=>hb (.inl q)) (hs1 b o hb e)
  refine aq (R'.off (s':={s' with heap:=h',toks:=tk}) (k.own I) hmI hbase hInf hIfx kb1:) fun R1' kf1=>?_
  have S1:aM (gk env) mem s.heap mem' h':=S'.off (k.own I) hI kb1
  have hxr:aP W h' x y:=hxr.keep hkf
  have hdrop:xs.drop i=x::xs.drop (i+1):=by
   refine rwl (Mo hlt) ?_
   congr 1
   rw[KA hlt] at hx
   exact Option.some.inj hx
  rw[hdrop] at hlp
  refine af hlp ?_;clear hlp;intro l hl hlp'
  ·refine qY R1' (.inl hh) hv hT hm hk hxr hl fun s2 R2' S2' _=>?_
   refine KB (hbody l _ mem' s2 _ R2' (S1.trans S2') hlp') (fun fl s3 h3=>?_) fun _ _ e=>e
   refine gf h3 ?_;clear h3;intro fl' l3 mem3 hfl R3 S3 q
   have keepI:∀(ma mb:Mem) (ha hb:Lw),aM (gk env) ma ha mb hb->(∀b,k.own I b->ma b=none)->bY W k v xs I (i+1) ha->∀b o,k.own I b->ha.get? b=some o->hb.get? b=some o:=fun ma mb ha hb S hm hi b o ho e=>by
    refine cG (hi.there ho:) fun o' fs e' hd'=>?_
    refine af (S.keep b o e (hm b ho) (hInf b ho):) fun o2 e2 a2=>?_
    rw[e] at e';cases e'
    rw[e2,a2.eq fun es ep q=>by rw[hd'] at q;cases q]
   have kf2:=S2'.keepF R1'.m.mems R1'.e.dok
   have hit2:=hit1.keep kf2 (keepI _ _ _ _ S2' hmI hit1)
   have kf3:=S3.keepF R2'.m.mems R2'.e.dok
   have hit3:=hit2.keep kf3 (keepI _ _ _ _ S3 hmI hit2)
   have hmI3:∀b,k.own I b->mem3 b=none:=fun b ho=>by
    refine cG (hit2.there ho:) fun oI fI eI dI=>?_
    exact S3.none' eI (hmI b ho)
   have Sall:=S1.trans (S2'.trans S3)
   have go:(stands k v mem mem3/\forLoop (oa t f) (stands k v mem) (xs.drop (i+1)) R l3 mem3)->∃m,m<xs.length+1-i/\FI W env vis t mem s.heap k v xs I f R m s3:=fun q=>
    ⟨xs.length+1-(i+1),sb hlt,.mk (i+1) l3 mem3 rfl hlt R3 Sall hit3 q.1 hmI3 q.2⟩
   cases fl' with
   |next=>obtain rfl:fl= .next:=hfl;exact go q
   |cont=>obtain rfl:fl= .cont:=hfl;exact go q
   |brk=>obtain rfl:fl= .brk:=hfl;exact hRR _ _ ⟨.next,l3,mem3,rfl,R3,Sall,q⟩
   |ret u=>
    obtain⟨y',rfl,hy'⟩:∃y,fl= .ret y/\aP W s3.heap u y:=hfl
    exact hRR _ _ ⟨.ret u,l3,mem3,⟨y',rfl,hy'⟩,R3,Sall,q⟩
 ·have hie:i=xs.length:=yR hi' hlt
  subst hie
  refine tH R'.m (.inl hh) (hcur.stands hstd) hit' fun h' kb1=>?_
  refine aq (R'.off (s':={s' with heap:=h'}) (k.own I) hmI hbase hInf hIfx kb1:) fun R1' kf1=>?_
  have S1:aM (gk env) mem s.heap mem' h':=S'.off (k.own I) hI kb1
  have hq:R .next loc' mem':=by rw[List.drop_length] at hlp;exact hlp
  exact wpAny_execs_nil (hRR _ _ ⟨.next,loc',mem',rfl,R1',S1,hq⟩)
end TD.Internal
namespace TD.Internal
open PySem PyProof.Rows
structure jQ(W:Cx)(k:Nat)(a:Addr)(mem:Mem)(h:Lw):Prop where
 cls:qh W
 rng:7<=k/\k<=14
 none':mem a=none
 obj:∃o vs,h.get? a=some o/\o.cls=mO W k/\o.data= .fields vs/\vs[2]? =some .none
theorem jQ.step{W:Cx}{k:Nat}{a:Addr}{mem mem':Mem}{h h':Lw}{D:Addr->Prop}(X:jQ W k a mem h)(S:aM D mem h mem' h')(hD:¬D a):jQ W k a mem' h':=by
 refine dJ X.obj fun o vs e hc hd h2=>?_
 refine af (S.keep a o e X.none' hD:) fun o' e' al=>?_
 have:o'=o:=al.eq fun es ep q=>by rw[hd] at q;injection q
 subst this
 exact⟨X.cls,X.rng,S.none' e X.none',o',vs,e',hc,hd,h2⟩
noncomputable def sI (W:Cx) (c:Nat):KC:=if c=5 then .type "ValueError" else mO W c
theorem te{c:Nat}(h:C4 c=true):c=5\/(c≠5/\7<=c/\c<=14):=by
 unfold C4 at h
 simp only[Bool.or_eq_true,KW,beq_iff_eq,Nat.ble_eq] at h
 lia
theorem AO:((Kt 15).all fun c=>(Kt 15).all fun k=>!(Nat.ble 7 c&&(Nat.ble 7 k&&c !=k))||Str.ofString (dA c) !=Str.ofString (dA k))=true:=by decide+kernel
theorem CJ(c:Nat)(hc:c<15)(k:Nat)(hk:k<15)(h7:7<=c)(h7':7<=k)(hn:c≠k):Str.ofString (dA c)≠Str.ofString (dA k):=by
 have:=KI.mp (KI.mp AO c (KS.mpr hc)) k (KS.mpr hk)
 simp [Nat.ble_eq.mpr h7,Nat.ble_eq.mpr h7',hn] at this
 exact this
noncomputable def zR (o:Obj):Nat:=match o.data with
 | .cls cd=>cd.mro.length
 |_=>0
theorem mY.ne{h:Lw}{D C C':Addr}(x:mY h D C)(y:mY h D C'):C≠D:=fun q=>by
 obtain⟨nm,q1,N,bs,hdct,sn,sub,ab,col,dd,k0,k1,k2,k3,k5,mD,hD,_⟩:=x.d
 obtain⟨nm',q',N',bs',hdct',sn',sub',ab',col',dd',k0',k1',k2',k3',k5',mN,hC,_⟩:=x.c
 rw[q,hD] at hC
 have:=congrArg zR (Option.some.inj hC)
 simp [zR,jU] at this
theorem jQ.look{W:Cx}{k:Nat}{a:Addr}{mem:Mem}{h:Lw}(X:jQ W k a mem h)(hst:W.base.StaysIn h):
  ∃D C,xe h D C a/\∀c,C4 c=true->xC h (sI W c)/\(Value.ref C:: .ref D::jU).contains (sI W c)=mu k c:=by
 refine af X.cls fun D hD hC=>?_
 refine bq (hC k X.rng.1 X.rng.2:) fun C hm xa hn=>?_
 have hcv:mO W k= .ref C:=by unfold mO;refine rwl hm ?_;rfl
 refine dJ X.obj fun o vs e hc hd _=>?_
 refine⟨D,C,⟨xa.keeps hst,o,e,hc.trans hcv⟩,fun c hok=>?_⟩
 rcases te hok with rfl|⟨h5,h7,h14⟩
 ·refine⟨.inl rfl,?_⟩
  refine(?_:(Value.ref C:: .ref D::jU).contains (.type "ValueError")=_)
  refine rwl (oh (b:=true) (by decide+kernel)) ?_
  unfold mu;simp
 ·refine bq (hC c h7 h14:) fun C' hm' xa' hn'=>?_
  have hq:sI W c= .ref C':=by unfold sI mO;refine rwl (if_neg h5) (rwl hm' ?_);rfl
  refine rwl hq ?_
  refine⟨.inr ⟨C',_,rfl,xa'.c.keeps hst⟩,?_⟩
  have hD':(Value.ref C'== .ref D)=false:=by
   rw[beq_eq_false_iff_ne];intro q;injection q with q;exact xa'.ne xa q
  have hb:jU.contains (.ref C')=false:=rfl
  rw[L8,L8,hD',hb,Bool.or_false,Bool.or_false]
  unfold mu
  by_cases hck:c=k
  ·subst hck
   rw[hm] at hm';cases hm'
   simp
  ·have:(Value.ref C'== .ref C)=false:=by
    rw[beq_eq_false_iff_ne];intro q;injection q with q
    exact(hn'.ne hn (CJ c (by with_reducible solve_by_elim (maxDepth:=3) only[*,Kj,Ks,Kl,KN,K6,Ls]) k (by have:=X.rng;exact Ja this) h7 X.rng.1 hck)) q
   refine rwl this ?_
   have h6:c≠6:=Ib h7
   refine rwl (beq_false_of_ne hck) (rwl (beq_false_of_ne h5) (rwl (beq_false_of_ne h6) ?_));rfl
noncomputable def QP (W:Cx) (mem:Mem) (s:Kv) (b:Bool) (v:KC) (s':Kv):Prop:=v= .bool b/\bC W mem s'/\aM fb mem s.heap mem s'.heap
theorem QP.trans{W:Cx}{mem:Mem}{s s' s2:Kv}{b:Bool}{v:KC}(S:aM fb mem s.heap mem s'.heap)(h:QP W mem s' b v s2):QP W mem s b v s2:=⟨h.1,h.2.1,S.trans h.2.2⟩
section
variable{W:Cx}{G:String->Option ae}{A:Around}{env:Env}{vis:List (Nat×Str)}{sc:Scope}{loc:aL}{mem:Mem}{s:Kv}{E:KC->Kv->Prop}{k i:Nat}{a:Addr}
theorem xN(ok:iY W G)(hsc:dj sc env)(R:bx W env vis loc mem s)(hC:qh W){c:ie}{e:KX}(h:u3 sc c e=true){P:KC->Kv->Prop}(hq:P (sI W c.code) s):KP (model W.prog W.w) A (eval e env) P E s:=by
 refine bM h ?_;clear h;intro y py h
 refine aj h fun h1 h2=>?_
 rcases te h1 with h5|⟨h5,h7,h14⟩
 ·rw[h5] at h2 hq
  exact aI R ok hsc h2 (by repeat (first|exact List.Mem.head _|refine List.Mem.tail _ ?_)) Boot.«ValueError» hq
 ·refine af hC ?_;clear hC;intro D hD hC
  refine af (hC c.code h7 h14:) fun C hm _=>?_
  have hn:ze c.code=dA c.code:=by unfold ze;exact rwl (if_neg h5) rfl
  have hv:sI W c.code= .ref C:=by unfold sI mO;refine rwl (if_neg h5) (rwl hm ?_);rfl
  rw[hn] at h2
  rw[hv] at hq
  exact cy R ok hsc h2 hm hq
theorem yh(hsc:dj sc env)(R:bx W env vis loc mem s)(hi:bS loc i=some (.ref a)){e:KX}(h:tf vis sc i e=true){P:KC->Kv->Prop}(hq:∀s',bC W mem s'->aM fb mem s.heap mem s'.heap->P (.ref a) s'):KP (model W.prog W.w) A (eval e env) P E s:=by
 refine bM h ?_;clear h;intro x px h
 refine aj h ?_;clear h;intro h1 h
 refine aj h fun h2 h3=>?_
 refine KB (dY (Q:=fun v m=>v= .ref a/\m=mem) R hsc (beq_iff_eq.mp h1) h2 h3 hi ⟨rfl,rfl⟩) (fun y s' q=>?_) fun _ _ z=>z
 refine wx q ?_;clear q;intro v m' hr M S e15r0_5 e15r0_6
 subst e15r0_5
 subst e15r0_6
 obtain rfl:=hr.ref
 exact hq s' M S
theorem Gh{e:KX}(h:tf vis sc i e=true):∀a q,e≠ .Starred a q:=fun a q z=>by obtain⟨y,py,rfl,_⟩:=gM h;exact PySem.Expr.noConfusion z
theorem CR{c:ie}{e:KX}(h:u3 sc c e=true):∀a q,e≠ .Starred a q:=fun a q z=>by obtain⟨y,py,rfl,_⟩:=gM h;exact PySem.Expr.noConfusion z
theorem yI(X:jQ W k a mem s.heap)(M:bC W mem s){c:ie}(hc:C4 c.code=true):KP (model W.prog W.w) A (call (.builtin "isinstance") [.ref a,sI W c.code]) (QP W mem s (mu k c.code)) E s:=by
 refine cG (X.look M.stays:) fun D C xo hl=>?_
 refine aq (hl c.code hc:) fun h1 h2=>?_
 refine vj xo h1 fun tk=>?_
 refine rwl h2 ?_
 exact⟨rfl,⟨M.stays,M.mems,M.gens,M.os⟩,.refl⟩
theorem AA{c:ie}{e:KX}(h:rH vis sc i c e=true):∀a q,e≠ .Starred a q:=fun a q z=>by obtain⟨x,px,es,p,rfl,_⟩:=kl h;exact PySem.Expr.noConfusion z
theorem oj(ok:iY W G)(hsc:dj sc env)(hi:bS loc i=some (.ref a)){c:ie}{ex:KX}(h:rH vis sc i c ex=true)(R:bx W env vis loc mem s)(X:jQ W k a mem s.heap):
  KP (model W.prog W.w) A (eval ex env) (QP W mem s (mu k c.code)) E s:=by
 refine bI h ?_;clear h;intro x px es p h
 refine aj h ?_;clear h;intro h1 h
 refine eQ h ?_;clear h;intro e1 e2 h
 refine aj h fun h2 h3=>?_
 refine aX (aI R ok hsc h1 (by repeat (first|exact List.Mem.head _|refine List.Mem.tail _ ?_)) Boot.«isinstance» (uK (Gh h2) (CR h3) ?_))
 refine yh hsc R hi h2 fun s1 M1 S1=>?_
 have R1:=R.step M1 S1
 refine xN ok hsc R1 X.cls h3 ?_
 have hok:C4 c.code=true:=by obtain⟨y,py,e1',hh⟩:=gM h3;exact(bT hh).1
 exact KB (yI (X.step S1 id) M1 hok) (fun _ _ q=>QP.trans S1 q) fun _ _ z=>z
theorem tC(ok:iY W G)(hsc:dj sc env)(hi:bS loc i=some (.ref a)){p:Pos}:∀{cs:List ie} {xs:List KX} {s:Kv},so vis sc i cs xs=true->bx W env vis loc mem s->jQ W k a mem s.heap->
  KP (model W.prog W.w) A (spliced (backTo p (starEach xs env))) (fun vs s'=>vs=(cR k cs).map .bool/\bC W mem s'/\aM fb mem s.heap mem s'.heap) E s
 | [],xs,s,h,R,X=>by
  refine rwl (LM.mp h) ?_
  exact Calls.spliced_nil ⟨rfl,R.m,.refl⟩
 |c::cs,[],s,h,R,X=>nb h
 |c::cs,e::es,s,h,R,X=>by
  refine aj h fun h1 h2=>?_
  refine rwl (bK (AA h1)) ?_
  refine Calls.spliced_cons (KB (oj ok hsc hi h1 R X) (fun v s1 q=>?_) fun _ _ z=>z)
  refine cI q ?_;clear q;intro e23r0_0 M1 S1
  subst e23r0_0
  refine KB (tC ok hsc hi h2 (R.step M1 S1) (X.step S1 id)) (fun vs s2 q=>?_) fun _ _ z=>z
  refine cI q ?_;clear q;intro e24r0_0 M2 S2
  subst e24r0_0
  exact⟨rfl,M2,S1.trans S2⟩
theorem nL{p:Pos}:∀{ws:List String} {xs:List KX} {s:Kv},vW ws xs=true->bC W mem s->
  KP (model W.prog W.w) A (spliced (backTo p (starEach xs env))) (fun vs s'=>aJ W s'.heap (ws.map fun w=> .str (Str.ofString w)) vs/\bC W mem s'/\aM fb mem s.heap mem s'.heap) E s
 | [],xs,s,h,M=>by
  refine rwl (LM.mp h) ?_
  exact Calls.spliced_nil ⟨.nil,M,.refl⟩
 |w::ws,[],s,h,M=>nb h
 |w::ws,e::es,s,h,M=>by
  refine aj h fun h1 h2=>?_
  refine bu h1 ?_;clear h1;intro c n pc h1
  refine fP h1 ?_
  refine rwl (bK (fun _ _ z=>by exact PySem.Expr.noConfusion z)) ?_
  refine Calls.spliced_cons (wpAny_Constant_str (k:=n) (pos:=pc) ?_)
  refine KB (nL h2 (M.toks _)) (fun vs s2 q=>?_) fun _ _ z=>z
  refine cI q ?_;clear q;intro r M2 S2
  exact⟨.cons .mkStr r,M2,S2⟩
theorem tR{h:Lw}:∀{bs:List Bool},aJ W h (bs.map .bool) (bs.map .bool)
 | []=> .nil
 |b::bs=> .cons .mkBool tR
theorem pX(ok:iY W G)(hsc:dj sc env)(hi:bS loc i=some (.ref a)){cs:List ie}{e:KX}(hl:cs.length<br)(h:lb e (fun xs=>so vis sc i cs xs)=true)(R:bx W env vis loc mem s)(X:jQ W k a mem s.heap):
  KP (model W.prog W.w) A (eval e env) (PM W mem s fun v m=>∃b,v= .ref b/\mem b=none/\m=mem.set b (.list ((cR k cs).map .bool))) E s:=by
 refine gy h ?_;clear h;intro xs p h
 refine List_ (KB (tC ok hsc hi h R X) (fun vs s1 q=>?_) fun _ _ x=>x)
 refine cI q ?_;clear q;intro e29r0_0 M1 S1
 subst e29r0_0
 refine bp S1 (eZ (R.step M1 S1) tR ⟨by unfold cR;refine rwl (Ki ..) (rwl (Ki ..) ?_);exact hl,fun b hb=>⟨b,rfl,hb,rfl⟩⟩)
end
section
variable{W:Cx}{G:String->Option ae}{A:Around}{env:Env}{vis:List (Nat×Str)}{sc:Scope}{loc:aL}{mem:Mem}{s:Kv}{E:KC->Kv->Prop}{k i j q:Nat}{a:Addr}
theorem jQ.han(X:jQ W k a mem s.heap)(hA:A.handled=some (.ref a)):Af A mem s.heap:=by
 refine dJ X.obj fun o vs e _ hd h2=>?_
 exact .inr ⟨a,o,vs,hA,e,hd,h2,X.none'⟩
theorem rm(c d:Bool):PySem.MeetsSeq.EqGives (.bool c) (.bool d) (c==d):=fun _ _ _ _ _ _ h=>by
 unfold eqBool
 refine(?_:KP _ _ (if (Value.bool c==Value.bool d)=true then _ else _) _ _ _)
 by_cases hab:(Value.bool c==Value.bool d)=true
 ·refine rwl (if_pos hab) ?_
  have e:c=d:=by have:=eq_of_beq hab;injection this
  subst e
  exact Kx (wpAny_rule (KV (by simpa using h)))
 ·refine rwl (if_neg hab) ?_
  exact Kx (eq_bool (wpAny_truthy_bool h))
theorem ly{B:aL->(Bool->Mem->Prop)->Mem->Prop}{V:aL->(ae->Mem->Prop)->Mem->Prop}(hB:∀c P,P c mem->B (ay loc q (.bool c)) P mem)(hV:∀c P,P (.bool c) mem->V (ay loc q (.bool c)) P mem){okk:Mem->Prop}(ho:okk mem){QL:List ae->Mem->Prop}:
  ∀(bs:List Bool) (acc:List ae),QL (acc++(bs.filter id).map .bool) mem->compLoop (pV (.one q) loc B V) okk (bs.map .bool) acc QL mem
 | [],acc,h=>by
  refine(?_:QL acc mem)
  simpa using h
 |c::bs,acc,h=>by
  refine⟨_,rfl,hB c _ ?_⟩
  cases c with
  |true=>exact⟨fun _=>hV true _ ⟨ho,ly hB hV ho bs _ (by simpa using h)⟩,fun e=>by exact Bool.noConfusion e⟩
  |false=>exact⟨(fun e=>by exact Bool.noConfusion e),fun _=>⟨ho,ly hB hV ho bs _ (by simpa using h)⟩⟩
theorem uE(ok:iY W G)(hsc:dj sc env)(hv:di vis)(R:bx W env vis loc mem s)(H:Af A mem s.heap){b:Addr}{bs:List Bool}(hq:q<loc.length)(hj:bS loc j=some (.ref b))(hb:mem b=some (.list (bs.map .bool)))(hl:bs.length<br){e:KX}
  (hc:aA (fun _=>none) [] vis sc (.comp (.nm q) (.one q) .plain (.nm j) (.cons (.nm q) .nil)) e=true):
  KP (model W.prog W.w) A (eval e env) (PM W mem s fun v m=>∃d,v= .ref d/\mem d=none/\m=mem.set d (.list ((bs.filter id).map .bool))) E s:=by
 refine oG hc fun elt' target iter ifs csc p new e1 w31r0_9 h1 h2 h3 h4 h5 h6=>?_
 refine aq w31r0_9 ?_;clear w31r0_9;intro hT hk2
 have hi:=(bQ h1).2.2.2.2.2.2
 have hv':=jG hT hv hi
 refine nx h5 fun xq pq l1 l2 l3=>?_
 refine gg h6 fun ei r h7 h8=>?_
 obtain rfl:=il h8
 refine nx h7 fun xi pi i1 i2 i3=>?_
 have hns:=dw h4
 refine dJ (BY h4:) fun xj pj e35 j1 j2 j3=>?_
 subst e35
 refine(?_:KP _ A (comprehension (.ListComp (.Name xq pq) [⟨target,iter,[.Name xi pi],0⟩] csc p) csc env (firstIterPos [⟨target,iter,[.Name xi pi],0⟩] p) (newList []) false (eval iter env) none) _ _ s)
 refine wpAny_comprehension_free (g:=⟨target,iter,[.Name xi pi],0⟩) (gs:=[]) rfl (fun x=>gH h2 x) (n6 (j7 R hsc h1)) (bQ h1).1 (qc h1) ?_
 have hbl:(bs.map ae.bool).length<br:=by refine rwl (Ki ..) ?_;exact hl
 have hseq:seq mem (.ref b)=some (bs.map .bool):=by refine(?_:iG (mem b)=_);refine rwl hb ?_;rfl
 refine lX (PX:=fun v xs m1=>v= .ref b/\xs=bs.map .bool/\m1=mem) ok hsc R hns h3 (dY R hsc j1 j2 j3 hj ⟨bs.map .bool,hseq,hbl,rfl,rfl,rfl⟩) fun I v xs mem1 s1 s' R1 S1 hI hit R' S' hcur hlen hpx=>?_
 refine cI hpx ?_;clear hpx;intro e36r0_0 e36r0_1 e36r0_2
 subst e36r0_0
 subst e36r0_1
 subst e36r0_2
 refine qy (B:=fun l P m=>∃c,bS l q=some (.bool c)/\P c m) (V:=fun l P m=>∃v,bS l q=some v/\P v m) (QL:=fun ys m'=>bf m' ys fun v m=>∃d,v= .ref d/\mem1 d=none/\m=mem1.set d (.list ((bs.filter id).map .bool))) (RR:=compPost (model W.prog W.w) A E none _) (.inr ⟨rfl,(fun us z=>by exact ae.noConfusion z),⟨q,rfl⟩,H.step S1 (fun _ _ z=>z)⟩) hk2 R1 R' S' hI hit hcur hlen hsc h1 hT hv hi (fun C' l P' mem' s'' E' R'' hb=>?_) (fun C' l P' mem' s'' E' R'' hV=>?_) ?_ fun D C' s'' mem' ys vs m hD hC hne hnsC hpl hr hM hS hmC hmD hQL=>?_
 ·refine af hb ?_;clear hb;intro c hc1 hc2
  refine rwl (Ny ..) ?_
  simp only[if_true]
  refine Kx (Kx (isTrue_plain (pZ (dY (Q:=oO fun c m=>P' c m) R'' iJ i1 i2 i3 hc1 ⟨c,rfl,hc2⟩) fun c' s2 q=>KV ?_)))
  refine bq q ?_;clear q;intro m1 M1 S1' q1
  cases c' with
  |true=>exact wpAny_tests_nil ⟨m1,M1,S1',q1⟩
  |false=>exact i0 ⟨m1,M1,S1',q1⟩ []
 ·refine af hV ?_;clear hV;intro v hv1 hv2
  exact dY R'' iJ l1 l2 l3 hv1 hv2
 ·refine ly (fun c P h=>⟨c,fX hq,h⟩) (fun c P h=>⟨_,fX hq,h⟩) (rfl:lst mem1 (.ref b)=lst mem1 (.ref b)) bs [] ⟨?_,fun d hd=>⟨d,rfl,hd,rfl⟩⟩
  refine rwl (Kr ..) (rwl (Ki ..) ?_)
  exact Kj (Lh _ _) hl
 ·have hl:gP W env mem1 s (fun ys m'=>bf m' ys fun v m=>∃d,v= .ref d/\mem1 d=none/\m=mem1.set d (.list ((bs.filter id).map .bool))) D C' s'':=⟨mem',ys,vs,m,S1.alive D hD,S1.alive C' hC,hne,hnsC,hpl,hr,hM,S1.trans hS,hmC,hmD,hQL⟩
  exact⟨m,hnsC,fun h' hs=>hl.done R hs⟩
noncomputable def C2 (W:Cx) (env:Env) (vis:List (Nat×Str)) (n:Nat) (mem:Mem) (h0:Lw) (k:Nat) (a:Addr) (i j:Nat) (bs:List Bool) (s':Kv):Prop:=
 ∃l' mem' b,bx W env vis l' mem' s'/\jQ W k a mem' s'.heap/\bS l' i=some (.ref a)/\(bS l' j=some (.ref b)/\mem' b=some (.list (bs.map .bool)))/\l'.length=n/\(∀c o,mem c=some o->mem' c=some o)/\aM (gk env) mem h0 mem' s'.heap
theorem oM{l:aL}{v:ae}:∀{i:Nat},(ay l i v).length=l.length:=by
 induction l with
 |nil=>intro i;rfl
 |cons x r ih=>
  intro i
  cases i with
  |zero=>rfl
  |succ i=>exact congrArg NJ (ih (i:=i))
theorem lz{v u:ae}{l:aL}:∀{i j:Nat},bS l j=some u->j≠i->bS (ay l i v) j=some u:=by
 induction l with
 |nil=>intro i j h;exact no h
 |cons x r ih=>
  intro i j h hn
  cases i with
  |zero=>cases j with
   |zero=>exact absurd rfl hn
   |succ j=>exact h
  |succ i=>cases j with
   |zero=>exact h
   |succ j=>exact ih (i:=i) (j:=j) h fun q=>hn (congrArg NJ q)
theorem zy(hsc:dj sc env)(hv:di vis)(hfr:¬gk env a)(hij:i≠j){l:aL}{mem1:Mem}{s1:Kv}{h0:Lw}(hj:j<l.length)(R:bx W env vis l mem1 s1)(X:jQ W k a mem1 s1.heap)(hi:bS l i=some (.ref a))(hx:∀c o,mem c=some o->mem1 c=some o)(S:aM (gk env) mem h0 mem1 s1.heap)
  {x:Str} {px p:Pos} {e:KX} {bs:List Bool} (hst:cK vis sc j x=true) (hn:eF e=true)
  (h:KP (model W.prog W.w) A (eval e env) (PM W mem1 s1 fun v m=>∃b,v= .ref b/\m b=some (.list (bs.map .bool))/\∀c o,mem1 c=some o->m c=some o) E s1):
  KP (model W.prog W.w) A (exec (.Assign [.Name x px] e p) env) (fun f s'=>f= .next/\C2 W env vis l.length mem h0 k a i j bs s') E s1:=by
 refine aq (cC hsc hst:) fun hm hk=>?_
 refine wpAny_Assign_Name (aS R h fun u y m2 s2 hy R2 S2 q2=>?_) (fW hn)
 refine bq q2 ?_;clear q2;intro b e41r0_1 hb hx2
 subst e41r0_1
 refine dp R2 hv hm hk hy fun s3 R3 S3 _=>⟨rfl,_,m2,b,R3,(X.step S2 id).step S3 hfr,lz hi hij,⟨fX hj,hb⟩,oM,fun c o e=>hx2 c o (hx c o e),(S.trans S2.toFr).trans S3⟩
theorem cW{m:Mem}{b:Addr}{o:cU}(hb:m b=none):∀c o',m c=some o'->(m.set b o) c=some o':=fun c o' e=>by
 unfold Mem.set
 rw[if_neg (fun q=>by rw[q,hb] at e;injection e)];exact e
theorem i6{m:Mem}{b:Addr}{o:cU}:(m.set b o) b=some o:=by unfold Mem.set;exact rwl (if_pos rfl) rfl
theorem lT{m:Mem}{b:Addr}{xs:List ae}(h:m b=some (.list xs)):lst m (.ref b)=some xs:=by refine(?_:iG (m b)=_);refine rwl h ?_;rfl
theorem z0(ok:iY W G)(hsc:dj sc env)(hv:di vis)(hfr:¬gk env a)(hij:i≠j)(hj:j<loc.length)(R:bx W env vis loc mem s)(X:jQ W k a mem s.heap)(hi:bS loc i=some (.ref a)){cs:List ie}{st:Mc}(hl:cs.length<br)(hc:Bw vis sc i j cs st=true):
  KP (model W.prog W.w) A (exec st env) (fun f s'=>f= .next/\C2 W env vis loc.length mem s.heap k a i j (cR k cs) s') E s:=by
 refine eV hc ?_;clear hc;intro t e p hc
 refine aj hc fun h1 h2=>?_
 refine bM h1 ?_;clear h1;intro x px h1
 have hn:eF e=true:=by obtain⟨xs,p,rfl,_⟩:=xO h2;rfl
 refine zy hsc hv hfr hij hj R X hi (fun _ _ z=>z) .refl h1 hn (KB (pX ok hsc hi hl h2 R X) (fun y s1 q=>PM.mono (fun v m q=>?_) q) fun _ _ z=>z)
 refine bq q ?_;clear q;intro b e45r0_1 hb e45r0_3
 subst e45r0_1
 subst e45r0_3
 exact⟨b,rfl,i6,cW hb⟩
theorem tr(ok:iY W G)(hsc:dj sc env)(hv:di vis)(hfr:¬gk env a)(hij:i≠j){n:Nat}{h0:Lw}(hj:j<n){bs:List Bool}(K:C2 W env vis n mem h0 k a i j bs s){cs:List ie}{st:Mc}(hl:bs.length+cs.length<br)(hc:zh vis sc i j cs st=true):
  KP (model W.prog W.w) A (exec st env) (fun f s'=>f= .next/\C2 W env vis n mem h0 k a i j (bs++cR k cs) s') E s:=by
 refine Ae K ?_;clear K;intro l m1 b R X hi w46r0_6 e46r0_7 hx S
 refine aq w46r0_6 ?_;clear w46r0_6;intro hjv hb
 subst e46r0_7
 refine eV hc ?_;clear hc;intro t e p hc
 refine aj hc fun h1 h2=>?_
 refine bM h1 ?_;clear h1;intro x px h1
 refine iI h2 ?_;clear h2;intro e1 o e2 pb h2
 refine aj h2 fun h3 h5=>?_
 refine aj h3 ?_;clear h3;intro h3 h4
 refine fP h3 ?_
 refine bM h4 ?_;clear h4;intro xj pj h4
 refine aj h4 fun h6 h7=>?_
 refine aj h7 ?_;clear h7;intro h7 h8
 refine zy hsc hv hfr hij hj R X hi hx S h1 rfl ?_
 refine wpAny_BinOp (aS R (dY (Q:=fun v m=>v= .ref b/\m=m1) R hsc (beq_iff_eq.mp h6) h7 h8 hjv ⟨rfl,rfl⟩) fun v y m2 s2 hy R2 S2 q2=>?_)
 refine aq q2 ?_;clear q2;intro e56r0_0 e56r0_1
 subst e56r0_0
 subst e56r0_1
 refine aS R2 (pX ok hsc hi (Di hl) h5 R2 (X.step S2 id)) fun w z m3 s3 hz R3 S3 q3=>?_
 refine bq q3 ?_;clear q3;intro d e57r0_1 hd e57r0_3
 subst e57r0_1
 subst e57r0_3
 refine bp (S2.trans S3) (jB (op:= .add) R3 (aY R2 S3 hy) hz rfl (.inr ⟨b,d,_,_,rfl,rfl,lT (cW hd b _ hb),lT i6,?_,fun c hc=>⟨c,rfl,?_,fun c' o e=>cW hc c' o (cW hd c' o e)⟩⟩))
 ·refine rwl (Km ..) (rwl (Ki ..) (rwl (Ki ..) ?_));unfold cR;refine rwl (Ki ..) ?_;exact hl
 ·refine rwl KT ?_;exact i6
theorem Ce(M:bC W mem s){d:Addr}{bs:List Bool}(hd:mem d=some (.list (bs.map .bool)))(hl:bs.length<br){P:KC->Kv->Prop}(hp:∀t tk,P (.int (bs.length:Nat) t) {s with toks:=tk}):KP (model W.prog W.w) A (call (.builtin "len") [.ref d]) P E s:=by
 refine bB (cm M (.mkRef:aP W s.heap (.ref d) (.ref d)) (lT hd):) fun a' vs e h r=>?_
 cases e
 have hlen:=r.length
 rw[Ki] at hlen
 refine len_list h (by refine rwl KJ (rwl hlen ?_);exact ye hl) ?_
 refine rwl KJ (rwl hlen ?_);exact hp _ _
theorem yU(ok:iY W G)(hsc:dj sc env)(hv:di vis)(hA:A.handled=some (.ref a)){n:Nat}{h0:Lw}(hq:q<n){bs:List Bool}(K:C2 W env vis n mem h0 k a i j bs s)(hl:bs.length<br)(h1:(bs.filter id).length=1){st:Mc}(hc:BJ vis sc i j q st=true):
  KP (model W.prog W.w) A (exec st env) (fun f s'=>f= .next/\C2 W env vis n mem h0 k a i j bs s') E s:=by
 refine Ae K ?_;clear K;intro l m1 b R X hi w59r0_6 e59r0_7 hx S
 refine aq w59r0_6 ?_;clear w59r0_6;intro hjv hb
 subst e59r0_7
 refine qI hc ?_;clear hc;intro test body o p hc
 refine aj hc ?_;clear hc;intro ho hc
 obtain rfl:=LM.mp ho
 refine j4 hc ?_;clear hc;intro op vs pb hc
 refine aj hc ?_;clear hc;intro h2 hc
 refine fP h2 ?_
 refine eQ hc ?_;clear hc;intro v1 v2 hc
 refine aj hc fun c1 c2=>?_
 refine lD c1 ?_;clear c1;intro uo ux pu c1
 refine aj c1 fun c3 c4=>?_
 refine fP c3 ?_
 refine iz c2 ?_;clear c2;intro le os rs pc c2
 refine aj c2 ?_;clear c2;intro c5 c2
 refine aj c2 fun c6 c7=>?_
 refine bc c5 ?_;clear c5;intro o1 c5
 refine fP c5 ?_
 refine bc c6 ?_;clear c6;intro r1 c6
 refine bu c6 ?_;clear c6;intro kc nc pk c6
 refine fP c6 ?_
 refine bI c7 ?_;clear c7;intro xl pxl es pl c7
 refine aj c7 fun c8 c9=>?_
 refine bc c9 ?_;clear c9;intro ce c9
 have hpl:mW ux:=by obtain⟨y,py,es,pp,rfl,_⟩:=kl c4;exact fun _ _=>rfl
 refine wpAny_If (isTrue_or (isTrue_not (isTrue_plain (KB (oj ok hsc hi c4 R X) (fun y s1 q1=>?_) fun _ _ z=>z) (hpl _ _))))
 refine cI q1 ?_;clear q1;intro e77r0_0 M1 S1
 subst e77r0_0
 refine wpAny_truthy_bool ?_
 refine rwl (by unfold mu;simp [ie.code]:mu k ie.ValueError.code=true) ?_
 simp only[NM,LU,if_false]
 have R1:=R.step M1 S1
 have X1:=X.step S1 id
 refine isTrue_or (wpAny_isTrue_Compare1 (aX (aI R1 ok hsc c8 (by repeat (first|exact List.Mem.head _|refine List.Mem.tail _ ?_)) Boot.«len» (lU (dw c9) ?_))) (dQ rfl))
 refine aS R1 (uE ok hsc hv R1 (X1.han hA) hq hjv hb hl c9) fun v y m2 s2 hy R2 S2 q2=>?_
 refine bq q2 ?_;clear q2;intro d e78r0_1 hd e78r0_3
 subst e78r0_1
 subst e78r0_3
 obtain rfl:=hy.ref
 refine Ce R2.m i6 (Kj (Lh _ _) hl) fun t tk=>?_
 refine wpAny_Constant_int (k:=nc) (pos:=pk) (ne_int (wpAny_truthy_bool ?_))
 refine rwl h1 ?_
 simp only[show (((1:Nat):Int) !=1)=false from rfl,LU,if_false]
 refine isTrue_or_nil (wpAny_execs_nil ⟨rfl,l,_,b,R2.step (R2.m.toks _) .refl,X1.step S2 id,hi,⟨hjv,cW hd b _ hb⟩,rfl,fun c o e=>cW hd c o (hx c o e),S.trans (S1.trans S2).toFr⟩)
theorem tZ(R:bx W env vis loc mem s){b:Addr}{bs:List Bool}(e:mem b=some (.list (bs.map .bool)))(hi:true∈bs)(hl:bs.length<br){Q:ae->Mem->Prop}(hq:Q (.int (bs.idxOf true:Nat)) mem):
  KP (model W.prog W.w) A (call (.builtin "list.index") [.ref b,.bool true]) (PM W mem s Q) E s:=by
 refine cG (gZ R.m e:) fun vs n hn r=>?_
 have hlen:=r.length
 rw[Ki] at hlen
 have hj:bs.idxOf true<bs.length:=Ly hi
 have at':∀m (hm:m<vs.length),vs[m]= .bool (bs[m]'(hlen▸hm)):=fun m hm=>by
  refine af (r.get (i:=m) (v:= .bool (bs[m]'(hlen▸hm))) (by refine rwl (KH) (rwl (KA (hlen▸hm)) ?_);rfl):) fun y hy ry=>?_
  obtain rfl:=ry.bool
  rw[KA hm] at hy
  exact Option.some.inj hy
 let f:KC->Bool:=fun y=>match y with| .bool c=>c==true|_=>false
 refine call_meets PySem.F.slot_list_index ⟨_,hn,rfl⟩ PySem.F.entry_list_index (PySem.F.args_list_index_2 _ _) (PySem.MeetsSeq.list_index b vs.toArray n (.bool true) f (fun y hy=>?_) (bs.idxOf true) (by refine rwl KJ (rwl hlen ?_);exact hj) (by unfold br at hl;exact JW hl hj) ?_ fun m hm hmj=>?_) ⟨hn,PM.val R.m .mkInt hq _⟩
 ·obtain⟨m,hm,rfl⟩:=List.getElem_of_mem (List.mem_toArray.mp hy)
  refine rwl (at' m hm) ?_
  exact rm _ _
 ·refine(?_:f vs[bs.idxOf true]=true)
  refine rwl (at' (bs.idxOf true) (hlen.symm▸hj)) ?_
  exact beq_iff_eq.mpr (MW hj)
 ·rw[KJ] at hm
  refine(?_:f vs[m]=false)
  refine rwl (at' m hm) ?_
  exact beq_false_of_ne fun q=>by
   have hm':m<bs.length:=hlen▸hm
   have:bs.idxOf true<=m:=by
    have h1:bs=bs.take m++bs[m]::bs.drop (m+1):=rwb (Mo hm' ..) (rwl (Mj ..) rfl)
    refine rwl h1 (rwl ME ?_)
    split
    ·rename_i hin
     have:=Ly hin
     rw[Le] at this;exact HP this
    ·refine rwl q (rwl List.idxOf_cons_self (rwl Le ?_));exact HS
   exact HZ hmj this
theorem yP(hsc:dj sc env){n:Nat}{h0:Lw}{bs:List Bool}(K:C2 W env vis n mem h0 k a i j bs s)(hl:bs.length<br)(ht:true∈bs){ws:List String}{u w:String}{r:Nat}(hw:(ws++Kk r u)[bs.idxOf true]? =some w)(hlw:ws.length+r<br){st:Mc}(hc:Bu vis sc j ws u r st=true):
  KP (model W.prog W.w) A (exec st env) (fun f s'=>∃y l' mem',f= .ret y/\aP W s'.heap (.str (Str.ofString w)) y/\bx W env vis l' mem' s'/\aM (gk env) mem h0 mem' s'.heap/\∀c o,mem c=some o->mem' c=some o) E s:=by
 refine Ae K ?_;clear K;intro l m1 b R X hi w82r0_6 e82r0_7 hx S
 refine aq w82r0_6 ?_;clear w82r0_6;intro hjv hb
 subst e82r0_7
 refine iH hc ?_;clear hc;intro v p hc
 refine f9 hc ?_;clear hc;intro e1 e2 ps hc
 refine aj hc fun c1 c2=>?_
 refine iI c1 fun el oo er pb cb=>?_
 refine aj cb fun d1 d2=>?_
 refine aj d1 ?_;clear d1;intro d0 d1
 refine fP d0 ?_
 refine gy d1 fun xs pl cw=>?_
 refine iI d2 ?_;clear d2;intro el2 o2 er2 pb2 d2
 refine aj d2 fun d3 d5=>?_
 refine aj d3 ?_;clear d3;intro d4 d3
 refine fP d4 ?_
 refine gy d3 fun xs2 pl2 cw2=>?_
 refine bu d5 ?_;clear d5;intro kr nr pr d5
 refine fP d5 ?_
 refine gC c2 ?_;clear c2;intro ob ap es p' hok c2
 refine aj c2 fun c3 c4=>?_
 refine bc c4 ?_;clear c4;intro e3 c4
 refine bu c4 ?_;clear c4;intro kc nc pk c4
 refine fP c4 ?_
 revert hok;refine bM c3 ?_;clear c3;intro xj pj c3 hok
 refine aj c3 fun h6 h7=>?_
 refine aj h7 ?_;clear h7;intro h7 h8
 let mk:List String->List ae:=fun ws=>ws.map fun w=>ae.str (Str.ofString w)
 refine wpAny_Return_some (Subscript_ (wpAny_BinOp (List_ (KB (nL cw R.m) (fun vs s1 q1=>?_) fun _ _ z=>z))))
 refine cI q1 ?_;clear q1;intro r1 M1 S1
 have R1:=R.step M1 S1
 refine aS R1 (eZ (Q:=fun v m=>∃d,v= .ref d/\m1 d=none/\m=m1.set d (.list (mk ws))) R1 r1 ⟨by refine rwl (Ki ..) ?_;exact Ik hlw,fun d hd=>⟨d,rfl,hd,rfl⟩⟩) fun v y m2 s2 hy R2 S2 q2=>?_
 refine bq q2 ?_;clear q2;intro d e103r0_1 hd e103r0_3
 subst e103r0_1
 subst e103r0_3
 refine wpAny_BinOp (List_ (KB (nL cw2 R2.m) (fun vs s3 q3=>?_) fun _ _ z=>z))
 refine cI q3 ?_;clear q3;intro r3 M3 S3
 have R3:=R2.step M3 S3
 refine aS R3 (eZ (Q:=fun v m=>∃d',v= .ref d'/\(m1.set d (.list (mk ws))) d'=none/\m=(m1.set d (.list (mk ws))).set d' (.list (mk [u]))) R3 r3 ⟨by refine(?_:1<br);decide,fun d' hd'=>⟨d',rfl,hd',rfl⟩⟩) fun v y4 m4 s4 hy4 R4 S4 q4=>?_
 refine bq q4 ?_;clear q4;intro d' e105r0_1 hd' e105r0_3
 subst e105r0_1
 subst e105r0_3
 refine wpAny_Constant_int (k:=nr) (pos:=pr) ?_
 have R4t:bx W env vis l ((m1.set d (.list (mk ws))).set d' (.list (mk [u]))) {s4 with toks:=s4.toks+1}:=R4.step (R4.m.toks _) .refl
 have hmul:(Kk (r:Int).toNat (mk [u])).flatten=Kk r (ae.str (Str.ofString u)):=by
  refine rwl (L4 ..) ?_
  refine(?_:(Kk r [ae.str (Str.ofString u)]).flatten=_)
  exact List.flatten_replicate_singleton
 refine aS R4t (jB (op:= .mul) (Q:=fun v m=>∃d2,v= .ref d2/\((m1.set d (.list (mk ws))).set d' (.list (mk [u]))) d2=none/\m=((m1.set d (.list (mk ws))).set d' (.list (mk [u]))).set d2 (.list (Kk r (.str (Str.ofString u))))) R4t hy4 .mkInt rfl (.inr ⟨d',r,mk [u],rfl,rfl,lT i6,Lv _,by unfold br at hlw⊢;exact JG hlw,?_⟩)) fun v y5 m5 s5 hy5 R5 S5 q5=>?_
 ·refine rwl hmul ?_
  exact⟨by refine rwl L6 ?_;exact Di hlw,fun d2 ti=>⟨d2,rfl,ti,rfl⟩⟩
 refine bq q5 ?_;clear q5;intro d2 e106r0_1 ti e106r0_3
 subst e106r0_1
 subst e106r0_3
 have hdw:(((m1.set d (.list (mk ws))).set d' (.list (mk [u]))).set d2 (.list (Kk r (ae.str (Str.ofString u))))) d=some (.list (mk ws)):=cW ti _ _ (cW hd' _ _ i6)
 have S25:=S3.trans (S4.trans S5)
 refine aS R5 (jB (op:= .add) (Q:=fun v m=>∃d3,v= .ref d3/\(((m1.set d (.list (mk ws))).set d' (.list (mk [u]))).set d2 (.list (Kk r (.str (Str.ofString u))))) d3=none/\m=(((m1.set d (.list (mk ws))).set d' (.list (mk [u]))).set d2 (.list (Kk r (.str (Str.ofString u))))).set d3 (.list (mk (ws++Kk r u)))) R5 (aY R2 S25 hy) hy5 rfl (.inr ⟨d,d2,_,_,rfl,rfl,lT hdw,lT i6,?_⟩)) fun v y6 m6 s6 hy6 R6 S6 q6=>?_
 ·have:mk ws++Kk r (ae.str (Str.ofString u))=mk (ws++Kk r u):=by
   refine(?_:_=KU _ _)
   exact rwl KT (rwl List.map_replicate rfl)
  refine rwl this ?_
  exact⟨by refine rwl (Ki ..) (rwl (Km ..) (rwl (L6 ..) ?_));exact hlw,fun d3 hd3=>⟨d3,rfl,hd3,rfl⟩⟩
 refine bq q6 ?_;clear q6;intro d3 e107r0_1 hd3 e107r0_3
 subst e107r0_1
 subst e107r0_3
 have hkeep:∀c o,m1 c=some o->((((m1.set d (.list (mk ws))).set d' (.list (mk [u]))).set d2 (.list (Kk r (ae.str (Str.ofString u))))).set d3 (.list (mk (ws++Kk r u)))) c=some o:=fun c o e=>cW hd3 c o (cW ti c o (cW hd' c o (cW hd c o e)))
 have hd3':((((m1.set d (.list (mk ws))).set d' (.list (mk [u]))).set d2 (.list (Kk r (ae.str (Str.ofString u))))).set d3 (.list (mk (ws++Kk r u)))) d3=some (.list (mk (ws++Kk r u))):=i6
 generalize ((((m1.set d (.list (mk ws))).set d' (.list (mk [u]))).set d2 (.list (Kk r (ae.str (Str.ofString u))))).set d3 (.list (mk (ws++Kk r u))))=mE at hkeep hd3' R6 S6
 refine dy hok (vU fun _ _ z=>by exact PySem.Expr.noConfusion z) (by decide:1<29) ?_
 refine aS R6 (dY (Q:=fun v m=>v= .ref b/\m=mE) R6 hsc (beq_iff_eq.mp h6) h7 h8 hjv ⟨rfl,rfl⟩) fun v y7 m7 s7 hy7 R7 S7 q7 pl=>?_
 refine aq q7 ?_;clear q7;intro e108r0_0 e108r0_1
 subst e108r0_0
 subst e108r0_1
 obtain rfl:=hy7.ref
 have hb3:=hkeep b _ hb
 refine du R7 hb3 PySem.F.slot_list_index PySem.F.type_list_index (sd (fun _ _ z=>by exact PySem.Expr.noConfusion z) (wpAny_Constant_bool (k:=nc) (pos:=pk) ?_))
 refine aS R7 (tZ (Q:=fun v m=>v= .int (bs.idxOf true:Nat)/\m=m7) R7 hb3 ht hl ⟨rfl,rfl⟩) fun v y8 m8 s8 hy8 R8 S8 q8=>?_
 refine aq q8 ?_;clear q8;intro e109r0_0 e109r0_1
 subst e109r0_0
 subst e109r0_1
 have hlt:bs.idxOf true<(ws++Kk r u).length:=(Kn.mp hw).1
 refine aS R8 (p5 (Q:=fun v m=>v= .str (Str.ofString w)/\m=m8) R8 (aY R7 S8 (aY R6 S7 hy6)) hy8 ⟨_,_,bs.idxOf true,.str (Str.ofString w),rfl,(by refine rwl hd3' ?_;rfl:iG _=_),?_,?_,?_,rfl,rfl⟩ rfl) fun v y9 m9 s9 hy9 R9 S9 q9=>?_
 ·unfold eh;exact rwl (if_pos (Lv _) ..) (rwl (Ki ..) (rwl (L4 ..) (rwl (if_pos hlt ..) rfl)))
 ·refine rwl (KH) (rwl hw ?_);rfl
 ·refine rwl (Ki ..) (rwl (Km ..) (rwl (L6 ..) ?_));exact hlw
 refine aq q9 ?_;clear q9;intro e110r0_0 e110r0_1
 subst e110r0_0
 subst e110r0_1
 exact⟨y9,l,_,rfl,hy9,R9,S.trans (S1.trans (S2.trans (S25.trans (S6.trans (S7.trans (S8.trans S9)))))).toFr,fun c o e=>hkeep c o (hx c o e)⟩
theorem uI(ok:iY W G)(hsc:dj sc env)(hv:di vis)(hA:A.handled=some (.ref a))(hfr:¬gk env a)(hij:i≠j)(hj:j<loc.length)(hq:q<loc.length)(R:bx W env vis loc mem s)(X:jQ W k a mem s.heap)(hi:bS loc i=some (.ref a)){cs ds es:List ie}{ws:List String}{u w:String}{r:Nat}{l:List Mc}
  (hl:(cs++ds++es).length<1000) (hlw:ws.length+r<1000) (h1:((cR k (cs++ds++es)).filter id).length=1) (hw:(ws++Kk r u)[(cR k (cs++ds++es)).idxOf true]? =some w) (hc:wa vis sc i j q cs ds es ws u r l=true):
  KP (model W.prog W.w) A (execs l env) (fun f s'=>∃y l' mem',f= .ret y/\aP W s'.heap (.str (Str.ofString w)) y/\bx W env vis l' mem' s'/\aM (gk env) mem s.heap mem' s'.heap/\∀c o,mem c=some o->mem' c=some o) E s:=by
 have lid1:∀m:Nat,m<1000->m<br:=fun m h=>by unfold br;walk_at"o"
 rw[Km,Km] at hl
 refine th hc ?_;clear hc;intro s1 s2 s3 s4 s5 hc
 refine aj hc ?_;clear hc;intro c1 hc
 refine aj hc ?_;clear hc;intro c2 hc
 refine aj hc ?_;clear hc;intro c3 hc
 refine aj hc fun c4 c5=>?_
 have plen:∀cs:List ie,(cR k cs).length=cs.length:=fun cs=>by unfold cR;exact rwl (Ki ..) rfl
 have hpk:cR k (cs++ds++es)=cR k cs++cR k ds++cR k es:=by unfold cR;exact rwl KT (rwl KT rfl)
 rw[hpk] at h1 hw
 have hlp:(cR k cs++cR k ds++cR k es).length<br:=by refine rwl (Km ..) (rwl (Km ..) (rwl (plen ..) (rwl (plen ..) (rwl (plen ..) ?_))));exact lid1 _ hl
 have ht:true∈cR k cs++cR k ds++cR k es:=by
  have:(cR k cs++cR k ds++cR k es).filter id≠ []:=fun q=>by rw[q] at h1;exact Nat.noConfusion h1
  refine aO (List.exists_mem_of_ne_nil _ this:) fun c hcm=>?_
  refine aq (K5.mp hcm:) fun h3 h4=>?_
  have:c=true:=h4
  refine rwb this ?_;exact h3
 refine wpAny_execs_cons (KB (z0 ok hsc hv hfr hij hj R X hi (lid1 _ (Jc hl)) c1) (fun f s1 q=>?_) fun _ _ z=>z)
 refine aq q ?_;clear q;intro e118r0_0 K1
 subst e118r0_0
 refine wpAny_execs_cons (KB (tr ok hsc hv hfr hij hj K1 (by refine rwl (plen ..) ?_;exact lid1 _ (Jw hl)) c2) (fun f s1 q=>?_) fun _ _ z=>z)
 refine aq q ?_;clear q;intro e119r0_0 K2
 subst e119r0_0
 refine wpAny_execs_cons (KB (tr ok hsc hv hfr hij hj K2 (by refine rwl (Km ..) (rwl (plen ..) (rwl (plen ..) ?_));exact lid1 _ (by walk_at"o")) c3) (fun f s1 q=>?_) fun _ _ z=>z)
 refine aq q ?_;clear q;intro e120r0_0 K3
 subst e120r0_0
 refine wpAny_execs_cons (KB (yU ok hsc hv hA hq K3 hlp h1 c4) (fun f s1 q=>?_) fun _ _ z=>z)
 refine aq q ?_;clear q;intro e121r0_0 K4
 subst e121r0_0
 refine wpAny_execs_cons (KB (yP hsc K4 hlp ht hw (lid1 _ hlw) c5) (fun f s1 q=>?_) fun _ _ z=>z)
 refine mT q ?_;clear q;intro y l' mem' e122r0_3 q
 subst e122r0_3
 exact⟨y,l',mem',rfl,q⟩
end
end TD.Internal
namespace TD.Internal
open PySem PyProof.Rows
section inv
variable{FT:Nat->Option Fn}{ids:List Nat}{vis:List (Nat×Str)}{sc:Scope}{st:Mc}
@[elab_as_elim] theorem uS{e:Ex}(h:lW FT ids vis sc (.expr e) st=true){P:Mc->Prop}(kk:∀v p,eF v=true->aA FT ids vis sc e v=true->P (.Expr v p)):P st:=by
 refine jb h ?_;clear h;intro v p h
 exact kk v p (bT h).1 (bT h).2
@[elab_as_elim] theorem w5{e:Ex}(h:lW FT ids vis sc (.ret e) st=true){P:Mc->Prop}(kk:∀v p,aA FT ids vis sc e v=true->P (.Return (some v) p)):P st:=iH h kk
@[elab_as_elim] theorem w7{i:Nat}{e:Ex}(h:lW FT ids vis sc (.asg i e) st=true){P:Mc->Prop}(kk:∀x px v p,cK vis sc i x=true->aA FT ids vis sc e v=true->P (.Assign [.Name x px] v p)):P st:=by
 refine eV h ?_;clear h;intro t v p h
 refine bM h ?_;clear h;intro x px h
 exact kk x px v p (bT h).1 (bT h).2
@[elab_as_elim] theorem qS{i j:Nat}{e:Ex}(h:lW FT ids vis sc (.asgTwo i j e) st=true){P:Mc->Prop}(kk:∀t v p new,i7 (.two i j) t=some new->(∀q∈new,cK vis sc q.1 q.2=true)->eF v=true->uJ v=true->aA FT ids vis sc e v=true->P (.Assign [t] v p)):P st:=by
 refine eV h ?_;clear h;intro t v p h
 refine af (bX h:) ?_;clear h;intro new hT h
 refine aj h ?_;clear h;intro h1 h
 refine aj h ?_;clear h;intro h2 h
 exact kk t v p new hT (KI.mp h1) h2 (bT h).1 (bT h).2
@[elab_as_elim] theorem rq{o i e:Ex}(h:lW FT ids vis sc (.asgSub o i e) st=true){P:Mc->Prop}(kk:∀e1 e2 ps v p,eF v=true->aA FT ids vis sc e v=true->aA FT ids vis sc o e1=true->aA FT ids vis sc i e2=true->P (.Assign [.Subscript e1 e2 ps] v p)):P st:=by
 refine eV h ?_;clear h;intro t v p h
 refine f9 h ?_;clear h;intro e1 e2 ps h
 refine aj h ?_;clear h;intro h1 h
 refine aj h ?_;clear h;intro h2 h
 exact kk e1 e2 ps v p h1 h2 (bT h).1 (bT h).2
@[elab_as_elim] theorem pG{o e:Ex}{f:Nat}(h:lW FT ids vis sc (.asgAttr o f e) st=true){P:Mc->Prop}(kk:∀e1 pa v p,f<2->aA FT ids vis sc e v=true->aA FT ids vis sc o e1=true->P (.Assign [.Attribute e1 (Str.ofString (de f)) pa] v p)):P st:=by
 refine eV h ?_;clear h;intro t v p h
 refine gr h ?_;clear h;intro e1 n pa h
 refine aj h fun h1 g1=>?_
 refine aj g1 fun h2 g2=>?_
 refine fP h2 ?_
 exact kk e1 pa v p (of_decide_eq_true h1) (bT g2).1 (bT g2).2
@[elab_as_elim] theorem wD{c:Ex}{t e:eM}(h:lW FT ids vis sc (.ifs c t e) st=true){P:Mc->Prop}(kk:∀a b o p,aA FT ids vis sc c a=true->gA FT ids vis sc t b=true->gA FT ids vis sc e o=true->P (.If a b o p)):P st:=by
 refine qI h ?_;clear h;intro a b o p h
 refine aj h ?_;clear h;intro h1 h
 exact kk a b o p h1 (bT h).1 (bT h).2
@[elab_as_elim] theorem uM{t:Tg}{k:i5}{src:Ex}{b:eM}(h:lW FT ids vis sc (.fors t k src b) st=true){P:Mc->Prop}(kk:∀target iter body p new e1,(i7 t target=some new/\k.two t=true)->(∀q∈new,cK vis sc q.1 q.2=true)->eK iter=true->lG sc k.call iter e1->aA FT ids vis sc src e1=true->gA FT ids vis sc b body=true->P (.For target iter body [] p)):P st:=by
 refine u4 h ?_;clear h;intro target iter body p h
 refine af (bX h:) ?_;clear h;intro new hT h
 refine aj h ?_;clear h;intro h1 h
 refine aj h ?_;clear h;intro h2 h
 refine aj h fun h3 h4=>?_
 refine af (lP h3:) fun e1 hk h5=>?_
 exact kk target iter body p new e1 ⟨hT,(bT h1).2⟩ (KI.mp (bT h1).1) h2 hk h5 h4
@[elab_as_elim] theorem qO{c:Ex}{b:eM}(h:lW FT ids vis sc (.whiles c b) st=true){P:Mc->Prop}(kk:∀a body p,aA FT ids vis sc c a=true->gA FT ids vis sc b body=true->P (.While a body [] p)):P st:=by
 refine qT h ?_;clear h;intro a b p h
 exact kk a b p (bT h).1 (bT h).2
@[elab_as_elim] theorem tS{c:ie}{g:String}(h:lW FT ids vis sc (.raise c g) st=true){P:Mc->Prop}(kk:∀x px k1 p1 cp p,(7<=c.code/\c.code<=14)->bW sc (dA c.code) x=true->P (.Raise (some (.Call (.Name x px) [.Constant (.str (Str.ofString g)) k1 p1] [] cp)) none p)):P st:=by
 refine pg h fun e c' p h3=>?_
 clear h
 refine aj h3 fun h0 h4=>?_
 refine cQ h4 fun e h5=>?_
 refine bI h5 fun x px es cp h6=>?_
 refine aj h6 fun h1 h7=>?_
 refine aj h1 ?_;clear h1;intro h1 h2
 refine bc h7 fun e1 h8=>?_
 refine bu h8 fun t k1 p1 h9=>?_
 cases MN.mp h0
 obtain rfl:=eq_of_beq h9
 exact kk x px k1 p1 cp p (of_decide_eq_true h1) h2
@[elab_as_elim] theorem tj{s:St}{ss:eM}{l:List Mc}(h:gA FT ids vis sc (.cons s ss) l=true){P:List Mc->Prop}(kk:∀x r,lW FT ids vis sc s x=true->gA FT ids vis sc ss r=true->P (x::r)):P l:=by
 cases l with
 |nil=>exact nb h
 |cons x r=>exact kk x r (bT h).1 (bT h).2
theorem xS{l:List Mc}(h:gA FT ids vis sc .nil l=true):l= []:=LM.mp h
end inv
theorem gP.rel{W:Cx}{env:Env}{vis:List (Nat×Str)}{loc:aL}{mem:Mem}{s:Kv}{Q:ae->Mem->Prop}{D C':Addr}{s':Kv}(R:bx W env vis loc mem s)(h:gP W env mem s (fun ys m'=>bf m' ys Q) D C' s'):
  ∃mem2,bx W env vis loc mem2 s'/\aM fb mem s.heap mem2 s'.heap/\Q (.ref D) mem2/\mem2 C'=none/\s.heap.get? C'=none/\∃m,s'.heap.Ns C' m:=by
 refine BL h ?_;clear h;intro mem' ys vs m hD hC hne hnsC w32r0_8 hr hM hS hmC hmD hf
 refine aO w32r0_8 ?_;clear w32r0_8;intro nD eD
 have hbase:∀b,s.heap.get? b=none->W.base.get? b=none:=fun b e=>by
  cases q:W.base.get? b with
  |none=>rfl
  |some o=>rw[R.m.stays b o q] at e;injection e
 have M2:bC W (mem'.set D (.list ys)) s':=by
  refine⟨hM.stays,fun b o e=>?_,hM.gens,hM.os⟩
  unfold Mem.set at e
  split at e
  ·rename_i q;subst q;cases e
   exact⟨⟨vs,⟨nD,eD⟩,hr⟩,hbase _ hD⟩
  ·exact hM.mems b o e
 have S2:aM fb mem s.heap (mem'.set D (.list ys)) s'.heap:=⟨hS.alive,hS.keep,fun b hb hb'=>by
  unfold Mem.set at hb'
  split at hb'
  ·rename_i q;subst q;exact hD
  ·exact hS.grow b hb hb'⟩
 refine⟨_,R.step M2 S2,S2,hf.2 D hmD,?_,hC,m,hnsC⟩
 unfold Mem.set
 refine rwl (if_neg hne) ?_;exact hmC
theorem w2{t v:KX}{env:Env}(h:uJ v=true):swappedStores [t] v env=pure none:=by
 cases t<;>first|rfl|(cases v<;>first|exact nb h|rfl)
theorem ja{FT:Nat->Option Fn}{ids:List Nat}{vis:List (Nat×Str)}{sc:Scope}{e:Ex}{ex:KX}(h:aA FT ids vis sc e ex=true)(he:(tA e==8)=false):eF ex=true:=by
 unfold eF
 refine rwl (rB h) (rwl he (rwl (beq_false_of_ne fun q=>vL (n:=9) q (by decide) rfl) (rwl (beq_false_of_ne fun q=>vL (n:=10) q (by decide) rfl) ?_)))
 rfl
theorem AM{e:Ex}(h:tA e=8):∃elt t k src cond,e= .comp elt t k src cond:=by
 cases e with
 |comp elt t k src cond=>exact⟨elt,t,k,src,cond,rfl⟩
 |_=>exact absurd h (fun q=>nb (congrArg (fun n=>n==8) q:false=true))
noncomputable def BW (W:Cx) (A:Around) (env:Env) (vis:List (Nat×Str)) (mem:Mem) (s:Kv) (Y:Nat->aL->Mem->Prop) (E:KC->Kv->Prop):Prop:=
 (∃outer,A.frames=some (env::outer)/\dm W.base (env::outer) mem s.heap/\∀b∈Ag outer,¬gk env b)/\qh W/\
  ∀k l m' a s',7<=k->z1 s.heap (mO W k) a s'.heap->bx W env vis l m' s'->m' a=none->aM (gk env) mem s.heap m' s'.heap->Y k l m'->E (.ref a) s'
noncomputable def xQ (W:Cx) (A:Around) (env:Env) (vis:List (Nat×Str)) (mem:Mem) (s:Kv) (Y:Nat->aL->Mem->Prop) (E:KC->Kv->Prop):Prop:=(∀k l m,¬Y k l m)\/BW W A env vis mem s Y E
theorem dm.cons{W:Cx}{env:Env}{vis:List (Nat×Str)}{loc:aL}{fs:List Env}{mem:Mem}{s:Kv}(R:bx W env vis loc mem s)(hf:env.frame=some env.locals)(F:dm W.base fs mem s.heap):dm W.base (env::fs) mem s.heap:=fun e he=>by
 rcases Kw.mp he with rfl|he
 ·exact⟨R.e.kind,hf,R.new _ (.inl rfl),R.sep _ (.inl rfl),R.hasNs⟩
 ·exact F e he
theorem dm.tail{W:Cx}{env:Env}{fs:List Env}{mem:Mem}{h:Lw}(F:dm W.base (env::fs) mem h):dm W.base fs mem h:=fun e he=>F e (.tail _ he)
theorem BW.step{W:Cx}{A:Around}{env:Env}{vis:List (Nat×Str)}{loc:aL}{mem m1:Mem}{s s1:Kv}{Y:Nat->aL->Mem->Prop}{E:KC->Kv->Prop}(h:BW W A env vis mem s Y E)(R:bx W env vis loc m1 s1)(S:aM (gk env) mem s.heap m1 s1.heap):BW W A env vis m1 s1 Y E:=by
 refine cI h ?_;clear h;intro w33r0_0 hC hE
 refine bq w33r0_0 ?_;clear w33r0_0;intro outer hf F ap
 refine⟨⟨outer,hf,dm.cons R (F env (.head _)).2.1 (F.tail.step S ap),ap⟩,hC,fun k l m' a s' h7 X R' hm S' hy=>?_⟩
 exact hE k l m' a s' h7 (X.back S.alive) R' hm (S.trans S') hy
theorem xQ.step{W:Cx}{A:Around}{env:Env}{vis:List (Nat×Str)}{loc:aL}{mem m1:Mem}{s s1:Kv}{Y:Nat->aL->Mem->Prop}{E:KC->Kv->Prop}(h:xQ W A env vis mem s Y E)(R:bx W env vis loc m1 s1)(S:aM (gk env) mem s.heap m1 s1.heap):xQ W A env vis m1 s1 Y E:=h.imp id fun h=>h.step R S
theorem BW.call{W:Cx}{A:Around}{env:Env}{vis:List (Nat×Str)}{loc:aL}{mem m1:Mem}{s s1:Kv}{Y:Nat->aL->Mem->Prop}{E:KC->Kv->Prop}(h:BW W A env vis mem s Y E)(R:bx W env vis loc mem s)(M1:bC W m1 s1)(S1:aM fb mem s.heap m1 s1.heap):HM W A m1 s1 (fun c m'=>Y c loc m') E:=by
 refine cI (h.step (R.step M1 S1) S1.toFr:) fun w34r0_0 hC hE=>?_
 refine bq w34r0_0 ?_;clear w34r0_0;intro outer hf F ap
 exact⟨⟨_,hf,F⟩,hC,fun k m' a s' h7 X M' hm S' hy=>hE k loc m' a s' h7 X ((R.step M1 S1).step M' S') hm S'.toFr hy⟩
theorem xQ.call{W:Cx}{A:Around}{env:Env}{vis:List (Nat×Str)}{loc:aL}{mem m1:Mem}{s s1:Kv}{Y:Nat->aL->Mem->Prop}{E:KC->Kv->Prop}(h:xQ W A env vis mem s Y E)(R:bx W env vis loc mem s)(M1:bC W m1 s1)(S1:aM fb mem s.heap m1 s1.heap):Hp W A m1 s1 (fun c m'=>Y c loc m') E:=
 h.imp (fun h k m=>h k loc m) fun h=>h.call R M1 S1
theorem xQ.tok{W:Cx}{A:Around}{env:Env}{vis:List (Nat×Str)}{loc:aL}{mem:Mem}{s:Kv}{Y:Nat->aL->Mem->Prop}{E:KC->Kv->Prop}(h:xQ W A env vis mem s Y E):jd W A mem s (tk Y loc):=
 h.imp (fun h k m q=>h _ _ _ q.2) fun⟨⟨outer,hf,F,_⟩,hC,_⟩=>⟨fun k m q=>q.1,hC,_,hf,F⟩
theorem xQ.loop{W:Cx}{A:Around}{env:Env}{vis:List (Nat×Str)}{loc:aL}{mem m1:Mem}{s s1:Kv}{Y:Nat->aL->Mem->Prop}{E E':KC->Kv->Prop}(h:xQ W A env vis mem s Y E)(R:bx W env vis loc m1 s1)(S:aM (gk env) mem s.heap m1 s1.heap):xQ W A env vis m1 s1 (Hn Y) E':=
 (h.step R S).imp (fun h k l m q=>h _ _ _ q.2) fun⟨h1,hC,_⟩=>⟨h1,hC,fun k l m' a s' h7 _ _ _ _ q=>by rw[q.1] at h7;exact absurd h7 (by decide)⟩
theorem BQ{W:Cx}{FT:Nat->Option Fn}{ids:List Nat}{G:String->Option ae}{n:Nat}{A:Around}{C:bb}(SC:A1 W FT ids G n A C){f:Nat}{args:fC}{ex:KX}{env:Env}{vis:List (Nat×Str)}{sc:Scope}{loc:aL}{Q:ae->Mem->Prop}{X:Nat->Mem->Prop}{mem:Mem}{s:Kv}{E:KC->Kv->Prop}
  (hc:aA FT ids vis sc (.call f args) ex=true) (hsc:dj sc env) (hv:di vis) (R:bx W env vis loc mem s) (h:lx C G iZ args loc (fun vs m1=>C f vs Q X m1) mem) (hX:∀m1 s1,bC W m1 s1->aM fb mem s.heap m1 s1.heap->Hp W A m1 s1 X E):
  KP (model W.prog W.w) A (eval ex env) (PM W mem s Q) E s:=by
 refine nF hc fun x px es p fn h1 h2 h0 h3 h4 h5=>?_
 refine gf (SC.call f h1 fn h2:) fun a o fd hm ho hd hcall=>?_
 refine aX (cy R SC.ok hsc h3 (hm.1 h0) ?_)
 refine Calls.callWith_function (o:=o) (fd:=fd) ?_
 cases es with
 |nil=>exact absurd rfl h4
 |cons e0 er=>
  refine rwl (bK (bU h5 e0 (.head _))) ?_
  refine Calls.evalArgs_plain ?_
  refine rwb (bK (bU h5 e0 (.head _))) ?_
  refine KB (iu SC args h5 hsc hv .no R h) (fun vs s1 q=>?_) fun _ _ x=>x
  refine dJ q ?_;clear q;intro us m1 hr M1 S1 q1
  exact⟨⟨M1.stays _ _ ho,hd⟩,bp S1 (hcall A (.inl rfl) us vs Q X m1 s1 E (hX m1 s1 M1 S1) q1 M1 hr)⟩
section
variable{W:Cx}{env:Env}{vis:List (Nat×Str)}{loc:aL}{mem:Mem}{s:Kv}
theorem yX{i:Nat}{x:Str}{v:ae}{h':Lw}{m:Str->Option KC}{y:Option KC}{tk:Nat}(R:bx W env vis (ay loc i v) mem s)(hv:di vis)(hx:(i,x)∈vis)(hk:env.kindOf x=some .local)(hi:bS loc i=none)
  (hm:∀j z u,(j,z)∈vis->bS (ay loc i v) j=some u->env.kindOf z=some .local->∃y,m z=some y/\aP W s.heap u y)
  (hns:s.heap.Ns env.locals m) (hn:h'.Ns env.locals (fun z=>if z=x then y else m z)) (hs:Heap.SameBut env.locals s.heap h'):bx W env vis loc mem {s with heap:=h',toks:=tk}/\aM (gk env) mem s.heap mem h':=by
 have hL:∃o,h'.get? env.locals=some o:=by obtain⟨o,_,_,e,_⟩:=hn;exact⟨o,e⟩
 have kb:∀b o,b≠env.locals->s.heap.get? b=some o->h'.get? b=some o:=fun b o hb e=>(hs.2 b hb).trans e
 have kf:cM s.heap h':=fun b o e hf=>by
  refine kb b o ?_ e
  rintro rfl
  exact R.e.dok _ o (.inl rfl) e hf
 have St:aM (gk env) mem s.heap mem h':=by
  refine⟨fun b e=>?_,fun b o e hm' hd=>⟨o,kb b o (fun q=>hd (.inl q)) e,.refl o⟩,fun _ a b=>absurd a b⟩
  by_cases hb:b=env.locals
  ·subst hb;obtain⟨o,ho⟩:=hL;rw[ho] at e;injection e
  ·refine rwb (hs.2 b hb) ?_;exact e
 refine⟨⟨⟨fun b o e=>kb b o (by rintro rfl;rw[R.new _ (.inl rfl)] at e;injection e) (R.m.stays b o e),fun b o e=>?_,R.m.gens,R.m.os⟩,?_,R.sep,R.new⟩,St⟩
 ·refine aq (R.m.mems b o e:) fun r nb=>?_
  have hb:b≠env.locals:=by rintro rfl;rw[R.sep _ (.inl rfl)] at e;injection e
  exact⟨r.at (fun _ e=>kb _ _ hb e) kf,nb⟩
 ·have kc:∀z c u,env.cells.lookup z=some c->s.heap.IsCell c u->h'.IsCell c u:=fun z c u hz ⟨o,e,hd⟩=>by
   refine⟨o,kb c o ?_ e,hd⟩
   rintro rfl
   refine iU hns ?_;clear hns;intro o' es ep e' hd' _
   rw[e] at e';(injection e' with e';cases e');rw[hd] at hd';injection hd'
  have ne:∀j u,bS loc j=some u->j≠i:=fun j u q e=>by rw[e,hi] at q;injection q
  refine⟨R.e.kind,R.e.glob,R.e.blt,⟨_,hn,fun j z u hj hg hkz=>?_⟩,fun j z u k hj hg hkz hc=>?_,R.e.cellk,fun z c hz=>let ⟨o,ho⟩:=R.e.cells z c hz;⟨o,kc z c _ hz ho⟩,R.e.apart⟩
  ·have hne:=ne j u hg
   have:z≠x:=fun q=>hne ((hv _ _ _ _ hj hx).mpr q)
   refine af (hm j z u hj (lz hg hne) hkz:) fun y' h1 h2=>?_
   exact⟨y',by simp [this,h1],h2.keep kf⟩
  ·refine bB (R.e.cell j z u k hj (lz hg (ne j u hg)) hkz hc:) fun c y' h1 h2 h3=>?_
   exact⟨c,y',h1,kc z c _ h1 h2,h3.keep kf⟩
theorem bx.off0(R:bx W env vis loc mem s):bx W env vis [] mem s:=by
 refine af R.e.ns fun m hns _=>?_
 exact⟨R.m,⟨R.e.kind,R.e.glob,R.e.blt,⟨m,hns,fun _ _ _ _ q=>by injection q⟩,(fun _ _ _ _ _ q=>by injection q),R.e.cellk,R.e.cells,R.e.apart⟩,R.sep,R.new⟩
end
mutual
theorem C3{W:Cx}{FT:Nat->Option Fn}{ids:List Nat}{G:String->Option ae}{n:Nat}{A:Around}{C:bb}(SC:A1 W FT ids G n A C):∀(st:St) {sx:Mc} {env:Env} {vis:List (Nat×Str)} {sc:Scope} {loc:aL} {P:Flow->aL->Mem->Prop} {Y:Nat->aL->Mem->Prop} {mem:Mem} {s:Kv} {E:KC->Kv->Prop},
  lW FT ids vis sc st sx=true->dj sc env->di vis->xQ W A env vis mem s Y E->bx W env vis loc mem s->vP C G st P Y loc mem->KP (model W.prog W.w) A (exec sx env) (PS W env vis mem s P) E s
 | .expr e,sx,env,vis,sc,loc,P,Y,mem,s,E,hc,hsc,hv,hY,R,h=>by
  refine uS hc fun v p h1 h2=>?_
  refine wpAny_Expr (aS R ((aD SC e).1 h2 hsc hv .no R h) fun u y m1 s1 hy R1 S1 q1=>?_) (gc R.e.kind) (fW h1)
  refine aq q1 ?_;clear q1;intro q1 q2
  have:∀a,y≠ .ref a:=fun a e=>by
   subst e
   cases u<;>first|exact q1.elim|skip
   ·have:=hy.none';exact PySem.Value.noConfusion this
   ·have:=hy.bool;exact PySem.Value.noConfusion this
   ·obtain⟨_,q⟩:=hy.int;exact PySem.Value.noConfusion q
  split
  ·exact absurd rfl (this _)
  ·exact⟨.next,loc,m1,rfl,R1,S1.toFr,q2⟩
 | .ret e,sx,env,vis,sc,loc,P,Y,mem,s,E,hc,hsc,hv,hY,R,h=>by
  refine w5 hc fun v p h2=>?_
  exact wpAny_Return_some (aS R ((aD SC e).1 h2 hsc hv hY.tok R h) fun u y m1 s1 hy R1 S1 q1=>⟨.ret u,loc,m1,⟨y,rfl,hy⟩,R1,S1.toFr,q1⟩)
 | .asg i e,sx,env,vis,sc,loc,P,Y,mem,s,E,hc,hsc,hv,hY,R,h=>by
  refine w7 hc fun x px v p h1 h2=>?_
  refine aq (cC hsc h1:) fun hm hk=>?_
  have plain:∀(hs:swapsWith v (some (.Name x px)) p.line env=pure false),KP (model W.prog W.w) A (exec (.Assign [.Name x px] v p) env) (PS W env vis mem s P) E s:=fun hs=>by
   refine wpAny_Assign_Name (aS R ((aD SC e).1 h2 hsc hv hY.tok R h) fun u y m1 s1 hy R1 S1 q1=>?_) hs
   exact dp R1 hv hm hk hy fun s2 R2 S2 _=>⟨.next,_,m1,rfl,R2,S1.toFr.trans S2,q1⟩
  cases hb8:(tA e==8) with
  |false=>exact plain (fW (ja h2 hb8))
  |true=>
   refine Io (AM (beq_iff_eq.mp hb8):) fun elt t k src cond e48r0_5=>?_
   subst e48r0_5
   refine IY (Aa h2:) fun elt' target iter ifs csc pc new e1 e0 w49r0_9 c1 c2 c3 c4 c5 c6=>?_
   subst e0
   refine aq w49r0_9 ?_;clear w49r0_9;intro hT hk2
   have hsw:swapsWith (.ListComp elt' [⟨target,iter,ifs,0⟩] csc pc) (some (.Name x px)) p.line env=pure (env.blockKind== .function&&env.kindOf x==some .local&&px.line==pc.line&& !(csc.names.any fun(n,k)=>n==x&&(k== .local||k== .cell))):=rfl
   cases hb:(env.blockKind== .function&&env.kindOf x==some .local&&px.line==pc.line&& !(csc.names.any fun(n,k)=>n==x&&(k== .local||k== .cell))) with
   |false=>rw[hb] at hsw;exact plain hsw
   |true=>
    rw[hb] at hsw
    have hloc:env.kindOf x=some .local:=by
     simp only[KW,beq_iff_eq] at hb
     exact hb.1.1.2
    refine rwl (exec_Assign_Name_used _ _ _ _ hsw) ?_
    refine Kx (wpAny_standAt (Kx ?_))
    refine(?_:KP _ A (do let _<-comprehension (.ListComp elt' [⟨target,iter,ifs,0⟩] csc pc) csc env (firstIterPos [⟨target,iter,ifs,0⟩] pc) (newList []) false (eval iter env) (some (assign (.Name x px) env))) _ _ s)
    have hi:=(bQ c1).2.2.2.2.2.2
    have hv':=jG hT hv hi
    refine Kx (KB (sC (PP:=fun _ s'=>PS W env vis mem s P .next s') (use:=some (assign (.Name x px) env)) SC.room.handled SC.ok R hsc c1 c2 hT hk2 hv hi (dw c4) c3 ((aD SC src).1 c4 hsc hv hY.tok R h) (fun C' l P mem' s' E' R' hb=>oU SC cond c6 iJ hv' .no R' hb) (fun C' l P mem' s' E' R' he=>(aD SC elt).1 c5 iJ hv' .no R' he) fun D C' s' hl=>?_) (fun _ s' q=>KV (KV q)) fun _ _ x=>x)
    obtain⟨mem2,R2,S2,hq,hmC,hsC,m,hnC⟩:=hl.rel R
    refine wpAny_assign_Name (dp R2 hv hm (.inl hloc) .mkRef fun s3 R3 S3 ⟨a,_,ha,hs⟩=>?_)
    obtain rfl:=ha hloc
    have hCL:C'≠env.locals:=by rintro rfl;obtain⟨o,e⟩:=R.hasNs;obtain⟨o,_,_,e,_⟩:=e;rw[hsC] at e;injection e
    have hn3:s3.heap.Ns C' m:=by
     refine mT hnC ?_;clear hnC;intro o es ep e r
     exact⟨o,es,ep,(hs.2 C' hCL).trans e,r⟩
    refine⟨m,hn3,fun h' hs'=>?_⟩
    have hbC:W.base.get? C'=none:=by
     cases q:W.base.get? C' with
     |none=>rfl
     |some o=>rw[R.m.stays C' o q] at hsC;injection hsC
    have hfrC:¬gk env C':=fun hb=>by obtain⟨o,e,_⟩:=R.e.there hb;rw[hsC] at e;injection e
    have kb:eJ (·=C') s3.heap h':=fun b o hb e=>(hs'.2 b hb).trans e
    obtain⟨R4,_⟩:=R3.off (s':={s3 with heap:=h'}) (·=C') (fun b q=>q▸hmC) (fun b q=>q▸hbC) (fun b q=>q▸hfrC) (fun b o q e hf=>by
     subst q
     refine iU hn3 ?_;clear hn3;intro o' es ep e' hd _
     rw[e] at e';(injection e' with e';cases e')
     obtain⟨_,_,_,q⟩:=hf;rw[hd] at q;injection q) kb
    exact⟨.next,_,mem2,rfl,R4,(S2.toFr.trans S3).off (·=C') (fun b hb=>hb▸hsC) (fun b o hb e=>kb b o hb e),hq⟩
 | .asgTwo i j e,sx,env,vis,sc,loc,P,Y,mem,s,E,hc,hsc,hv,hY,R,h=>by
  refine qS hc fun t v p new hT hst h0 h1 h2=>?_
  refine wpAny_Assign_stores (aS R ((aD SC e).1 h2 hsc hv .no R h) fun u y m1 s1 hy R1 S1 q1=>?_) (fW h0) (w2 h1)
  refine af q1 ?_;clear q1;intro l hl q1
  refine Gv (fS hT:) fun z pz z' pz' kk pp e55r0_6 _=>?_
  subst e55r0_6
  exact qY R1 (.inl SC.room.handled) hv hT (fun q hq=>(cC hsc (hst q hq)).1) (fun q hq=>(cC hsc (hst q hq)).2) hy hl fun s2 R2 S2 _=>⟨.next,l,m1,rfl,R2,S1.toFr.trans S2,q1⟩
 | .asgSub o i e,sx,env,vis,sc,loc,P,Y,mem,s,E,hc,hsc,hv,hY,R,h=>by
  refine rq hc fun e1 e2 ps v p h0 h1 h2 h3=>?_
  have hX:∀{m s'},jd W A m s' iZ:= .no
  refine wpAny_Assign_Subscript (aS R ((aD SC e).1 h1 hsc hv hX R h) fun u y m1 s1 hy R1 S1 q1=>?_) (fW h0)
  refine aS R1 ((aD SC o).1 h2 hsc hv hX R1 q1) fun x xv m2 s2 hx R2 S2 q2=>?_
  refine aS R2 ((aD SC i).1 h3 hsc hv hX R2 q2) fun z zv m3 s3 hz R3 S3 q3=>?_
  refine je q3 ?_;clear q3;intro a k xs e57r0_3 e57r0_4 em hl hp hq
  subst e57r0_3
  subst e57r0_4
  obtain rfl:=hx.ref
  refine aO hz.int fun t e58r0_1=>?_
  subst e58r0_1
  refine KB (sZ R3 em hl hp.1 hp.2 (aY R2 S3 (aY R1 S2 hy)) hq) (fun _ s4 q=>?_) fun _ _ x=>x
  refine dJ q ?_;clear q;intro _ m4 _ M4 S4 q4
  exact⟨.next,loc,m4,rfl,R3.step M4 S4,(S1.trans (S2.trans (S3.trans S4))).toFr,q4⟩
 | .asgAttr o f e,sx,env,vis,sc,loc,P,Y,mem,s,E,hc,hsc,hv,hY,R,h=>by
  refine pG hc fun e1 pa v p hf h1 h2=>?_
  have hX:∀{m s'},jd W A m s' iZ:= .no
  refine plainObj_wpAny_Assign_Attribute (aS R ((aD SC e).1 h1 hsc hv hX R h) fun u y m1 s1 hy R1 S1 q1=>?_) ue
  refine aS R1 ((aD SC o).1 h2 hsc hv hX R1 q1) fun x xv m2 s2 hx R2 S2 q2=>?_
  refine KB (pF R2 SC.est hx (aY R1 S2 hy) q2) (fun _ s3 q=>?_) fun _ _ x=>x
  refine bq q ?_;clear q;intro m3 M3 S3 q3
  exact⟨.next,loc,m3,rfl,R2.step M3 S3,(S1.trans (S2.trans S3)).toFr,q3⟩
 | .ifs c t e,sx,env,vis,sc,loc,P,Y,mem,s,E,hc,hsc,hv,hY,R,h=>by
  refine wD hc fun a b o p h1 h2 h3=>?_
  refine wpAny_If (KB ((aD SC c).2 h1 hsc hv hY.tok R h) (fun b s1 q=>?_) fun _ _ x=>x)
  refine bq q ?_;clear q;intro m1 M1 S1 q1
  have R1:=R.step M1 S1
  cases b with
  |true=>exact rG S1.toFr (jM SC t h2 hsc hv (hY.step R1 S1.toFr) R1 (q1.1 rfl))
  |false=>exact rG S1.toFr (jM SC e h3 hsc hv (hY.step R1 S1.toFr) R1 (q1.2 rfl))
 | .fors t k src b,sx,env,vis,sc,loc,P,Y,mem,s,E,hc,hsc,hv,hY,R,h=>by
  refine uM hc fun target iter body p new e1 w64r0_7 hst hns hk h1 h2=>?_
  refine aq w64r0_7 ?_;clear w64r0_7;intro hT hk2
  refine wpAny_For ?_ (fun x=>gH hns x)
  refine lX SC.ok hsc R (dw h1) hk ((aD SC src).1 h1 hsc hv .no R h) fun I v xs mem1 s1 s' R1 S1 hI hit R' S' hcur hlen hq=>?_
  refine xx (E:=E) (f:=fun Q' l m'=>bJ C G b Q' (Hn Y) l m') SC.room.handled hv R1 R' S' hI hit hcur hT hk2 (fun q hq=>(cC hsc (hst q hq)).1) (fun q hq=>(cC hsc (hst q hq)).2) (fun l P' mem' s'' E' R'' S'' hb=>jM SC b h2 hsc hv (hY.loop R'' (S1.toFr.trans S'')) R'' hb) hq fun fl s'' q=>PS.trans S1.toFr q
 | .whiles c b,sx,env,vis,sc,loc,P,Y,mem,s,E,hc,hsc,hv,hY,R,h=>by
  refine qO hc fun a body p h1 h2=>?_
  refine aO h ?_;clear h;intro nn hw
  refine wpAny_While (codeAny_whileLoop (fun n' s'=>∃loc' mem',bx W env vis loc' mem' s'/\aM (gk env) mem s.heap mem' s'.heap/\
   ib (fun Q' l' m'=>bk C G iZ c l' (oO Q') m') (fun Q' l' m'=>bJ C G b Q' I7 l' m') n' P loc' mem') ?_ nn ⟨loc,mem,R,.refl,hw⟩)
  rintro n' s' ⟨loc',mem',R',S',hl⟩
  cases n' with
  |zero=>exact hl.elim
  |succ n'=>
   refine KB ((aD SC c).2 h1 hsc hv .no R' hl) (fun t s1 q=>?_) fun _ _ x=>x
   refine bq q ?_;clear q;intro m1 M1 S1 q1
   have R1:=R'.step M1 S1
   cases t with
   |false=>exact wpAny_execs_nil ⟨.next,loc',m1,rfl,R1,S'.trans S1.toFr,q1.2 rfl⟩
   |true=>
    refine KB (jM SC b h2 hsc hv (.inl fun _ _ _ z=>z) R1 (q1.1 rfl)) (fun fl s2 q=>?_) fun _ _ x=>x
    refine gf q ?_;clear q;intro fl' l2 m2 hfl R2 S2 q2
    have Sall:=S'.trans (S1.toFr.trans S2)
    cases fl' with
    |next=>obtain rfl:fl= .next:=hfl;exact⟨n',LW _,l2,m2,R2,Sall,q2⟩
    |cont=>obtain rfl:fl= .cont:=hfl;exact⟨n',LW _,l2,m2,R2,Sall,q2⟩
    |brk=>obtain rfl:fl= .brk:=hfl;exact⟨.next,l2,m2,rfl,R2,Sall,q2⟩
    |ret u=>
     obtain⟨y',rfl,hy'⟩:∃y,fl= .ret y/\aP W s2.heap u y:=hfl
     exact⟨.ret u,l2,m2,⟨y',rfl,hy'⟩,R2,Sall,q2⟩
 | .raise c g,sx,env,vis,sc,loc,P,Y,mem,s,E,hc,hsc,hv,hY,R,h=>by
  rcases hY with hY|⟨hF,hC,hE⟩
  ·exact(hY _ _ _ h).elim
  ·refine tS hc fun x px k1 p1 cp p h1 h2=>?_
   refine af hC ?_;clear hC;intro D hD hC
   refine bq (hC _ h1.1 h1.2:) fun C' hm X _=>?_
   have hcv:mO W c.code= .ref C':=by unfold mO;refine rwl hm ?_;rfl
   refine wZ SC.room.handled (X.keeps R.m.stays) (fun hP=>cy R SC.ok hsc h2 hm hP) fun h' e vs tk M=>?_
   have S:aM fb mem s.heap mem h':= .of_keeps M.keeps
   refine hE _ loc mem e _ h1.1 ⟨M.new,?_⟩ (R.step (R.m.of_keeps M.keeps) S) (R.m.mems.fresh M.new) S.toFr h
   refine bq M.there fun t he _ _=>?_
   exact⟨_,_,_,he,hcv.symm,rfl,rfl,rfl,.inl rfl⟩
 | .callS f args,sx,env,vis,sc,loc,P,Y,mem,s,E,hc,hsc,hv,hY,R,h=>by
  refine jb hc fun v p h2=>?_
  refine wpAny_Expr (aS R (BQ SC h2 hsc hv R h fun m1 s1 M1 S1=>hY.call R M1 S1) fun u y m1 s1 hy R1 S1 q1=>?_) (gc R.e.kind) (fW (ja h2 rfl))
  refine aq q1 ?_;clear q1;intro q1 q2
  have:∀a,y≠ .ref a:=fun a e=>by
   subst e
   cases u<;>first|exact q1.elim|skip
   ·have:=hy.none';exact PySem.Value.noConfusion this
   ·have:=hy.bool;exact PySem.Value.noConfusion this
   ·obtain⟨_,q⟩:=hy.int;exact PySem.Value.noConfusion q
  split
  ·exact absurd rfl (this _)
  ·exact⟨.next,loc,m1,rfl,R1,S1.toFr,q2⟩
 | .newR f args,sx,env,vis,sc,loc,P,Y,mem,s,E,hc,hsc,hv,hY,R,h=>by
  refine iH hc ?_;clear hc;intro v p hc
  refine bI hc ?_;clear hc;intro x px es p' hc
  refine aj hc ?_;clear hc;intro h1 hc
  refine aj hc ?_;clear hc;intro h2 hc
  refine aj hc fun h3 h7=>?_
  refine af (bX h2:) ?_;clear h2;intro fn hfn h2
  refine aj h2 ?_;clear h2;intro h4 h2
  refine aj h2 fun h5 h6=>?_
  refine gf (SC.call f (LN.mp h1) fn hfn:) fun a ob fd hm ho hd hcall=>?_
  obtain⟨hcl,C',N,mN,K,hf⟩:=hm.2 h4
  rw[beq_iff_eq.mp h5] at hf
  refine wpAny_Return_some (aX (cy R SC.ok hsc h6 K.1 ?_))
  cases es with
  |nil=>exact nb h3
  |cons e0 er=>
   refine callWith_cls K.2.1 ?_ (fY (bU h7 e0 (.head _))) (nA fun e he=>bU h7 e (.tail _ he))
   refine KB (iu SC args h7 hsc hv .no R h) (fun vs s1 q=>?_) fun _ _ x=>x
   refine dJ q ?_;clear q;intro us m1 hr M1 S1 q1
   refine⟨M1.stays,ub M1 K hf ho hcl hr fun x s2 M2 S2 hx hr2=>?_⟩
   refine KB (hcall _ (.inr ⟨_,_,rfl⟩) (.ref x::us) _ _ _ m1 s2 E ((hY.call R M2 (S1.trans S2)).imp id fun z=>z) (q1 x hx) M2 hr2) (fun y s3 q=>?_) fun _ _ x=>x
   refine dJ q ?_;clear q;intro _ _ _ _ _ q
   exact q
 | .methR o f args,sx,env,vis,sc,loc,P,Y,mem,s,E,hc,hsc,hv,hY,R,h=>by
  refine iH hc ?_;clear hc;intro v p hc
  refine oy hc fun e1 ap es p' fn hok h1 h2 h3 h4 h5 h6 h7=>?_
  refine gf (SC.call f h1 fn h2:) fun a ob fd hm ho hd hcall=>?_
  obtain⟨hcl,C',N,mN,K,hf⟩:=hm.2 h3
  refine wpAny_Return_some (dy hok (bU h7) h5 (aS R ((aD SC o).1 h6 hsc hv .no R h) fun x xv m1 s1 hx R1 S1 q1=>fun pl=>?_))
  refine aq q1 ?_;clear q1;intro hi q1
  refine oE R1.m hx hi h4 K hf ho hcl ?_
  refine Calls.callWith_function (o:=ob) (fd:=fd) ?_
  cases es with
  |nil=>
   cases args with
   |cons _ _=>exact nb h7
   |nil=>exact PyProof.Rows.evalArgs_none ⟨⟨R1.m.stays _ _ ho,hd⟩,KB (hcall A (.inl rfl) [x] [xv] _ _ m1 s1 E (hY.call R R1.m S1) q1 R1.m (.cons hx .nil)) (fun _ _ q=>by obtain⟨_,_,_,_,_,q⟩:=q;exact q.elim) fun _ _ z=>z⟩
  |cons e0 er=>
   refine rwl (bK (bU h7 e0 (.head _))) ?_
   refine Calls.evalArgs_plain ?_
   refine rwb (bK (bU h7 e0 (.head _))) ?_
   refine KB (iu SC args h7 hsc hv .no R1 q1) (fun vs s2 q=>?_) fun _ _ x=>x
   refine dJ q ?_;clear q;intro us m2 hr M2 S2 q2
   exact⟨⟨M2.stays _ _ ho,hd⟩,KB (hcall A (.inl rfl) (x::us) (xv::vs) _ _ m2 s2 E (hY.call R M2 (S1.trans S2)) q2 M2 (.cons (aY R1 S2 hx) hr)) (fun _ _ q=>by obtain⟨_,_,_,_,_,q⟩:=q;exact q.elim) fun _ _ z=>z⟩
 | .word f args i j q cs ds es ws u r,sx,env,vis,sc,loc,P,Y,mem,s,E,hc,hsc,hv,hY,R,h=>by
  refine cI h ?_;clear h;intro w93r0_0 htk h
  refine Fv w93r0_0 ?_;clear w93r0_0;intro w8r1_0 hjl hji hql
  refine aq w8r1_0 ?_;clear w8r1_0;intro hil hin
  have hY:=hY.resolve_left fun z=>z _ _ _ htk
  refine sL hc fun body hs o fin p c1=>?_
  refine aj c1 fun c2 c3=>?_
  refine aj c2 fun ho hf=>?_
  obtain rfl:=LM.mp ho
  obtain rfl:=LM.mp hf
  refine aj c3 fun c4 c5=>?_
  refine bc c4 fun s0 c6=>?_
  refine jb c6 fun v pe h1=>?_
  refine bc c5 fun hd c7=>?_
  refine sA c7 fun t x b₀ suite ph c8=>?_
  refine aj c8 fun c9 c10=>?_
  refine aj c10 fun c11 c12=>?_
  refine aj c12 fun c13 hq=>?_
  refine aj c13 fun c14 c15=>?_
  refine aj c11 fun hx hl=>?_
  refine bM c9 fun tx tp ht=>?_
  have hst:cK vis sc i x=true:=by unfold cK jn;refine rwl hx (rwl hl ?_);rfl
  refine aq (cC hsc hst:) fun hxm hxk=>?_
  have hloc:env.kindOf x=some .local:=(hsc _ _ (beq_iff_eq.mp hl)).2 (by simp)
  refine wpAny_Try_except (wpAny_execs_cons (wpAny_Expr (aS R (BQ SC h1 hsc hv R h fun m1 s1 M1 S1=> .inr ?_) fun u y m1 s1 hy R1 S1 q1=>q1.elim) (gc R.e.kind) (fW (ja h1 rfl))))
  have hY1:=hY.step (R.step M1 S1) S1.toFr
  refine cI hY1 ?_;clear hY1;intro w109r0_0 hC _
  refine bq w109r0_0 ?_;clear w109r0_0;intro outer hfr F1 ap
  refine⟨⟨_,hfr,F1⟩,hC,fun k m' a s' _ X M' hm S' hx'=>?_⟩
  obtain⟨⟨h7,h14⟩,hone,w,hw,hP⟩:=hx'
  refine af (id hC:) fun D hD hCs=>?_
  refine bq (hCs k h7 h14:) fun C' hm' xa _=>?_
  have hcv:mO W k= .ref C':=by unfold mO;refine rwl hm' ?_;rfl
  have F':dm W.base (env::outer) m' s'.heap:=F1.step S' fun _ _ z=>z
  have X':z1 s1.heap (.ref C') a s'.heap:=hcv▸X
  have Rk:∀h1,gi (env::outer) s1.heap s'.heap h1->bx W env vis loc m' {s' with heap:=h1}:=fun h1 K=>
   (R.step M1 S1).step (M'.kept K F' M1.stays) (S'.kept K)
  refine uz hfr F' X' S'.alive (fun h1 K=>xa.keeps (Rk h1 K).m.stays) (fun K hP=>cy (Rk _ K) SC.ok hsc ht hD hP) fun h1 xt K=>?_
  have Rh:=Rk h1 K
  refine dp Rh hv hxm hxk .mkRef fun s3 R3 S3 _=>?_
  have hgi:bS (ay loc i (.ref a)) i=some (.ref a):=fX hil
  refine CX xt.obj fun oe ws' a0 T oT ts e1 e2 e3 e4 e5 _=>?_
  have X1:jQ W k a m' h1:=⟨hC,⟨h7,h14⟩,hm,oe,ws',e1,e2.trans hcv.symm,e3,e5⟩
  have hnfr:¬gk env a:=fun hb=>by
   refine af (Rh.e.there hb:) fun o' e' hd=>?_
   have e1':({s' with heap:=h1}:Kv).heap.get? a=some oe:=e1
   rw[e1'] at e';cases e'
   rw[e3] at hd
   rcases hd with ⟨_,_,q⟩|⟨_,q⟩<;>injection q
  have X3:=X1.step S3 hnfr
  refine KB (uI (A:=A.mark (some (.ref a))) SC.ok hsc hv rfl hnfr (Ne.symm hji) (by refine rwl oM ?_;exact hjl) (by refine rwl oM ?_;exact hql) R3 X3 hgi (of_decide_eq_true c14) (of_decide_eq_true c15) hone hw hq) (fun fl s4 q4=>?_) fun _ _ z=>z
  refine wR q4 ?_;clear q4;intro y l4 m4 e115r0_3 hy4 R4 S4 hx4
  subst e115r0_3
  refine af R4.e.ns fun mN hns _=>?_
  refine wpAny_nameGoes_keeps hloc hns (by refine rwl R4.e.kind ?_;rfl) fun h' y' hn' hs'=>?_
  refine aq (yX (loc:=[]) (v:= .none) (tk:=s4.toks+1) R4.off0 hv hxm hloc rfl (fun _ _ _ _ z=>by injection z) hns hn' hs':) fun R5 S5=>?_
  have Sk:aM fb mem s.heap m' h1:=S1.trans (S'.kept K)
  have kf5:=S5.keepF R4.m.mems R4.e.dok
  exact⟨.ret (.str (Str.ofString w)),[],m4,⟨y,rfl,hy4.keep kf5⟩,R5,((Sk.toFr.trans S3).trans S4).trans S5,hP m4 hx4 []⟩
theorem jM{W:Cx}{FT:Nat->Option Fn}{ids:List Nat}{G:String->Option ae}{n:Nat}{A:Around}{C:bb}(SC:A1 W FT ids G n A C):∀(ss:eM) {sx:List Mc} {env:Env} {vis:List (Nat×Str)} {sc:Scope} {loc:aL} {P:Flow->aL->Mem->Prop} {Y:Nat->aL->Mem->Prop} {mem:Mem} {s:Kv} {E:KC->Kv->Prop},
  gA FT ids vis sc ss sx=true->dj sc env->di vis->xQ W A env vis mem s Y E->bx W env vis loc mem s->bJ C G ss P Y loc mem->KP (model W.prog W.w) A (execs sx env) (PS W env vis mem s P) E s
 | .nil,sx,env,vis,sc,loc,P,Y,mem,s,E,hc,hsc,hv,hY,R,h=>by
  refine rwl (xS hc) ?_
  exact wpAny_execs_nil ⟨.next,loc,mem,rfl,R,.refl,h⟩
 | .cons st ss,sx,env,vis,sc,loc,P,Y,mem,s,E,hc,hsc,hv,hY,R,h=>by
  refine tj hc fun x r h1 h2=>?_
  refine wpAny_execs_cons (KB (C3 SC st h1 hsc hv hY R h) (fun fl s1 q=>?_) fun _ _ x=>x)
  refine gf q ?_;clear q;intro fl' l1 m1 hfl R1 S1 q1
  cases fl' with
  |next=>
   obtain rfl:fl= .next:=hfl
   exact rG S1 (jM SC ss h2 hsc hv (hY.step R1 S1) R1 q1)
  |cont=>obtain rfl:fl= .cont:=hfl;exact⟨.cont,l1,m1,rfl,R1,S1,q1⟩
  |brk=>obtain rfl:fl= .brk:=hfl;exact⟨.brk,l1,m1,rfl,R1,S1,q1⟩
  |ret u=>
   obtain⟨y',rfl,hy'⟩:∃y,fl= .ret y/\aP W s1.heap u y:=hfl
   exact⟨.ret u,l1,m1,⟨y',rfl,hy'⟩,R1,S1,q1⟩
end
end TD.Internal
namespace TD.Internal
open PySem PyProof.Rows
theorem kj{α:Type}:∀{ps:List Str} {vs:List α},ps.length=vs.length->∀{i:Nat} {x:Str} {v:α},ps.Nodup->ps[i]? =some x->vs[i]? =some v->(ps.zip vs).lookup x=some v
 |p::ps,w::vs,hl,0,x,v,hn,h1,h2=>by
  simp only[List.getElem?_cons_zero,Option.some.injEq] at h1 h2
  subst h1;subst h2
  simp
 |p::ps,w::vs,hl,i+1,x,v,hn,h1,h2=>by
  simp only[List.getElem?_cons_succ] at h1 h2
  rw[KQ] at hn
  have hx:x∈ps:=Kp h1
  have:(x==p)=false:=by rw[beq_eq_false_iff_ne];rintro rfl;exact hn.1 hx
  refine rwl List.zip_cons_cons (rwl Ld (rwl this ?_))
  exact kj (by simpa using hl) hn.2 h1 h2
 | [],_,_,i,x,v,_,h,_=>by simp at h
 |_::_,[],hl,_,_,_,_,_,_=>by simp at hl
theorem pB{α:Type}(ps:List Str)(vs:List α)(hl:ps.length=vs.length)(hn:ps.Nodup):ps.filterMap (fun n=>((ps.zip vs).lookup n).map (n,·))=ps.zip vs:=by
 have key:∀(pre:List (Str×α)) (ps:List Str) (vs:List α),ps.length=vs.length->(pre.map (·.1)++ps).Nodup->ps.filterMap (fun n=>((pre++ps.zip vs).lookup n).map (n,·))=ps.zip vs:=by
  intro pre ps
  induction ps generalizing pre with
  |nil=>intro vs _ _;rfl
  |cons p ps ih=>
   intro vs hl hn
   cases vs with
   |nil=>simp at hl
   |cons v vs=>
    have hp:(pre++(p,v)::ps.zip vs).lookup p=some v:=by
     have hnp:p∉pre.map (·.1):=fun q=>by
      rw[KZ] at hn
      exact hn.2.2 p q p (.head _) rfl
     clear ih hn hl
     induction pre with
     |nil=>simp
     |cons q r ih=>
      rw[LG,Kw,not_or] at hnp
      refine rwl Ko (rwl Ld (rwl (beq_eq_false_iff_ne.mpr hnp.1) ?_))
      exact ih hnp.2
    refine rwl List.zip_cons_cons (rwl List.filterMap_cons (rwl hp ?_))
    simp only[Option.map_some]
    congr 1
    have:=ih (pre++ [(p,v)]) vs (by simpa using hl) (by simpa using hn)
    simpa using this
 simpa using key [] ps vs hl (by simpa using hn)
noncomputable def jm (p:Arguments):Bool:=p.posonlyargs.isEmpty&&p.vararg.isNone&&p.kwonlyargs.isEmpty&&p.kwarg.isNone
theorem vg{fd:FuncData}(hp:jm fd.params=true)(hd:fd.defaults= .none){vals:List KC}(hl:(fd.params.args.map (·.arg)).length=vals.length)(hn:(fd.params.args.map (·.arg)).Nodup):
  bindArgs fd ⟨vals,[]⟩=pure ((fd.params.args.map (·.arg)).zip vals):=by
 unfold jm at hp
 simp only[KW,LM,MN] at hp
 obtain⟨⟨⟨h1,h2⟩,h3⟩,h4⟩:=hp
 have hmiss:(List.take (fd.params.args.map (·.arg)).length (fd.params.args.map (·.arg))).filter (fun n=>(((fd.params.args.map (·.arg)).zip vals).lookup n).isNone)= []:=by
  rw[K9,List.filter_eq_nil_iff]
  intro n hm
  obtain⟨i,hi⟩:=Mp hm
  have hlt:i<vals.length:=by
   have:=(Kn.mp hi).1
   exact A5 hl this
  refine rwl (kj hl hn hi (KA hlt)) ?_
  simp
 have hz:=pB (fd.params.args.map (·.arg)) vals hl hn
 have hg:¬((decide (vals.length>(fd.params.args.map (·.arg)).length)&&true)=true):=by refine rwl (hl ..) (rwl (Bool.and_true ..) ?_);simp
 have hm2:¬((!((List.take ((fd.params.args.map (·.arg)).length-(List.drop (0-(fd.params.args.map (·.arg)).length) ([]:List KC)).length) (fd.params.args.map (·.arg))).filter (fun n=>(((fd.params.args.map (·.arg)).zip vals).lookup n).isNone)).isEmpty)=true):=by
  refine rwl MZ (rwl (rfl:(fd.params.args.map (·.arg)).length-([]:List KC).length=(fd.params.args.map (·.arg)).length) (rwl hmiss ?_));simp
 clear hmiss hl hn
 obtain⟨nm,qn,⟨po,as,va,ko,kd,kw,ds⟩,bd,sc,gl,cl,df,kwd,doc,md,an,code,ct,bl⟩:=fd
 cases h1;cases h2;cases h3;cases h4;cases hd
 dsimp only at hz hg hm2⊢
 refine(if_neg hg).trans ?_
 refine(if_neg hm2).trans ?_
 show (forIn ((List.drop _ _).zip (List.drop (0-(as.map (·.arg)).length) ([]:List KC))) _ _>>=_)=_
 refine rwl MZ (rwl List.zip_nil_right ?_)
 refine(?_:(pure _:Sem (List (Str×KC)))=_)
 exact congrArg pure ((congrArg (List.filterMap _) (Ll (as.map (·.arg)))).trans hz)
noncomputable def gG (sc:Scope):Nat->List String->List Str->List (Nat×Str)
 |_,[],_=>[]
 |i,x::r,seen=>if jn sc (Str.ofString x)&& !seen.contains (Str.ofString x) then (i,Str.ofString x)::gG sc (i+1) r (Str.ofString x::seen) else gG sc (i+1) r seen
noncomputable def rZ (np:Nat) (vars:List String) (fd:FuncData):Bool:=
 jm fd.params&&(fd.params.args.map (·.arg)==(vars.take np).map Str.ofString)&&decide (np<=vars.length)&&decide ((fd.params.args.map (·.arg)).Nodup)&&
 (fd.scope.kind== .function)&& !fd.scope.isCoroutine&& !fd.scope.isGenerator&&fd.scope.names.all (fun p=>p.2 != .free)&&(fd.params.args.all fun a=>jn fd.scope a.arg)
noncomputable def yn (b:FuncBody) (k:List Mc->Bool):Bool:=match b with| .stmts b=>k b|_=>false
theorem uT{b:FuncBody}{k:List Mc->Bool}(h:yn b k=true):∃l,b= .stmts l/\k l=true:=by
 cases b<;>first|exact⟨_,rfl,h⟩|exact nb h
noncomputable def Ab (FT:Nat->Option Fn) (ids:List Nat) (fn:Fn) (fd:FuncData):Bool:=
 rZ fn.np fn.vars fd&&yn fd.body fun b=>gA FT ids (gG fd.scope 0 fn.vars []) fd.scope fn.body b
theorem gQ{sc:Scope}:∀{vars:List String} {k:Nat} {seen:List Str} {i:Nat} {x:Str},(i,x)∈gG sc k vars seen->k<=i/\(vars.map Str.ofString)[i-k]? =some x/\x∉seen
 | [],k,seen,i,x,h=>by simp [gG] at h
 |y::r,k,seen,i,x,h=>by
  unfold gG at h
  split at h
  ·rename_i hc
   rw[Kw] at h
   rcases h with h|h
   ·cases h
    simp only[KW,Mb,List.contains_eq_mem,decide_eq_false_iff_not] at hc
    refine⟨Lk _,?_,hc.2⟩
    simp
   ·refine cI (gQ h:) fun a b c=>?_
    refine⟨by walk_at"o",?_,fun q=>c (.tail _ q)⟩
    refine rwl (by exact J4 a:i-k=(i-(k+1))+1) ?_
    simpa using b
  ·refine cI (gQ h:) fun a b c=>?_
   refine⟨by walk_at"o",?_,c⟩
   refine rwl (by lia:i-k=(i-(k+1))+1) ?_
   simpa using b
theorem nJ{sc:Scope}:∀(vars:List String) (k:Nat) (seen:List Str),di (gG sc k vars seen)
 | [],k,seen=>fun i x j y h=>by simp [gG] at h
 |y::r,k,seen=>by
  unfold gG
  split
  ·intro i x j z h1 h2
   rw[Kw] at h1 h2
   rcases h1 with h1|h1<;>rcases h2 with h2|h2
   ·cases h1;cases h2;simp
   ·cases h1
    refine cI (gQ h2:) fun a b c=>?_
    exact⟨fun e=>by lia,fun e=>by subst e;exact absurd (.head _) c⟩
   ·cases h2
    refine cI (gQ h1:) fun a b c=>?_
    exact⟨fun e=>by lia,fun e=>by subst e;exact absurd (.head _) c⟩
   ·exact nJ r _ _ i x j z h1 h2
  ·exact nJ r _ _
theorem ym{n i:Nat}{v:ae}(h:bS (Kk n none) i=some v):False:=by
 induction n generalizing i with
 |zero=>exact no h
 |succ n ih=>cases i with
  |zero=>exact no h
  |succ i=>exact ih (i:=i) h
theorem wL{vs:List ae}{n:Nat}:∀{i:Nat} {v:ae},bS (bh vs n) i=some v->vs[i]? =some v:=by
 induction vs with
 |nil=>intro i v h;exact(ym h).elim
 |cons u vs ih=>intro i v h;cases i with
  |zero=>exact h
  |succ i=>exact ih (i:=i) h
theorem pK{kd:Str->Option NameKind}{x:Str}(hx:kd x=some .local):∀{binds:List (Str×KC)} {m:Str->Option KC} {y:KC},(binds.map (·.1)).Nodup->(binds.lookup x=some y\/(x∉binds.map (·.1)/\m x=some y))->bindL kd binds m x=some y
 | [],m,y,hn,h=>by
  rcases h with h|h
  ·simp at h
  ·exact h.2
 |(n,v)::r,m,y,hn,h=>by
  unfold bindL
  rw[LG,KQ] at hn
  refine pK hx hn.2 ?_
  by_cases hxn:x=n
  ·subst hxn
   rcases h with h|h
   ·rw[Ld] at h
    simp only[beq_self_eq_true] at h
    cases h
    exact .inr ⟨hn.1,by rw[if_pos hx];simp⟩
   ·exact absurd (.head _) h.1
  ·rcases h with h|h
   ·rw[Ld,beq_eq_false_iff_ne.mpr hxn] at h
    exact .inl h
   ·refine .inr ⟨fun q=>h.1 (.tail _ q),?_⟩
    split
    ·refine(?_:(if x=n then some v else m x)=some y)
     refine rwl (if_neg hxn) ?_;exact h.2
    ·exact h.2
theorem qJ{kd:Str->Option NameKind}{x:Str}(hx:kd x≠some .local):∀{binds:List (Str×KC)} {m:Str->Option KC} {y:KC},(binds.map (·.1)).Nodup->(binds.lookup x=some y\/(x∉binds.map (·.1)/\m x=some y))->bindC kd binds m x=some y
 | [],m,y,hn,h=>by
  rcases h with h|h
  ·simp at h
  ·exact h.2
 |(n,v)::r,m,y,hn,h=>by
  unfold bindC
  rw[LG,KQ] at hn
  refine qJ hx hn.2 ?_
  by_cases hxn:x=n
  ·subst hxn
   rcases h with h|h
   ·rw[Ld] at h
    simp only[beq_self_eq_true] at h
    cases h
    exact .inr ⟨hn.1,by rw[if_neg hx];simp⟩
   ·exact absurd (.head _) h.1
  ·rcases h with h|h
   ·rw[Ld,beq_eq_false_iff_ne.mpr hxn] at h
    exact .inl h
   ·refine .inr ⟨fun q=>h.1 (.tail _ q),?_⟩
    split
    ·exact h.2
    ·refine(?_:(if x=n then some v else m x)=some y)
     refine rwl (if_neg hxn) ?_;exact h.2
theorem jR.down{n:Nat}{A:Around}(h:jR (n+1) A)(env:Env):jR n (A.deeper env):=by
 obtain⟨a,b,c⟩:=h
 refine⟨a,?_,?_⟩
 ·refine(?_:A.units+3+100+20*n<cLine)
  exact I5 b
 ·refine(?_:A.depth+1+5+5*n<recursionLimit)
  exact HU c
theorem jR.near{n:Nat}{A A':Around}(h:jR (n+1) A)(hA:GY A A'):A'.depth+5<recursionLimit/\∀env,jR n (A'.deeper env):=by
 rcases hA with rfl|⟨C,vs,rfl⟩
 ·exact⟨by have:=h.depth;exact HJ this,h.down⟩
 ·obtain⟨a,b,c⟩:=h
  have e1:(A.under (.builtin "type.__call__" ⟨.ref C::vs,[]⟩)).depth=A.depth+1:=rfl
  have e3:(Code.builtin "type.__call__" ⟨.ref C::vs,[]⟩).cUnits=1:=rfl
  have e2:(A.under (.builtin "type.__call__" ⟨.ref C::vs,[]⟩)).units=A.units+1:=congrArg (A.units+·) e3
  refine⟨by refine rwl e1 ?_;exact IA c,fun env=>⟨a,?_,?_⟩⟩
  ·refine(?_:(A.under (.builtin "type.__call__" ⟨.ref C::vs,[]⟩)).units+3+100+20*n<cLine)
   exact H9 b e2
  ·refine(?_:A.depth+1+1+5+5*n<recursionLimit)
   exact I8 c
theorem wX{x:Str}:∀(names:List (Str×NameKind)) (n:Nat) (acc:List (Str×Addr)),((x,NameKind.cell)∈names\/∃b,(x,b)∈acc)->∃b,(x,b)∈cellsFrom n names acc:=by
 intro names
 induction names with
 |nil=>intro n acc h;exact h.resolve_left LX
 |cons p r ih=>
  intro n acc h
  obtain⟨y,k⟩:=p
  refine(?_:∃b,(x,b)∈if k==NameKind.cell then cellsFrom (n+1) r ((y,n)::acc) else cellsFrom n r acc)
  by_cases hk:(k==NameKind.cell)=true
  ·refine rwl (if_pos hk) ?_
   refine ih _ _ ?_
   rcases h with h|⟨b,h⟩
   ·rcases Kw.mp h with q|q
    ·obtain rfl:x=y:=congrArg Prod.fst q
     exact .inr ⟨n,.head _⟩
    ·exact .inl q
   ·exact .inr ⟨b,.tail _ h⟩
  ·refine rwl (if_neg hk) ?_
   refine ih _ _ (h.imp_left fun h=>?_)
   rcases Kw.mp h with q|q
   ·obtain rfl:NameKind.cell=k:=congrArg Prod.snd q
    exact absurd rfl hk
   ·exact q
theorem tQ{β:Type}{x:Str}{b:β}:∀{l:List (Str×β)},(x,b)∈l->(l.lookup x).isSome=true:=by
 intro l
 induction l with
 |nil=>intro h;cases h
 |cons p r ih=>
  intro h
  obtain⟨y,c⟩:=p
  refine rwl Ld ?_
  cases q:x==y with
  |true=>rfl
  |false=>
   rcases Kw.mp h with e|e
   ·obtain rfl:x=y:=congrArg Prod.fst e
    rw[beq_self_eq_true] at q;exact Bool.noConfusion q
   ·exact ih e
theorem lJ{x:Str}{names:List (Str×NameKind)}(n:Nat)(h:names.lookup x=some .cell):((cellsFrom n names []).lookup x).isSome=true:=by
 refine aO (wX names n [] (.inl (PySem.mem_of_lookup h)):) fun b hb=>?_
 exact tQ hb
structure Bx(W:Cx)(a:Addr)(o:Obj)(fd:FuncData):Prop where
 at_:W.base.get? a=some o
 data:o.data= .func fd
 dflt:fd.defaults= .none
 glob:fd.globals=mainGlobals
 blt:fd.builtins=builtinsNs
 clos:fd.closure= []
 code:W.base.CodeRec fd.code fd.qualname
theorem zU{W:Cx}{G:String->Option ae}(ok:iY W G){A:Around}(hdep:A.depth+5<recursionLimit){a:Addr}{o:Obj}{fd:FuncData}(Df:Bx W a o fd){np:Nat}{vars:List String}(hchk:rZ np vars fd=true){body:List Mc}(hb:fd.body= .stmts body)
  {vs:List ae} {args:List KC} {Q:ae->Mem->Prop} {mem:Mem} {s:Kv} {E:KC->Kv->Prop} (hlen:vs.length=np) (M:bC W mem s) (hv:aJ W s.heap vs args)
  (run:∀env s₁ E',dj fd.scope env->bx W env (gG fd.scope 0 vars []) (bh vs (vars.length-np)) mem s₁->(∀b o,s.heap.get? b=some o->s₁.heap.get? b=some o)->
   (∀X,HM W A mem s X E->BW W (A.deeper env) env (gG fd.scope 0 vars []) mem s₁ (fun c _ m'=>X c m') E')->KP (model W.prog W.w) (A.deeper env) (execs body env) (PS W env (gG fd.scope 0 vars []) mem s₁ (iK Q)) E' s₁):
  KP (model W.prog W.w) A (call (.ref a) args) (PM W mem s Q) E s:=by
   obtain⟨h2,h3,hdef,hgl,hbl,hcl,hcd⟩:=Df
   unfold rZ at hchk
   simp only[KW,Mb,decide_eq_true_eq,beq_iff_eq] at hchk
   refine aq hchk ?_;clear hchk;intro w12r0_0 c9
   refine aq w12r0_0 ?_;clear w12r0_0;intro w6r1_0 c8
   refine aq w6r1_0 ?_;clear w6r1_0;intro w6r2_0 c7
   obtain⟨⟨⟨⟨⟨c1,c2⟩,c3⟩,c4⟩,c5⟩,c6⟩:=w6r2_0
   have hal:=hv.length
   have hpl:(fd.params.args.map (·.arg)).length=args.length:=by
    refine rwl (c2 ..) (rwl (Ki ..) (rwl (Le ..) ?_));exact Jd hlen c3 hal
   have hbnd:=vg c1 hdef hpl c4
   have hmap:((fd.params.args.map (·.arg)).zip args).map (·.1)=fd.params.args.map (·.arg):=by
    rw[List.map_fst_zip];exact JE hpl
   have hkind:∀n,∀y∈(fd.params.args.map (·.arg)).zip args,fd.scope.names.lookup y.1=some .local\/(fd.scope.names.lookup y.1=some .cell/\((cellsFrom n fd.scope.names []).lookup y.1).isSome=true):=fun n y hy=>by
    have hm:y.1∈fd.params.args.map (·.arg):=by refine rwb hmap ?_;exact List.mem_map_of_mem hy
    refine af (KL.mp hm:) fun p hp e=>?_
    have hs:=KI.mp c9 p hp
    rw[e] at hs
    rcases Bool.or_eq_true_iff.mp hs with q|q
    ·exact .inl (eq_of_beq q)
    ·exact .inr ⟨eq_of_beq q,lJ n (eq_of_beq q)⟩
   refine wpAny_call (codeAny_call_cells (Jn hdep) (M.stays _ _ h2) h3 (ok.nolimit.keeps M.stays) (hcd.keeps M.stays) hb hbnd hcl (hkind _) (fun s₁ I=>?_) c6 c7 c5)
   have hsc:dj fd.scope (callEnvC fd s.heap.objs.size a):=dj.self (callEnvC fd s.heap.objs.size a)
   have hloc:(callEnvC fd s.heap.objs.size a).locals=s.heap.objs.size:=rfl
   have hsco:(callEnvC fd s.heap.objs.size a).scope=fd.scope:=rfl
   have hglo:(callEnvC fd s.heap.objs.size a).globals=mainGlobals:=hgl
   have hblo:(callEnvC fd s.heap.objs.size a).builtins=builtinsNs:=hbl
   have hframe:(callEnvC fd s.heap.objs.size a).frame=some (callEnvC fd s.heap.objs.size a).locals:=rfl
   have hcells:(callEnvC fd s.heap.objs.size a).cells=cellsFrom (s.heap.objs.size+1) fd.scope.names []:=rfl
   have hko:∀x,(callEnvC fd s.heap.objs.size a).kindOf x=fd.scope.names.lookup x:=fun _=>rfl
   generalize henv:callEnvC fd s.heap.objs.size a=env at I hsc hloc hsco hglo hblo hframe hcells hko⊢
   have hFr:∀b,gk env b->s.heap.objs.size<=b:=fun b hb=>by
    rcases hb with rfl|⟨x,hx⟩
    ·exact Ky hloc.symm
    ·have:=I.above x b (PySem.mem_of_lookup hx)
     rw[hloc] at this
     exact KN this
   have hnone:∀b,s.heap.objs.size<=b->s.heap.get? b=none:=fun b hb=>by
    cases q:s.heap.get? b with
    |none=>rfl
    |some o=>exact absurd (Heap.lt_size q) (Nr.mpr hb)
   have hbase:∀b,s.heap.get? b=none->W.base.get? b=none:=fun b e=>by
    cases q:W.base.get? b with
    |none=>rfl
    |some o=>rw[M.stays b o q] at e;injection e
   have kf:cM s.heap s₁.heap:= .of_keeps I.toInCall.keep
   have hsame:s₁.gens=s.gens/\s₁.os=s.os:=by
    obtain⟨h',tk,e⟩:=I.toInCall.same;refine rwl e ?_;exact⟨rfl,rfl⟩
   have M1:bC W mem s₁:=M.of_keeps I.toInCall.keep hsame.1 hsame.2
   have look:∀i x v,(i,x)∈gG fd.scope 0 vars []->bS (bh vs (vars.length-np)) i=some v->∃y,((fd.params.args.map (·.arg)).zip args).lookup x=some y/\aP W s₁.heap v y:=fun i x v h1 h2=>by
    have h2':=wL h2
    refine af (hv.get h2':) fun y hy hr=>?_
    refine cI (gQ h1:) fun _ hx _=>?_
    have hi:i<np:=by
     have:=(Kn.mp h2').1
     exact A5 hlen this
    refine⟨y,kj hpl c4 ?_ hy,hr.keep kf⟩
    refine rwl c2 (rwl NL (rwl (L7 hi) ?_))
    simpa using hx
   have hnd:(((fd.params.args.map (·.arg)).zip args).map (·.1)).Nodup:=by refine rwl hmap ?_;exact c4
   have R0:bx W env (gG fd.scope 0 vars []) (bh vs (vars.length-np)) mem s₁:=by
    refine⟨M1,⟨by refine rwl hsco ?_;exact c5,hglo,hblo,⟨_,I.toInCall.ns,fun i x v h1 h2 h3=>?_⟩,fun i x v k h1 h2 h3 h4=>?_,fun x k h1 h2=>?_,fun x c hx=>⟨_,I.cell x c hx⟩,fun x y c hx hy=>?_⟩,fun b hb=>?_,fun b hb=>?_⟩
    ·refine af (look i x v h1 h2:) fun y e r=>?_
     exact⟨y,pK h3 hnd (.inl e),r⟩
    ·refine af (look i x v h1 h2:) fun y e r=>?_
     have hnl:env.kindOf x≠some .local:=by refine rwl h3 ?_;rcases h4 with rfl|rfl<;>simp
     have hkc:k= .cell:=by
      rcases h4 with q|q
      ·exact q
      ·rw[hko] at h3
       have:=KI.mp c8 _ (PySem.mem_of_lookup h3)
       subst q;simp at this
     subst hkc
     rw[hko] at h3
     have:=lJ (s.heap.objs.size+1) h3
     refine aO (MR.mp this:) fun c hc=>?_
     refine⟨c,y,by refine rwl hcells ?_;exact hc,?_,r⟩
     have:=I.cell x c (by refine rwl hcells ?_;exact hc)
     rw[qJ hnl hnd (.inl e)] at this
     exact this
    ·rw[hko] at h1
     have hkc:k= .cell:=by
      rcases h2 with q|q
      ·exact q
      ·have:=KI.mp c8 _ (PySem.mem_of_lookup h1)
       subst q;simp at this
     subst hkc
     have:=lJ (s.heap.objs.size+1) h1
     refine rwl hcells ?_
     exact MR.mp this
    ·exact name_of_addr I.apart (PySem.mem_of_lookup hx) (PySem.mem_of_lookup hy)
    ·exact M.mems.fresh (hnone b (hFr b hb))
    ·exact hbase b (hnone b (hFr b hb))
   have stepUp:∀{m':Mem} {h':Lw},aM (gk env) mem s₁.heap m' h'->aM fb mem s.heap m' h':=fun S'=>by
    refine⟨fun b e=>?_,fun b o' e hm _=>?_,fun b hm hm'=>?_⟩
    ·exact jq I.toInCall.keep b (S'.alive b e)
    ·exact S'.keep b o' (I.toInCall.keep b o' e) hm fun hb=>by rw[hnone b (hFr b hb)] at e;injection e
    ·exact jq I.toInCall.keep b (S'.grow b hm hm')
   refine KB (run env s₁ _ hsc R0 I.toInCall.keep fun X hX=>?_) (fun fl s' p=>?_) fun _ _ x=>x
   ·refine cI hX ?_;clear hX;intro w19r0_0 hC hE
    refine af w19r0_0 ?_;clear w19r0_0;intro fs hfr F
    have ap:∀b∈Ag fs,¬gk env b:=fun b hb hd=>by
     obtain⟨_,_,m,o,es,ep,e,_⟩:=F.mem hb
     rw[hnone b (hFr b hd)] at e;injection e
    have F1:dm W.base fs mem s₁.heap:=F.step (D:=fb) (.of_keeps I.toInCall.keep) fun _ _ z=>z
    refine⟨⟨fs,Around.frames_deeper hfr,dm.cons R0 hframe F1,ap⟩,hC,fun k l m' a s' h7 X R' hm S' hy=>?_⟩
    have F':dm W.base (env::fs) m' s'.heap:=dm.cons R' hframe (F1.step S' ap)
    have S:=stepUp S'
    refine uL (Around.frames_deeper hfr) F' (X.back (jq I.toInCall.keep)) S.alive fun h' x K=>?_
    exact hE k m' a _ h7 x.exc (R'.m.kept K F' M.stays) hm (S.kept K) hy
   refine gf p ?_;clear p;intro fl' l mem' hfl R' S' q
   have S:aM fb mem s.heap mem' s'.heap:=stepUp S'
   cases fl' with
   |next=>obtain rfl:fl= .next:=hfl;exact⟨.none,mem',.mkNone,R'.m,S,q⟩
   |ret u=>
    obtain⟨y',rfl,hy'⟩:∃y,fl= .ret y/\aP W s'.heap u y:=hfl
    exact⟨u,mem',hy',R'.m,S,q⟩
   |brk=>exact q.elim
   |cont=>exact q.elim
noncomputable def Cd (W:Cx) (FT:Nat->Option Fn) (ids:List Nat):Prop:=
 ∀f∈ids,∀fn,FT f=some fn->∃a o fd,Fc W fn a o/\Bx W a o fd/\Ab FT ids fn fd=true
theorem x5{W:Cx}{FT:Nat->Option Fn}{ids:List Nat}{G:String->Option ae}(ok:iY W G)(EC:wY W.mg W.base)(D:Cd W FT ids):∀(n:Nat) {A:Around},jR n A->ya W FT ids A (oD FT G n)
 |0,A,hr=>fun f hf fn hfn=>by
  refine iU (D f hf fn hfn:) fun a o fd h1 Df _=>?_
  exact⟨a,o,fd,h1,Df.at_,Df.data,fun _ _ _ _ _ _ _ _ _ _ h=>h.elim⟩
 |n+1,A,hr=>fun f hf fn hfn=>by
  refine iU (D f hf fn hfn:) fun a o fd h1 Df hchk=>?_
  refine⟨a,o,fd,h1,Df.at_,Df.data,fun A' hA vs args Q X mem s E hX hc M hv=>?_⟩
  refine aj hchk fun hh hb=>?_
  refine af (uT hb:) ?_;clear hb;intro body hb hc10
  refine bq hc ?_;clear hc;intro fn' e hlen hbody
  obtain rfl:fn=fn':=Option.some.inj (hfn.symm.trans e)
  refine zU ok (hr.near hA).1 Df hh hb hlen M hv fun env s₁ E' hsc R0 hk hY=>?_
  have SC:A1 W FT ids G n (A'.deeper env) (oD FT G n):=⟨ok,(hr.near hA).2 env,x5 ok EC D n ((hr.near hA).2 env),EC⟩
  refine jM SC fn.body hc10 hsc (nJ _ _ _) ?_ R0 hbody
  rcases hX with hX|hX
  ·exact .inl fun k l m=>hX k m
  ·exact .inr (hY X hX)
end TD.Internal
namespace TD.Internal
open PySem (Str Addr)
noncomputable def b9 (gs:List (String×Int)) (x:String):Option ae:=(gs.lookup x).map .int
noncomputable def ax (m m':Mem):Prop:=∀a o,m a=some o->m' a=some o
theorem ax.refl{m:Mem}:ax m m:=fun _ _ e=>e
theorem ax.trans{m1 m2 m3:Mem}(x:ax m1 m2)(y:ax m2 m3):ax m1 m3:=fun a o e=>y a o (x a o e)
theorem ax.set{m:Mem}{a:Addr}{o:cU}(h:m a=none):ax m (m.set a o):=fun b o' e=>by
 unfold Mem.set;split
 ·rename_i q;subst q;rw[h] at e;injection e
 ·exact e
theorem ao{m:Mem}{a:Addr}{o:cU}:(m.set a o) a=some o:=by simp [Mem.set]
theorem ah{m:Mem}{Q:ae->Mem->Prop}{xs:List ae}(hl:xs.length<br)(h:∀a m',m a=none->ax m m'->m' a=some (.list xs)->Q (.ref a) m'):bf m xs Q:=av hl fun a ha=>h a _ ha (ax.set ha) ao
theorem rp{C:bb}{G:String->Option ae}{X:Nat->Mem->Prop}{loc:aL}{m:Mem}{Q:ae->Mem->Prop}(h:∀a m',m a=none->ax m m'->m' a=some .dict0->Q (.ref a) m'):bk C G X .dict0 loc Q m:=fun a ha=>h a _ ha (ax.set ha) ao
theorem ak{m:Mem}{a b:Addr}{o:cU}(h:b≠a):(m.set a o) b=m b:=by simp [Mem.set,h]
theorem fQ{m:Mem}{a:Addr}{o o':cU}:(m.set a o).set a o'=m.set a o':=by
 funext b;unfold Mem.set;split<;>rfl
noncomputable def Mem.del (m:Mem) (a:Addr):Mem:=fun b=>if b=a then none else m b
theorem dH{m:Mem}{a:Addr}:(m.del a) a=none:=by simp [Mem.del]
theorem cB{m:Mem}{a b:Addr}(h:b≠a):(m.del a) b=m b:=by simp [Mem.del,h]
theorem dS{m:Mem}{a:Addr}{o:cU}:(m.del a).set a o=m.set a o:=by
 funext b;unfold Mem.set Mem.del;split<;>rfl
theorem dv{m:Mem}{a:Addr}{o:cU}(h:m a=some o):m.set a o=m:=by
 funext b;unfold Mem.set;split
 ·rename_i q;subst q;exact h.symm
 ·rfl
theorem ax.del{m m2:Mem}{a:Addr}{o:cU}(h:m a=none)(x:ax (m.set a o) m2):ax m (m2.del a):=fun b o' e=>by
 have hb:b≠a:=by rintro rfl;rw[h] at e;injection e
 refine rwl (cB hb) ?_
 exact x b o' (by refine rwl (ak hb) ?_;exact e)
theorem ax.del_back{m m2:Mem}{a:Addr}{o:cU}(h:m2 a=some o):m2=(m2.del a).set a o:=by
 exact rwl dS (rwl (dv h) rfl)
theorem fo{m:Mem}{a b:Addr}{o:cU}(h:m a=none)(e:m b=some o):b≠a:=by rintro rfl;rw[h] at e;injection e
theorem yw{mr m3:Mem}{f:Addr}{L L':cU}(hrf:mr f=none)(x:ax (mr.set f L) m3):∃mr',ax mr mr'/\mr' f=none/\m3.set f L'=mr'.set f L':=⟨m3.del f,ax.del hrf x,dH,dS.symm⟩
inductive cn{α β:Type}(R:α->β->Prop):List α->List β->Prop
 |nil:cn R [] []
 |cons {a:α} {b:β} {as:List α} {bs:List β}:R a b->cn R as bs->cn R (a::as) (b::bs)
theorem cn.length{α β:Type}{R:α->β->Prop}{as:List α}{bs:List β}(h:cn R as bs):as.length=bs.length:=by
 induction h with
 |nil=>rfl
 |cons _ _ ih=>exact congrArg NJ ih
theorem cn.mono{α β:Type}{R R':α->β->Prop}(k:∀a b,R a b->R' a b){as:List α}{bs:List β}(h:cn R as bs):cn R' as bs:=by
 induction h with
 |nil=>exact .nil
 |cons h _ ih=>exact .cons (k _ _ h) ih
theorem cn.get{α β:Type}{R:α->β->Prop}{as:List α}{bs:List β}(h:cn R as bs):∀{i:Nat} {a:α},as[i]? =some a->∃b,bs[i]? =some b/\R a b:=by
 induction h with
 |nil=>intro i a e;injection e
 |cons h _ ih=>intro i a e;cases i with
  |zero=>cases e;exact⟨_,rfl,h⟩
  |succ i=>obtain⟨b,hb⟩:=ih (i:=i) e;exact⟨b,hb⟩
theorem cn.get'{α β:Type}{R:α->β->Prop}{as:List α}{bs:List β}(h:cn R as bs):∀{i:Nat} {b:β},bs[i]? =some b->∃a,as[i]? =some a/\R a b:=by
 induction h with
 |nil=>intro i a e;injection e
 |cons h _ ih=>intro i a e;cases i with
  |zero=>cases e;exact⟨_,rfl,h⟩
  |succ i=>obtain⟨b,hb⟩:=ih (i:=i) e;exact⟨b,hb⟩
theorem cn.append{α β:Type}{R:α->β->Prop}{as:List α}{bs:List β}{as':List α}{bs':List β}(h:cn R as bs)(h':cn R as' bs'):cn R (as++as') (bs++bs'):=by
 induction h with
 |nil=>exact h'
 |cons h _ ih=>exact .cons h ih
theorem cn.of_get{α β:Type}{R:α->β->Prop}{as:List α}:∀{bs:List β},as.length=bs.length->(∀(i:Nat) a b,as[i]? =some a->bs[i]? =some b->R a b)->cn R as bs:=by
 induction as with
 |nil=>intro bs hl _;cases bs with
  |nil=>exact .nil
  |cons _ _=>exact Nat.noConfusion hl
 |cons a as ih=>intro bs hl h;cases bs with
  |nil=>exact Nat.noConfusion hl
  |cons b bs=>exact .cons (h 0 a b rfl rfl) (ih (Nat.succ.inj hl) fun i a b h1 h2=>h (i+1) a b h1 h2)
noncomputable def bo (m:Mem) (v:ae) (xs:List ae):Prop:=∃a,v= .ref a/\m a=some (.list xs)
noncomputable def cJ (m:Mem) (v:ae) (is:List Int):Prop:=bo m v (is.map .int)
noncomputable def cP {β:Type} (R:Mem->ae->β->Prop) (m:Mem) (v:ae) (t:List β):Prop:=∃xs,bo m v xs/\cn (R m) xs t
noncomputable abbrev bH:=cP cJ
theorem bo.ext{m m':Mem}(x:ax m m'){v:ae}{xs:List ae}(h:bo m v xs):bo m' v xs:=by
 obtain⟨a,rfl,e⟩:=h;exact⟨a,rfl,x a _ e⟩
theorem cJ.ext{m m':Mem}(x:ax m m'){v:ae}{xs:List Int}(h:cJ m v xs):cJ m' v xs:=bo.ext x h
theorem cP.ext{β:Type}{R:Mem->ae->β->Prop}{m m':Mem}(x:ax m m')(k:∀v b,R m v b->R m' v b){v:ae}{t:List β}(h:cP R m v t):cP R m' v t:=by
 obtain⟨xs,a,b⟩:=h;exact⟨xs,a.ext x,b.mono k⟩
theorem bH.ext{m m':Mem}(x:ax m m'){v:ae}{t:List (List Int)}(h:bH m v t):bH m' v t:=cP.ext x (fun _ _=>cJ.ext x) h
theorem bo.lst{m:Mem}{v:ae}{xs:List ae}(h:bo m v xs):lst m v=some xs:=by
 obtain⟨a,rfl,e⟩:=h;refine(?_:iG (m a)=_);refine rwl e ?_;rfl
theorem bo.seq{m:Mem}{v:ae}{xs:List ae}(h:bo m v xs):seq m v=some xs:=by
 obtain⟨a,rfl,e⟩:=h;refine(?_:iG (m a)=_);refine rwl e ?_;rfl
theorem bo.list{m:Mem}{v:ae}{xs:List ae}(h:bo m v xs):isA m v .list=some true:=by
 obtain⟨a,rfl,e⟩:=h;refine(?_:(m a).bind _=_);refine rwl e ?_;rfl
theorem bo.stands{m m':Mem}{v:ae}{xs:List ae}{k:i5}(h:bo m v xs)(h':bo m' v xs):stands k v m m':=by
 cases k<;>first|trivial|exact h'.lst.trans h.lst.symm
theorem cJ.seq{m:Mem}{v:ae}{xs:List Int}(h:cJ m v xs):Internal.seq m v=some (xs.map .int):=bo.seq h
theorem cJ.lst{m:Mem}{v:ae}{xs:List Int}(h:cJ m v xs):Internal.lst m v=some (xs.map .int):=bo.lst h
theorem bo.new{m:Mem}{a:Addr}{xs:List ae}:bo (m.set a (.list xs)) (.ref a) xs:=⟨a,rfl,ao⟩
noncomputable abbrev p7 (is:List Int):ef:= .list (is.map .int)
noncomputable abbrev jT (t:List (List Int)):ef:= .list (t.map p7)
theorem mH{m:Mem}{is:List Int}:ju m (is.map .int) (is.map .int):=by
 induction is with
 |nil=>rfl
 |cons i is ih=>exact KF _ ⟨_,rfl,rfl,ih⟩
theorem cJ.reads{m:Mem}{v:ae}{is:List Int}(h:cJ m v is):Reads m (p7 is) v:=KF _ ⟨h.lst,mH⟩
theorem p8{β:Type}{R:ae->β->Prop}{d:β->ef}{m:Mem}(k:∀v b,R v b->Reads m (d b) v){xs:List ae}{t:List β}(h:cn R xs t):ju m (t.map d) xs:=by
 induction h with
 |nil=>rfl
 |cons h _ ih=>exact KF _ ⟨_,rfl,k _ _ h,ih⟩
theorem cP.reads{β:Type}{R:Mem->ae->β->Prop}{d:β->ef}{m:Mem}(k:∀v b,R m v b->Reads m (d b) v){v:ae}{t:List β}(h:cP R m v t):Reads m (.list (t.map d)) v:=by
 refine af h ?_;clear h;intro xs a b
 exact KF xs ⟨a.lst,p8 k b⟩
theorem bH.reads{m:Mem}{v:ae}{t:List (List Int)}(h:bH m v t):Reads m (jT t) v:=cP.reads (fun _ _=>cJ.reads) h
theorem oz{β:Type}[DecidableEq β]{d:β->ef}(k:∀a b,ef.beq (d a) (d b)=decide (a=b))(a:List β):∀b:List β,ef.beqs (a.map d) (b.map d)=decide (a=b):=by
 induction a with
 |nil=>intro b;cases b with
  |nil=>rfl
  |cons _ _=>exact(decide_eq_false (by intro h;injection h)).symm
 |cons x a ih=>intro b;cases b with
  |nil=>exact(decide_eq_false (by intro h;injection h)).symm
  |cons y b=>
   refine(?_:(ef.beq (d x) (d y)&&ef.beqs (a.map d) (b.map d))=_)
   refine rwl (k ..) (rwl (ih ..) ?_)
   by_cases h:x=y<;>by_cases h':a=b<;>simp [h,h']
theorem ny(a b:List Int):ef.beq (p7 a) (p7 b)=decide (a=b):=oz (d:=ef.int) (fun _ _=>rfl) a b
theorem ll(a b:List (List Int)):ef.beq (jT a) (jT b)=decide (a=b):=oz ny a b
theorem jf{n:Nat}(is:List Int):oW (n+2) (p7 is)=true:=by
 refine(?_:(is.map ef.int).all (oW (n+1))=true)
 rw[KI]
 intro d hd
 refine af (KL.mp hd:) fun x _ e1r0_2=>?_
 subst e1r0_2
 rfl
theorem ip{n:Nat}(t:List (List Int)):oW (n+3) (jT t)=true:=by
 refine(?_:(t.map p7).all (oW (n+2))=true)
 rw[KI]
 intro d hd
 refine af (KL.mp hd:) fun x _ e2r0_2=>?_
 subst e2r0_2
 exact jf x
noncomputable def G1 (op:z9) (a b:Int):Option ae:=match op with
 | .add=>some (.int (a+b))
 | .sub=>some (.int (a-b))
 |_=>none
noncomputable def DB (op:vV) (a b:Int):Option ae:=match op with
 | .eq=>some (.bool (decide (a=b)))
 | .ne=>some (.bool (decide (a≠b)))
 | .lt=>some (.bool (decide (a<b)))
 | .le=>some (.bool (decide (a<=b)))
 | .gt=>some (.bool (decide (a>b)))
 | .ge=>some (.bool (decide (a>=b)))
 |_=>none
noncomputable def oK:Option ae->Option Int
 |some (.int i)=>some i
 |_=>none
noncomputable def pv (G:String->Option ae) (loc:aL):Ex->Option ae
 | .nm i=>bS loc i
 | .int i=>some (.int i)
 | .bool b=>some (.bool b)
 | .none=>some .none
 | .glob x=>G x
 | .str x=>some (.str x)
 | .bin op a b=>(oK (pv G loc a)).bind fun x=>(oK (pv G loc b)).bind fun y=>G1 op x y
 | .cmp op a b=>(oK (pv G loc a)).bind fun x=>(oK (pv G loc b)).bind fun y=>DB op x y
 |_=>none
theorem ql{o:Option ae}{i:Int}(h:oK o=some i):o=some (.int i):=by
 cases o with
 |none=>injection h
 |some v=>cases v<;>first|(cases h;rfl)|injection h
theorem Dn{C:bb}{G:String->Option ae}{X:Nat->Mem->Prop}{loc:aL}{m:Mem}(e:Ex):∀(v:ae) (Q:ae->Mem->Prop),pv G loc e=some v->Q v m->bk C G X e loc Q m:=by
 have two:∀{a b:Ex} {f:Int->Int->Option ae} {v:ae},((oK (pv G loc a)).bind fun x=>(oK (pv G loc b)).bind fun y=>f x y)=some v->∃x y,pv G loc a=some (.int x)/\pv G loc b=some (.int y)/\f x y=some v:=fun h=>by
  refine af (Ma.mp h:) ?_;clear h;intro x hx h
  refine af (Ma.mp h:) ?_;clear h;intro y hy h
  exact⟨x,y,ql hx,ql hy,h⟩
 refine Ex.rec (motive_1:=fun e=>∀(v:ae) (Q:ae->Mem->Prop),pv G loc e=some v->Q v m->bk C G X e loc Q m) (motive_2:=fun _=>True) ?_ ?_ ?_ ?_ ?_ ?_ ?_ ?_ ?_ ?_ ?_ ?_ ?_ ?_ ?_ ?_ ?_ ?_ ?_ ?_ ?_ ?_ ?_ ?_ ?_ ?_ ?_ ?_ ?_ ?_ trivial (fun _ _ _ _=>trivial) e
 case refine_1=>intro i v Q h hq;exact KF v ⟨h,hq⟩
 case refine_2=>intro i v Q h hq;cases h;exact hq
 case refine_3=>intro i v Q h hq;cases h;exact hq
 case refine_4=>intro v Q h hq;cases h;exact hq
 case refine_5=>intro i v Q h hq;exact KF v ⟨h,hq⟩
 case refine_6=>
  intro op a b iha ihb v Q h hq
  refine bB (two h:) ?_;clear h;intro x y hx hy h
  refine iha _ _ hx (ihb _ _ hy ?_)
  cases op<;>first|(exact nomatch (h:none=some v))|skip
  ·cases h;exact rN hq
  ·cases h;exact v5 hq
 case refine_10=>
  intro op a b iha ihb v Q h hq
  refine bB (two h:) ?_;clear h;intro x y hx hy h
  refine iha _ _ hx (ihb _ _ hy ?_)
  cases op<;>first|(exact nomatch (h:none=some v))|skip
  ·cases h;exact mZ hq
  ·cases h;exact vn hq
  ·cases h;exact n7 hq
  ·cases h;exact zL hq
  ·cases h;exact uG hq
  ·cases h;exact Cb hq
 case refine_25=>intro i v Q h hq;cases h;exact hq
 all_goals (intros;rename_i h _;injection h)
theorem fk{C:bb}{G:String->Option ae}{X:Nat->Mem->Prop}{loc:aL}{m:Mem}(e:Ex){v:ae}{Q:ae->Mem->Prop}(h:pv G loc e=some v)(hq:Q v m):bk C G X e loc Q m:=Dn e v Q h hq
noncomputable def Hb (G:String->Option ae) (loc:aL):fC->Option (List ae)
 | .nil=>some []
 | .cons e es=>(pv G loc e).bind fun v=>(Hb G loc es).bind fun vs=>some (v::vs)
theorem Hf{C:bb}{G:String->Option ae}{X:Nat->Mem->Prop}{loc:aL}{m:Mem}(es:fC):∀(vs:List ae) (P:List ae->Mem->Prop),Hb G loc es=some vs->P vs m->lx C G X es loc P m:=by
 refine fC.rec (motive_1:=fun _=>True) (motive_2:=fun es=>∀(vs:List ae) (P:List ae->Mem->Prop),Hb G loc es=some vs->P vs m->lx C G X es loc P m) ?_ ?_ ?_ ?_ ?_ ?_ ?_ ?_ ?_ ?_ ?_ ?_ ?_ ?_ ?_ ?_ ?_ ?_ ?_ ?_ ?_ ?_ ?_ ?_ ?_ ?_ ?_ ?_ ?_ ?_ ?_ ?_ es
 case refine_31=>intro vs P h hp;cases h;exact hp
 case refine_32=>
  intro e es _ ih vs P h hp
  refine af (Ma.mp h:) ?_;clear h;intro v hv h
  refine af (Ma.mp h:) ?_;clear h;intro ws hw h
  cases h
  exact fk e hv (ih _ _ hw hp)
 all_goals (intros;trivial)
theorem AX{C:bb}{G:String->Option ae}{X:Nat->Mem->Prop}{loc:aL}{m:Mem}(es:fC){vs:List ae}{P:List ae->Mem->Prop}(h:Hb G loc es=some vs)(hp:P vs m):lx C G X es loc P m:=Hf es vs P h hp
section
variable{C:bb}{G:String->Option ae}{X:Nat->Mem->Prop}{Y:Nat->aL->Mem->Prop}{loc:aL}{Q:ae->Mem->Prop}{m:Mem}{R:Flow->aL->Mem->Prop}{P:Bool->Mem->Prop}{ss t:eM}{e a b:Ex}{i:Nat}{v w:ae}
theorem AL(hv:pv G loc e=some v)(h:bJ C G ss R Y (ay loc i v) m):bJ C G (.cons (.asg i e) ss) R Y loc m:=fk (Q:=fun v m1=>bJ C G ss R Y (ay loc i v) m1) e hv h
theorem u5(h:bk C G (tk Y loc) e loc (fun v m1=>bJ C G ss R Y (ay loc i v) m1) m):bJ C G (.cons (.asg i e) ss) R Y loc m:=h
theorem A0(hv:pv G loc e=some v)(h:R (.ret v) loc m):bJ C G (.cons (.ret e) ss) R Y loc m:=fk (Q:=fun v m1=>R (.ret v) loc m1) e hv h
theorem zk(h:bk C G (tk Y loc) e loc (fun v m1=>R (.ret v) loc m1) m):bJ C G (.cons (.ret e) ss) R Y loc m:=h
theorem jz(h:bk C G (tk Y loc) e loc (oO (xR (bJ C G t (lK (fun l m1=>bJ C G ss R Y l m1) R) Y loc) (bJ C G ss R Y loc))) m):bJ C G (.cons (.ifs e t .nil) ss) R Y loc m:=h
theorem A8(h:bk C G iZ e loc (fun v m1=>lN v/\bJ C G ss R Y loc m1) m):bJ C G (.cons (.expr e) ss) R Y loc m:=h
theorem Aq{f:Nat}{args:fC}{vs:List ae}(hv:Hb G loc args=some vs)(h:C f vs Q X m):bk C G X (.call f args) loc Q m:=AX (P:=fun vs m1=>C f vs Q X m1) args hv h
theorem vy{k:B1}(hv:pv G loc a=some v)(h:gj k v Q m):bk C G X (.b1 k a) loc Q m:=fk (Q:=fun v m1=>gj k v Q m1) a hv h
theorem CP(hv:pv G loc a=some v)(hw:pv G loc b=some w)(h:gm v w Q m):bk C G X (.sub a b) loc Q m:=fk (Q:=fun v m1=>bk C G X b loc (fun y m2=>gm v y Q m2) m1) a hv (fk (Q:=fun y m2=>gm v y Q m2) b hw h)
theorem CK{op:vV}(hv:pv G loc a=some v)(hw:pv G loc b=some w)(h:cE op v w (fun r m3=>Q (.bool r) m3) m):bk C G X (.cmp op a b) loc Q m:=fk (Q:=fun v m1=>bk C G X b loc (fun y m2=>cE op v y (fun r m3=>Q (.bool r) m3) m2) m1) a hv (fk (Q:=fun y m2=>cE op v y (fun r m3=>Q (.bool r) m3) m2) b hw h)
theorem CL{op:z9}(hv:pv G loc a=some v)(hw:pv G loc b=some w)(h:gq op v w Q m):bk C G X (.bin op a b) loc Q m:=fk (Q:=fun v m1=>bk C G X b loc (fun y m2=>gq op v y Q m2) m1) a hv (fk (Q:=fun y m2=>gq op v y Q m2) b hw h)
end
section
variable{C:bb}{G:String->Option ae}{X:Nat->Mem->Prop}{Y:Nat->aL->Mem->Prop}{loc:aL}{Q:ae->Mem->Prop}{m:Mem}{P:Bool->Mem->Prop}
theorem nO{v w:ae}{d e:ef}{Q:Bool->Prop}(hd:Reads m d v)(he:Reads m e w)(h1:oW 8 d=true)(h2:oW 8 e=true)(h:Q (ef.beq d e))(hv:∃a,v= .ref a):CB v w Q m:=by
 exact Or.inr (Or.inr ⟨d,e,hd,he,h1,h2,h⟩)
theorem nT{v w:ae}{a b:List Int}(hv:cJ m v a)(hw:cJ m w b)(h:P (decide (a=b)) m):cE .eq v w P m:=by
 refine(?_:CB v w (fun r=>P r m) m)
 exact nO hv.reads hw.reads (jf a) (jf b) (by refine rwl (ny ..) ?_;exact h) ⟨_,hv.choose_spec.1⟩
theorem jw{v w:ae}{a b:List Int}(hv:cJ m v a)(hw:cJ m w b)(h:P (decide (a≠b)) m):cE .ne v w P m:=by
 refine(?_:CB v w (fun r=>P (!r) m) m)
 exact nO hv.reads hw.reads (jf a) (jf b) (by refine rwl (ny ..) ?_;simpa using h) ⟨_,hv.choose_spec.1⟩
theorem gO{v w:ae}{a b:List (List Int)}(hv:bH m v a)(hw:bH m w b)(h:P (decide (a=b)) m):cE .eq v w P m:=by
 refine(?_:CB v w (fun r=>P r m) m)
 exact nO hv.reads hw.reads (ip a) (ip b) (by refine rwl (ll ..) ?_;exact h) ⟨_,hv.choose_spec.1.choose_spec.1⟩
theorem nM{v w:ae}{a b:List (List Int)}(hv:bH m v a)(hw:bH m w b)(h:P (decide (a≠b)) m):cE .ne v w P m:=by
 refine(?_:CB v w (fun r=>P (!r) m) m)
 exact nO hv.reads hw.reads (ip a) (ip b) (by refine rwl (ll ..) ?_;simpa using h) ⟨_,hv.choose_spec.1.choose_spec.1⟩
theorem cX{k:Int}{n:Nat}(h0:0<=k)(h:k.toNat<n):eh k n=some k.toNat:=by unfold eh;exact rwl (if_pos h0) (rwl (if_pos h) rfl)
theorem cz{v:ae}{k:Int}{is:List Int}{x:Int}(e:cJ m v is)(h0:0<=k)(hx:is[k.toNat]? =some x)(hl:is.length<br)(h:Q (.int x) m):gm v (.int k) Q m:=by
 have hlt:k.toNat<is.length:=(Kn.mp hx).1
 exact dG e.seq (cX h0 (by simpa using hlt)) (by refine rwl (KH) (rwl hx ?_);rfl) (by simpa using hl) h
theorem eG{β:Type}{S:Mem->ae->β->Prop}{v:ae}{k:Int}{t:List β}{x:β}(e:cP S m v t)(h0:0<=k)(hx:t[k.toNat]? =some x)(hl:t.length<br)(h:∀y,S m y x->Q y m):gm v (.int k) Q m:=by
 have hlt:k.toNat<t.length:=(Kn.mp hx).1
 refine af e ?_;clear e;intro xs e1 e2
 refine af (e2.get' hx:) fun y hy hs=>?_
 exact dG e1.seq (cX h0 (by refine rwl e2.length ?_;exact hlt)) hy (by refine rwl e2.length ?_;exact hl) (h y hs)
theorem gb{v:ae}{is:List Int}(e:cJ m v is)(hl:is.length<br)(h:Q (.int is.length) m):gj .len v Q m:=rQ e.seq (by simpa using hl) (by simpa using h)
theorem ba{β:Type}{S:Mem->ae->β->Prop}{v:ae}{t:List β}(e:cP S m v t)(hl:t.length<br)(h:Q (.int t.length) m):gj .len v Q m:=by
 refine af e ?_;clear e;intro xs e1 e2
 exact rQ e1.seq (by refine rwl e2.length ?_;exact hl) (by refine rwl e2.length ?_;exact h)
theorem mn{v:ae}{is:List Int}(e:cJ m v is)(h:Q (.bool true) m):w6 Q m (isA m v .list):=ou e.list h
theorem w3{β:Type}{S:Mem->ae->β->Prop}{v:ae}{t:List β}(e:cP S m v t)(h:Q (.bool true) m):w6 Q m (isA m v .list):=by
 obtain⟨xs,e1,e2⟩:=e;exact ou e1.list h
theorem Cr{o:Option Bool}(e:o=some true)(h:Q (.bool true) m):w6 Q m o:=ou e h
theorem Cq{o:Option Bool}(e:o=some false)(h:Q (.bool false) m):w6 Q m o:=ou e h
theorem ej{T E:Mem->Prop}{b:Bool}(hb:b=true)(h:T m):xR T E b m:=by subst hb;exact fj h
theorem b0{T E:Mem->Prop}{b:Bool}(hb:b=false)(h:E m):xR T E b m:=by subst hb;exact dB h
theorem Ca{k b:Bool}{W:Mem->Prop}(hb:b=k)(h:W m):xP k W P b m:=And.intro (fun _=>h) fun e=>by subst hb;cases b<;>exact Bool.noConfusion e
theorem yG{k b:Bool}{W:Mem->Prop}(hb:b=!k)(h:P b m):xP k W P b m:=And.intro (fun e=>by subst hb;cases k<;>exact Bool.noConfusion e) fun _=>h
theorem fm(a:Int){b:Int}(h:0<b):0<=a.fmod b/\a.fmod b<b:=⟨Int.fmod_nonneg_of_pos a h,Int.fmod_lt_of_pos a h⟩
theorem Qb{b b':Bool}(h:Q (.bool b') m)(e:b=b'):Q (.bool b) m:=by subst e;exact h
theorem Qi{b b':Int}(h:Q (.int b') m)(e:b=b'):Q (.int b) m:=by subst e;exact h
theorem dq{f:ae->(List ae->Mem->Prop)->Mem->Prop}{ok:Mem->Prop}{xs:List ae}{Q':List ae->Mem->Prop}(I:Nat->List ae->Mem->Prop)(h0:I 0 [] m)
  (step:∀i x acc m,xs[i]? =some x->I i acc m->∀P:List ae->Mem->Prop,(∀vs m',ok m'/\I (i+1) (acc++vs) m'->P vs m')->f x P m)
  (done:∀acc m,I xs.length acc m->Q' acc m):compLoop f ok xs [] Q' m:=by
 suffices h:∀(acc:List ae) (m:Mem) (I:Nat->List ae->Mem->Prop),I 0 acc m->(∀i x acc m,xs[i]? =some x->I i acc m->∀P:List ae->Mem->Prop,(∀vs m',ok m'/\I (i+1) (acc++vs) m'->P vs m')->f x P m)->(∀acc m,I xs.length acc m->Q' acc m)->compLoop f ok xs acc Q' m from h [] m I h0 step done
 clear step done h0 I
 induction xs with
 |nil=>intro acc m I h0 _ done;exact done _ _ h0
 |cons y r ih=>
  intro acc m I h0 step done
  exact step 0 y _ _ rfl h0 _ fun vs m' q=>⟨q.1,ih _ m' (fun i=>I (i+1)) q.2 (fun i x acc m e hI=>step (i+1) x acc m e hI) done⟩
noncomputable abbrev cF (C:bb) (G:String->Option ae) (X:Nat->Mem->Prop) (elt:Ex) (t:Tg) (cond:fC) (loc:aL):ae->(List ae->Mem->Prop)->Mem->Prop:=pV t loc (fun l P m=>mM C G X true cond l P m) (fun l P m=>bk C G X elt l P m)
theorem CD{elt:Ex}{t:Tg}{k:i5}{src:Ex}{cond:fC}(h:bk C G X src loc (fun v m1=>dX k v (fun xs=>compLoop (cF C G iZ elt t cond loc) (stands k v m1) xs [] (fun ys m'=>bf m' ys Q) m1) m1) m):
  bk C G X (.comp elt t k src cond) loc Q m:=h
theorem gU{elt:Ex}{i:Nat}{x:ae}{P:List ae->Mem->Prop}(h:bk C G X elt (ay loc i x) (fun y m3=>P [y] m3) m):cF C G X elt (.one i) .nil loc x P m:=KF _ ⟨rfl,fj h⟩
theorem gX{elt:Ex}{i:Nat}{xs:List ae}{ok:Mem->Prop}{Q':List ae->Mem->Prop}{g:ae->ae}(hok:ok m)
  (hstep:∀x∈xs,∀P:ae->Mem->Prop,P (g x) m->bk C G X elt (ay loc i x) P m) (h:Q' (xs.map g) m):compLoop (cF C G X elt (.one i) .nil loc) ok xs [] Q' m:=by
 refine dq (fun k acc m'=>m'=m/\acc=(xs.take k).map g) ⟨rfl,by simp⟩ (fun k x acc m' hx hI P hP=>?_) fun acc m' hI=>?_
 ·refine aq hI ?_;clear hI;intro e12r0_0 e12r0_1
  subst e12r0_0
  subst e12r0_1
  refine gU (hstep x (Kp hx) _ (hP _ _ ⟨hok,rfl,?_⟩))
  refine rwl Lb (rwl hx ?_);simp
 ·refine aq hI ?_;clear hI;intro e13r0_0 e13r0_1
  subst e13r0_0
  subst e13r0_1
  refine rwl K9 ?_;exact h
noncomputable abbrev bF (C:bb) (G:String->Option ae) (t:Tg) (b:eM) (Y:Nat->aL->Mem->Prop):ae->(Flow->aL->Mem->Prop)->aL->Mem->Prop:=oa t (fun Q' l m'=>bJ C G b Q' Y l m')
theorem aU{i:Nat}{b:eM}{x:ae}{P:Flow->aL->Mem->Prop}(h:bJ C G b P Y (ay loc i x) m):bF C G (.one i) b Y x P loc m:=KF _ ⟨rfl,h⟩
end
theorem aR(n:Int):(bP n).length=n.toNat:=by simp [bP]
theorem cq{n:Int}{i:Nat}{x:ae}(h:(bP n)[i]? =some x):i<n.toNat/\x= .int i:=by
 unfold bP at h
 rw[KH] at h
 cases q:(Kt n.toNat)[i]? with
 |none=>rw[q] at h;injection h
 |some j=>
  rw[q] at h
  obtain⟨hl,rfl⟩:=Kn.mp q
  simp at hl h
  exact⟨IP hl,h.symm⟩
end TD.Internal
namespace TD.Internal
open PySem PySem.W PyProof.Rows PySem.Calls PySem.Spec
noncomputable def xX (p:Program) (FT:Nat->Option Fn) (ids:List Nat) (f:Nat):Bool:=c0 (FT f) fun fn=>!fn.own&&
 c0 ((recsOf p).find? fun d=>d.name==Str.ofString fn.name) fun d=>Ab FT ids fn (docDef d.name d.params d.body d.scope .none .none .none)
noncomputable def vv (p:Program) (loose:List Str) (FT:Nat->Option Fn) (ids:List Nat) (f:Nat):Bool:=c0 (FT f) fun fn=>fn.own&&
 c0 ((plainsOf p loose).find? fun c=>c.name==Str.ofString "Estate") fun c=>c0 (c.meths.find? fun m=>m.name==Str.ofString fn.name) fun m=>Ab FT ids fn (methDef m.name (c.name++"."++m.name) m.params m.body m.scope .none .none .none)
noncomputable def rA (p:Program) (loose:List Str):Bool:=c0 ((plainsOf p loose).find? fun c=>c.name==Str.ofString "Estate") fun c=>lS.all fun n=>c.withCmp.quiet.contains n
noncomputable def isI (d:PyData) (i:Int):Bool:=match d with
 | .int j=>j==i
 |_=>false
noncomputable def uW (p:Program) (x:String) (i:Int):Bool:=c0 (valOf p (Str.ofString x)) fun d=>isI d i
noncomputable def nh (p:Program) (loose:List Str) (x:Str):Bool:=
 !startupNames.contains x&&(!loose.contains x&&(!((recsOf p).map (·.name)).contains x&&(!((litsOf p).map (·.1)).contains x&& !((clssOf p loose).map (·.name)).contains x)))
section
variable{p:Program}{loose:List Str}{mean:ExcName->Option KC}{W:Cx}
theorem zP{mg:Str->Option KC}{h:Lw}(TE:TopE p loose mg h)(hq:rA p loose=true):∃c C N mN,(plainsOf p loose).find? (fun c=>c.name==Str.ofString "Estate")=some c/\p6 mg h C N mN/\PlainAt h c.withCmp C N mN:=by
 refine af (bX hq:) ?_;clear hq;intro c hc hq
 have hn:c.name=Str.ofString "Estate":=beq_iff_eq.mp (List.find?_some (p:=fun c:ClsRec=>c.name==Str.ofString "Estate") hc)
 refine mT (TE c (MO hc):) fun C N mN h1 P=>?_
 exact⟨c,C,N,mN,hc,⟨hn▸h1,P.cls,fun n hn=>P.quiet n (LN.mp (KI.mp hq n hn))⟩,P⟩
theorem Be{mg:Str->Option KC}{h:Lw}(TE:TopE p loose mg h)(hq:rA p loose=true):wY mg h:=fun C hC=>by
 refine Az (zP TE hq:) fun c C' N mN _ K _=>?_
 obtain rfl:C'=C:=by have:=K.1.symm.trans hC;cases this;rfl
 exact⟨N,mN,K⟩
theorem xY{FT:Nat->Option Fn}{ids ids2:List Nat}(T:Top p loose mean W.mg W.mb W.base)(TE:TopE p loose W.mg W.base)(hq:rA p loose=true)(h:ids.all (fun f=>(cond (ids2.contains f) (vv p loose FT ids f) (xX p FT ids f)))=true):Cd W FT ids:=fun f hf fn hfn=>by
 have h1:=KI.mp h f hf
 cases hi:ids2.contains f with
 |false=>
  rw[hi] at h1
  refine af (bX h1:) fun fn' e h2=>?_
  obtain rfl:fn'=fn:=Option.some.inj (e.symm.trans hfn)
  refine aj h2 ?_;clear h2;intro h0 h2
  have h0:=Bv h0
  refine af (bX h2:) fun d hd h3=>?_
  have hn:d.name=Str.ofString fn'.name:=beq_iff_eq.mp (List.find?_some (p:=fun d:DefRec=>d.name==Str.ofString fn'.name) hd)
  refine HV (T.fn d (MO hd):) fun a o pm code doc h4 h5 h6 h7=>?_
  exact⟨a,o,_,⟨fun _=>hn▸h4,fun q=>nb (h0.symm.trans q)⟩,⟨h5,h6,rfl,rfl,rfl,rfl,h7⟩,h3⟩
 |true=>
  rw[hi] at h1
  refine af (bX h1:) fun fn' e h2=>?_
  obtain rfl:fn'=fn:=Option.some.inj (e.symm.trans hfn)
  refine aj h2 ?_;clear h2;intro h0 h2
  refine af (bX h2:) ?_;clear h2;intro c hc h2
  refine af (bX h2:) fun m hm h3=>?_
  refine Az (zP TE hq:) fun c' C N mN hc' K P=>?_
  obtain rfl:c=c':=Option.some.inj (hc.symm.trans hc')
  have hn:m.name=Str.ofString fn'.name:=beq_iff_eq.mp (List.find?_some (p:=fun m:MethRec=>m.name==Str.ofString fn'.name) hm)
  refine CO (P.meths m (MO hm):) fun a o pm cd doc h4 h5 h6 h7 h8=>?_
  exact⟨a,o,_,⟨fun q=>nb (q.symm.trans h0),fun _=>⟨h6,C,N,mN,K,hn▸h4⟩⟩,⟨h5,h7,rfl,rfl,rfl,rfl,h8⟩,h3⟩
theorem AI(T:Top p loose mean W.mg W.mb W.base){x:String}{i:Int}(h:uW p x i=true):∃t,W.mg (Str.ofString x)=some (.int i t):=by
 refine af (bX h:) ?_;clear h;intro d hd h
 refine af (T.const _ _ hd:) fun v hv r=>?_
 cases d<;>first|exact nb h|skip
 obtain rfl:=beq_iff_eq.mp h
 have r:=r W.base
 cases r with
 |int _ t=>exact⟨t,hv⟩
theorem nc{α:Type}[BEq α][LawfulBEq α]{l:List α}{x:α}(h:(!l.contains x)=true):x∉l:=fun q=>by rw[LN.mpr q] at h;exact nb h
theorem Al(T:Top p loose mean W.mg W.mb W.base){x:Str}(h:nh p loose x=true):W.mg x=none:=by
 refine aj h ?_;clear h;intro h1 h
 refine aj h ?_;clear h;intro h2 h
 refine aj h ?_;clear h;intro h3 h
 refine aj h ?_;clear h;intro h4 h
 exact T.free x (nc h1) (nc h2) (nc h3) (nc h4) (nc h)
theorem AU{gs:List (String×Int)}(T:Top p loose mean W.mg W.mb W.base)(hm:ff.all (fun x=>nh p loose (Str.ofString x))=true)(hg:gs.all (fun q=>uW p q.1 q.2)=true):iY W (b9 gs) where
 g:=T.g
 b:=T.b
 nolimit:=T.nolimit
 bi:=T.builtins
 bmiss:=fun x hx=>Al T (KI.mp hm x hx)
 gl:=fun x v h=>by
  unfold b9 at h
  cases q:gs.lookup x with
  |none=>rw[q] at h;injection h
  |some i=>
   rw[q] at h;cases h
   have hp:(x,i)∈gs:=by
    clear hg
    induction gs with
    |nil=>injection q
    |cons p r ih=>
     obtain⟨y,j⟩:=p
     rw[Ld] at q
     cases e:x==y with
     |true=>rw[e] at q;(injection q with q;cases q);rw[beq_iff_eq] at e;subst e;exact .head _
     |false=>rw[e] at q;exact .tail _ (ih q)
   refine aO (AI T (KI.mp hg _ hp):) fun t ht=>?_
   exact⟨i,t,rfl,ht⟩
end
theorem yO{W:Cx}{h:Lw}:∀{vs:List KC} {ns:List Int},IntsAre vs ns->aJ W h (ns.map .int) vs:=by
 intro vs ns e
 induction e with
 |nil=>rfl
 |cons n t _ ih=>exact⟨_,_,rfl,⟨t,rfl⟩,ih⟩
theorem jR.caller{n:Nat}(h:n<=100):jR n callerA:=by
 refine⟨rfl,?_,?_⟩
 ·refine(?_:4+100+20*n<9900)
  exact IM h
 ·refine(?_:1+300+5+5*n<1000)
  exact HR h
section
variable{W:Cx}
theorem yW:∀k<15,7<=k->dA k∈gL:=by decide
theorem yM(h:ClsAt W.mg W.base):qh W:=by
 refine bq h ?_;clear h;intro D h1 h2 h3
 refine⟨D,h1,fun k h7 h14=>?_⟩
 refine bq (h3 (dA k) (yW k (by with_reducible solve_by_elim (maxDepth:=3) only[*,Kj,Ks,Kl,KN,K6,Ls]) h7):) fun C a b c=>?_
 exact⟨C,a,⟨h2,b⟩,c⟩
end
theorem AJ{prog p:Program}{loose:List Str}{mean:ExcName->Option KC}{w:World}{s₁:Kv}{mg mb:Str->Option KC}{FT:Nat->Option Fn}{ids:List Nat}{gs:List (String×Int)}{f n:Nat}{fn:Fn}{fa a:Addr}{vs:List KC}{ns:List Int}{Q:KC->Kv->Prop}{E:KC->Kv->Prop}
  (T:Top p loose mean mg mb s₁.heap) (hC:ClsAt mg s₁.heap) (hg:s₁.gens= #[])
  (hm:ff.all (fun x=>nh p loose (Str.ofString x))=true) (hgs:gs.all (fun q=>uW p q.1 q.2)=true) (EC:wY mg s₁.heap) (D:Cd ⟨prog,w,s₁.heap,mg,mb,#[],s₁.os⟩ FT ids) (hn:n<=100) (hf:f∈ids) (hfn:FT f=some fn) (how:fn.own=false) (hfa:mg (Str.ofString fn.name)=some (.ref fa))
  (hL:s₁.heap.IsList a vs.toArray) (hI:IntsAre vs ns)
  (hlaw:oD FT (b9 gs) n f [.frz (ns.map .int)] (fun v _=>v= .bool true) (fun k _=>k=0) (fun _=>none))
  (hQ:∀s',s₁.heap.StaysIn s'.heap->s'.gens= #[]->s'.os=s₁.os->Q (.bool true) s'):
  KP (model prog w) callerA (call (.ref fa) [.ref a]) Q E s₁:=by
 let W:Cx:=⟨prog,w,s₁.heap,mg,mb,#[],s₁.os⟩
 have ok:iY W (b9 gs):=AU (W:=W) T hm hgs
 refine gf (x5 ok EC D n (jR.caller hn) f hf fn hfn:) fun a' o fd h1 _ _ h4=>?_
 have:a'=fa:=by
  have:=(h1.1 how).symm.trans hfa
  cases this;rfl
 subst this
 refine KB (h4 _ (.inl rfl) _ [.ref a] _ _ _ s₁ E (.inr ⟨⟨[],rfl,fun _ h=>nomatch h⟩,yM (W:=W) hC,fun k _ _ _ h7 _ _ _ _ h=>by rw[h] at h7;exact absurd h7 (by decide)⟩) hlaw ⟨fun _ _ e=>e,(fun _ _ e=>by injection e),hg,rfl⟩ ?_) (fun v s' p=>?_) fun _ _ x=>x
 ·refine⟨_,_,rfl,⟨a,vs,rfl,hL,yO hI⟩,rfl⟩
 ·refine dJ p ?_;clear p;intro u mem' hu M S e28r0_5
  subst e28r0_5
  obtain rfl:=hu.bool
  exact hQ s' M.stays M.gens M.os
end TD.Internal
namespace TD.Internal
noncomputable def dW:Fn:={name:="is_among",np:=3,vars:=["thing","least","most"],body:=(aK [
  .ret (.boolop true (.cons (.isinst (.nm 0) .int) (.cons (.not (.isinst (.nm 0) .bool)) (.cons (.cmp2 .le .le (.nm 1) (.nm 0) (.nm 2)) .nil))))])}
noncomputable def nR:Fn:={name:="is_row",np:=2,vars:=["thing","many","one"],body:=(aK [
  .ifs (.boolop false (.cons (.not (.isinst (.nm 0) .list)) (.cons (.cmp .ne (.b1 .len (.nm 0)) (.nm 1)) .nil))) (aK [
   .ret (.bool false)]) .nil,
  .ret (.b1 .all (.comp (.call 0 (.cons (.nm 2) (.cons (.int 0) (.cons (.glob "MOST_WORTH") .nil)))) (.one 2) .plain (.nm 0) .nil))])}
noncomputable def jh:Fn:={name:="need_heir",np:=2,vars:=["table","heir"],body:=(aK [
  .ifs (.not (.call 0 (.cons (.nm 1) (.cons (.int 0) (.cons (.bin .sub (.b1 .len (.nm 0)) (.int 1)) .nil))))) (aK [
   .raise .BadHeir "no such heir"]) .nil])}
noncomputable def tO:Fn:={name:="sum_of",np:=2,vars:=["row","things","thing"],body:=(aK [
  .ret (.b1 .sum (.comp (.sub (.nm 0) (.nm 2)) (.one 2) .plain (.nm 1) .nil))])}
noncomputable def yK:Fn:={name:="_law_at",np:=2,vars:=["_law_script","_law_k"],body:=(aK [
  .ifs (.cmp .lt (.nm 1) (.b1 .len (.nm 0))) (aK [
   .ret (.sub (.nm 0) (.nm 1))]) .nil,
  .ret (.int 0)])}
noncomputable def qF:Fn:={name:="_law_mixed",np:=2,vars:=["_law_cell","_law_k"],body:=(aK [
  .ret (.bin .mod (.bin .mul (.bin .add (.bin .add (.nm 0) (.bin .mul (.int 7919) (.nm 1))) (.int 17)) (.int 48271)) (.int 2147483647))])}
noncomputable def sQ:Fn:={name:="_law_copy",np:=1,vars:=["_law_rows","_law_row"],body:=(aK [
  .ret (.comp (.b1 .list (.nm 1)) (.one 1) .plain (.nm 0) .nil)])}
noncomputable def pM:Fn:={name:="_law_whole",np:=1,vars:=["_law_found"],body:=(aK [
  .ret (.boolop true (.cons (.isinst (.nm 0) .int) (.cons (.not (.isinst (.nm 0) .bool)) .nil)))])}
noncomputable def k9:Fn:={name:="is_envious",np:=4,vars:=["table","shares","heir","other"],body:=(aK [
  .ret (.cmp .gt (.call 8 (.cons (.sub (.nm 0) (.nm 2)) (.cons (.sub (.nm 1) (.nm 3)) .nil))) (.call 8 (.cons (.sub (.nm 0) (.nm 2)) (.cons (.sub (.nm 1) (.nm 2)) .nil))))])}
noncomputable def oR:Fn:={name:="pairs_of",np:=2,vars:=["table","shares","found","heir","other"],body:=(aK [
  .asg 2 (.lst .nil),
  .fors (.one 3) .range (.b1 .len (.nm 0)) (aK [
   .fors (.one 4) .range (.b1 .len (.nm 0)) (aK [
    .ifs (.call 22 (.cons (.nm 0) (.cons (.nm 1) (.cons (.nm 3) (.cons (.nm 4) .nil))))) (aK [
     .expr (.append (.nm 2) (.tup (.cons (.nm 3) (.cons (.nm 4) .nil))))]) .nil])]),
  .ret (.nm 2)])}
noncomputable def qr:Fn:={name:="enviers",np:=3,vars:=["pairs","heir","left","pair"],body:=(aK [
  .ret (.comp (.sub (.nm 3) (.int 0)) (.one 3) .plain (.nm 0) (.cons (.boolop true (.cons (.cmp .eq (.sub (.nm 3) (.int 1)) (.nm 1)) (.cons (.cmp .inn (.sub (.nm 3) (.int 0)) (.nm 2)) .nil))) .nil))])}
noncomputable def kW:Fn:={name:="first_free",np:=2,vars:=["pairs","left","heir"],body:=(aK [
  .fors (.one 2) .plain (.nm 1) (aK [
   .ifs (.cmp .eq (.call 30 (.cons (.nm 0) (.cons (.nm 2) (.cons (.nm 1) .nil)))) (.lst .nil)) (aK [
    .ret (.nm 2)]) .nil]),
  .ret .none])}
noncomputable def kX:Fn:={name:="parted",np:=2,vars:=["pairs","many","found","left","heir","one"],body:=(aK [
  .asg 2 (.lst .nil),
  .asg 3 (.b1 .lrange (.nm 1)),
  .asg 4 (.call 31 (.cons (.nm 0) (.cons (.nm 3) .nil))),
  .whiles (.isc false (.nm 4) .none) (aK [
   .expr (.append (.nm 2) (.nm 4)),
   .asg 3 (.comp (.nm 5) (.one 5) .plain (.nm 3) (.cons (.cmp .ne (.nm 5) (.nm 4)) .nil)),
   .asg 4 (.call 31 (.cons (.nm 0) (.cons (.nm 3) .nil)))]),
  .ret (.tup (.cons (.nm 2) (.cons (.nm 3) .nil)))])}
noncomputable def kM:Fn:={name:="ring_among",np:=2,vars:=["pairs","left","chain","heir"],body:=(aK [
  .asg 2 (.lst (.cons (.sub (.nm 1) (.int 0)) .nil)),
  .asg 3 (.sub (.call 30 (.cons (.nm 0) (.cons (.sub (.nm 1) (.int 0)) (.cons (.nm 1) .nil)))) (.int 0)),
  .whiles (.cmp .notin (.nm 3) (.nm 2)) (aK [
   .expr (.append (.nm 2) (.nm 3)),
   .asg 3 (.sub (.call 30 (.cons (.nm 0) (.cons (.nm 3) (.cons (.nm 1) .nil)))) (.int 0))]),
  .ret (.b1 .lrev (.slice true (.nm 2) (.index (.nm 2) (.nm 3))))])}
noncomputable def qB:Fn:={name:="ring_of",np:=2,vars:=["table","shares","pairs","left"],body:=(aK [
  .asg 2 (.call 23 (.cons (.nm 0) (.cons (.nm 1) .nil))),
  .asg 3 (.sub (.call 32 (.cons (.nm 2) (.cons (.b1 .len (.nm 0)) .nil))) (.int 1)),
  .ifs (.cmp .eq (.nm 3) (.lst .nil)) (aK [
   .ret .none]) .nil,
  .ret (.call 33 (.cons (.nm 2) (.cons (.nm 3) .nil)))])}
noncomputable def mi:Fn:={name:="turned_by",np:=2,vars:=["shares","heirs","found","place","share"],body:=(aK [
  .asg 2 (.comp (.b1 .list (.nm 4)) (.one 4) .plain (.nm 0) .nil),
  .fors (.one 3) .range (.b1 .len (.nm 1)) (aK [
   .asgSub (.nm 2) (.sub (.nm 1) (.nm 3)) (.b1 .list (.sub (.nm 0) (.sub (.nm 1) (.bin .mod (.bin .add (.nm 3) (.int 1)) (.b1 .len (.nm 1))))))]),
  .ret (.nm 2)])}
noncomputable def ni:Fn:={name:="given",np:=3,vars:=["table","shares","thing","found","now","heirs","heir","share"],body:=(aK [
  .asg 3 (.lst .nil),
  .asg 4 (.comp (.b1 .list (.nm 7)) (.one 7) .plain (.nm 1) .nil),
  .asg 5 (.call 34 (.cons (.nm 0) (.cons (.nm 4) .nil))),
  .whiles (.isc false (.nm 5) .none) (aK [
   .expr (.append (.nm 3) (.tup (.cons (.str "ring") (.cons (.b1 .tuple (.nm 5)) .nil)))),
   .asg 4 (.call 37 (.cons (.nm 4) (.cons (.nm 5) .nil))),
   .asg 5 (.call 34 (.cons (.nm 0) (.cons (.nm 4) .nil)))]),
  .asg 6 (.call 31 (.cons (.call 23 (.cons (.nm 0) (.cons (.nm 4) .nil))) (.cons (.b1 .lrange (.b1 .len (.nm 0))) .nil))),
  .expr (.append (.nm 3) (.tup (.cons (.str "give") (.cons (.nm 2) (.cons (.nm 6) .nil))))),
  .asgSub (.nm 4) (.nm 6) (.b1 .sorted (.bin .add (.sub (.nm 4) (.nm 6)) (.lst (.cons (.nm 2) .nil)))),
  .ret (.tup (.cons (.nm 3) (.cons (.nm 4) .nil)))])}
noncomputable def ot:Fn:={name:="dealt_by",np:=1,vars:=["table","shares","thing","row"],body:=(aK [
  .asg 1 (.comp (.lst .nil) (.one 3) .plain (.nm 0) .nil),
  .fors (.one 2) .range (.b1 .len (.sub (.nm 0) (.int 0))) (aK [
   .asg 1 (.sub (.call 41 (.cons (.nm 0) (.cons (.nm 1) (.cons (.nm 2) .nil)))) (.int 1))]),
  .ret (.nm 1)])}
noncomputable def ew:Fn:={own:=true,name:="__init__",np:=2,vars:=["self","heirs","heir","heir"],body:=(aK [
  .ifs (.not (.call 0 (.cons (.nm 1) (.cons (.int 1) (.cons (.glob "MOST_HEIRS") .nil))))) (aK [
   .raise .BadHeir "no such number of heirs"]) .nil,
  .asgAttr (.nm 0) 0 (.comp (.lst .nil) (.one 2) .range (.nm 1) .nil),
  .asgAttr (.nm 0) 1 (.comp (.lst .nil) (.one 3) .range (.nm 1) .nil)])}
noncomputable def iS:Fn:={own:=true,name:="shares",np:=1,vars:=["self","share"],body:=(aK [
  .ret (.comp (.b1 .list (.nm 1)) (.one 1) .plain (.attr (.nm 0) 1) .nil)])}
noncomputable def ji:Fn:={own:=true,name:="table",np:=1,vars:=["self","row"],body:=(aK [
  .ret (.comp (.b1 .list (.nm 1)) (.one 1) .plain (.attr (.nm 0) 0) .nil)])}
noncomputable def oq:Fn:={name:="_law_envies",np:=2,vars:=["_law_rows","_law_held","_law_found","_law_one","_law_other"],body:=(aK [
  .asg 2 (.lst .nil),
  .fors (.one 3) .range (.b1 .len (.nm 0)) (aK [
   .fors (.one 4) .range (.b1 .len (.nm 0)) (aK [
    .ifs (.cmp .gt (.call 108 (.cons (.sub (.nm 0) (.nm 3)) (.cons (.sub (.nm 1) (.nm 4)) .nil))) (.call 108 (.cons (.sub (.nm 0) (.nm 3)) (.cons (.sub (.nm 1) (.nm 3)) .nil)))) (aK [
     .expr (.append (.nm 2) (.tup (.cons (.nm 3) (.cons (.nm 4) .nil))))]) .nil])]),
  .ret (.nm 2)])}
noncomputable def qG:Fn:={name:="_law_borne",np:=2,vars:=["_law_rows","_law_held","_law_one","_law_other","_law_rest","_law_thing"],body:=(aK [
  .fors (.two 2 3) .plain (.call 65 (.cons (.nm 0) (.cons (.nm 1) .nil))) (aK [
   .asg 4 (.comp (.bin .sub (.call 108 (.cons (.sub (.nm 0) (.nm 2)) (.cons (.sub (.nm 1) (.nm 3)) .nil))) (.sub (.sub (.nm 0) (.nm 2)) (.nm 5))) (.one 5) .plain (.sub (.nm 1) (.nm 3)) .nil),
   .ifs (.cmp .gt (.b1 .minL (.nm 4)) (.call 108 (.cons (.sub (.nm 0) (.nm 2)) (.cons (.sub (.nm 1) (.nm 2)) .nil)))) (aK [
    .ret (.bool false)]) .nil]),
  .ret (.bool true)])}
noncomputable def kv:Fn:={name:="_law_has_ring",np:=2,vars:=["_law_rows","_law_held","_law_pairs","_law_left","_law_turn","_law_seen","_law_heir","_law_other","_law_heir"],body:=(aK [
  .asg 2 (.call 65 (.cons (.nm 0) (.cons (.nm 1) .nil))),
  .asg 3 (.b1 .lrange (.b1 .len (.nm 0))),
  .fors (.one 4) .range (.b1 .len (.nm 0)) (aK [
   .asg 5 (.comp (.nm 7) (.two 6 7) .plain (.nm 2) (.cons (.cmp .inn (.nm 6) (.nm 3)) .nil)),
   .asg 3 (.comp (.nm 8) (.one 8) .plain (.nm 3) (.cons (.cmp .inn (.nm 8) (.nm 5)) .nil))]),
  .ret (.cmp .ne (.nm 3) (.lst .nil))])}
noncomputable def jk:Fn:={name:="_law_last_right",np:=3,vars:=["_law_rows","_law_found","_law_thing","_law_ahead","_law_envied","_law_free","_law_share","_law_one","_law_one","_law_other","_law_heir"],body:=(aK [
  .asg 3 (.comp (.comp (.nm 7) (.one 7) .plain (.nm 6) (.cons (.cmp .ne (.nm 7) (.nm 2)) .nil)) (.one 6) .plain (.nm 1) .nil),
  .asg 4 (.comp (.nm 9) (.two 8 9) .plain (.call 65 (.cons (.nm 0) (.cons (.nm 3) .nil))) .nil),
  .asg 5 (.comp (.nm 10) (.one 10) .range (.b1 .len (.nm 0)) (.cons (.cmp .notin (.nm 10) (.nm 4)) .nil)),
  .ret (.boolop true (.cons (.not (.call 90 (.cons (.nm 0) (.cons (.nm 3) .nil)))) (.cons (.cmp .inn (.nm 2) (.sub (.nm 1) (.sub (.nm 5) (.int 0)))) .nil)))])}
noncomputable def p9:Fn:={name:="_law_rings",np:=2,vars:=["_law_rows","_law_held","_law_pairs","_law_left","_law_ways","_law_found","_law_turn","_law_way","_law_one","_law_other","_law_pair","_law_heir"],body:=(aK [
  .asg 2 (.call 65 (.cons (.nm 0) (.cons (.nm 1) .nil))),
  .asg 3 (.call 119 (.cons (.nm 2) (.cons (.b1 .len (.nm 0)) .nil))),
  .asg 2 (.comp (.nm 10) (.one 10) .plain (.nm 2) (.cons (.boolop true (.cons (.cmp .inn (.sub (.nm 10) (.int 0)) (.nm 3)) (.cons (.cmp .inn (.sub (.nm 10) (.int 1)) (.nm 3)) .nil))) .nil)),
  .asg 4 (.comp (.lst (.cons (.nm 11) .nil)) (.one 11) .plain (.nm 3) .nil),
  .asg 5 (.lst .nil),
  .fors (.one 6) .range (.int 60) (aK [
   .ifs (.cmp .eq (.nm 4) (.lst .nil)) (aK [
    .ret (.nm 5)]) .nil,
   .asg 7 (.pop (.nm 4) .nil),
   .fors (.two 8 9) .plain (.nm 2) (aK [
    .ifs (.boolop true (.cons (.cmp .eq (.nm 8) (.sub (.nm 7) (.neg (.int 1)))) (.cons (.cmp .eq (.nm 9) (.sub (.nm 7) (.int 0))) .nil))) (aK [
     .expr (.append (.nm 5) (.nm 7))]) .nil,
    .ifs (.boolop true (.cons (.cmp .eq (.nm 8) (.sub (.nm 7) (.neg (.int 1)))) (.cons (.cmp .gt (.nm 9) (.sub (.nm 7) (.int 0))) (.cons (.cmp .notin (.nm 9) (.nm 7)) .nil)))) (aK [
     .expr (.append (.nm 4) (.bin .add (.nm 7) (.lst (.cons (.nm 9) .nil))))]) .nil])]),
  .ret .none])}
noncomputable def mw:Fn:={name:="_law_settled",np:=2,vars:=["_law_rows","_law_held","_law_seen","_law_found","_law_at_here","_law_rings_here","_law_way","_law_other","_law_k"],body:=(aK [
  .asg 2 (.lst (.cons (.nm 1) .nil)),
  .asg 3 (.lst .nil),
  .asg 4 (.int 0),
  .whiles (.cmp .lt (.nm 4) (.b1 .len (.nm 2))) (aK [
   .asg 5 (.call 95 (.cons (.nm 0) (.cons (.sub (.nm 2) (.nm 4)) .nil))),
   .ifs (.boolop false (.cons (.isc true (.nm 5) .none) (.cons (.cmp .gt (.b1 .len (.nm 2)) (.int 12)) .nil))) (aK [
    .ret .none]) .nil,
   .ifs (.cmp .eq (.nm 5) (.lst .nil)) (aK [
    .expr (.append (.nm 3) (.sub (.nm 2) (.nm 4)))]) .nil,
   .fors (.one 6) .plain (.nm 5) (aK [
    .asg 7 (.call 18 (.cons (.sub (.nm 2) (.nm 4)) .nil)),
    .fors (.one 8) .range (.b1 .len (.nm 6)) (aK [
     .asgSub (.nm 7) (.sub (.nm 6) (.bin .sub (.nm 8) (.int 1))) (.b1 .list (.sub (.sub (.nm 2) (.nm 4)) (.sub (.nm 6) (.nm 8))))]),
    .ifs (.cmp .notin (.nm 7) (.nm 2)) (aK [
     .expr (.append (.nm 2) (.nm 7))]) .nil]),
   .asg 4 (.bin .add (.nm 4) (.int 1))]),
  .ret (.nm 3)])}
noncomputable def pJ:Fn:={name:="_law_given",np:=3,vars:=["_law_rows","_law_held","_law_thing","_law_envied","_law_heir","_law_one","_law_other","_law_one"],body:=(aK [
  .asg 3 (.comp (.nm 6) (.two 5 6) .plain (.call 65 (.cons (.nm 0) (.cons (.nm 1) .nil))) .nil),
  .asg 4 (.sub (.comp (.nm 7) (.one 7) .range (.b1 .len (.nm 0)) (.cons (.cmp .notin (.nm 7) (.nm 3)) .nil)) (.int 0)),
  .asg 1 (.call 18 (.cons (.nm 1) .nil)),
  .asgSub (.nm 1) (.nm 4) (.b1 .sorted (.bin .add (.sub (.nm 1) (.nm 4)) (.lst (.cons (.nm 2) .nil)))),
  .ret (.nm 1)])}
noncomputable def dU:Fn:={own:=true,name:="come",np:=2,vars:=["self","worths","thing","heir"],body:=(aK [
  .ifs (.not (.call 1 (.cons (.nm 1) (.cons (.b1 .len (.attr (.nm 0) 0)) .nil)))) (aK [
   .raise .BadTable "a worth for each heir is wanted"]) .nil,
  .asg 2 (.b1 .len (.sub (.attr (.nm 0) 0) (.int 0))),
  .ifs (.cmp .eq (.nm 2) (.glob "MOST_THINGS")) (aK [
   .raise .Full "too many things"]) .nil,
  .fors (.one 3) .range (.b1 .len (.nm 1)) (aK [
   .expr (.append (.sub (.attr (.nm 0) 0) (.nm 3)) (.sub (.nm 1) (.nm 3)))]),
  .asgAttr (.nm 0) 1 (.sub (.call 41 (.cons (.attr (.nm 0) 0) (.cons (.attr (.nm 0) 1) (.cons (.nm 2) .nil)))) (.int 1)),
  .ret (.nm 2)])}
noncomputable def fi:Fn:={own:=true,name:="go",np:=2,vars:=["self","heir","things","thing"],body:=(aK [
  .callS 7 (.cons (.attr (.nm 0) 0) (.cons (.nm 1) .nil)),
  .ifs (.cmp .eq (.b1 .len (.attr (.nm 0) 0)) (.int 1)) (aK [
   .raise .BadHeir "the only heir"]) .nil,
  .asg 2 (.sub (.attr (.nm 0) 1) (.nm 1)),
  .asgAttr (.nm 0) 0 (.bin .add (.slice false (.attr (.nm 0) 0) (.nm 1)) (.slice true (.attr (.nm 0) 0) (.bin .add (.nm 1) (.int 1)))),
  .asgAttr (.nm 0) 1 (.bin .add (.slice false (.attr (.nm 0) 1) (.nm 1)) (.slice true (.attr (.nm 0) 1) (.bin .add (.nm 1) (.int 1)))),
  .fors (.one 3) .plain (.nm 2) (aK [
   .asgAttr (.nm 0) 1 (.sub (.call 41 (.cons (.attr (.nm 0) 0) (.cons (.attr (.nm 0) 1) (.cons (.nm 3) .nil)))) (.int 1))])])}
noncomputable def dT:Fn:={own:=true,name:="join",np:=2,vars:=["self","worths"],body:=(aK [
  .ifs (.not (.call 1 (.cons (.nm 1) (.cons (.b1 .len (.sub (.attr (.nm 0) 0) (.int 0))) .nil)))) (aK [
   .raise .BadTable "a worth of each thing is wanted"]) .nil,
  .ifs (.cmp .eq (.b1 .len (.attr (.nm 0) 0)) (.glob "MOST_HEIRS")) (aK [
   .raise .Full "too many heirs"]) .nil,
  .expr (.append (.attr (.nm 0) 0) (.b1 .list (.nm 1))),
  .asgAttr (.nm 0) 1 (.call 44 (.cons (.attr (.nm 0) 0) .nil)),
  .ret (.bin .sub (.b1 .len (.attr (.nm 0) 0)) (.int 1))])}
noncomputable def pP:Fn:={name:="_law_sum",np:=2,vars:=["_law_row","_law_things","_law_found","_law_thing"],body:=(aK [
  .asg 2 (.int 0),
  .fors (.one 3) .plain (.nm 1) (aK [
   .asg 2 (.bin .add (.nm 2) (.sub (.nm 0) (.nm 3)))]),
  .ret (.nm 2)])}
noncomputable def lh:Fn:={name:="_law_parted",np:=3,vars:=["_law_found","_law_heirs","_law_things","_law_seen","_law_row","_law_one"],body:=(aK [
  .ifs (.boolop false (.cons (.not (.isinst (.nm 0) .list)) (.cons (.cmp .ne (.b1 .len (.nm 0)) (.nm 1)) .nil))) (aK [
   .ret (.bool false)]) .nil,
  .asg 3 (.lst .nil),
  .fors (.one 4) .plain (.nm 0) (aK [
   .ifs (.boolop false (.cons (.not (.isinst (.nm 4) .list)) (.cons (.not (.b1 .all (.comp (.call 19 (.cons (.nm 5) .nil)) (.one 5) .plain (.nm 4) .nil))) (.cons (.cmp .ne (.nm 4) (.b1 .sorted (.nm 4))) .nil)))) (aK [
    .ret (.bool false)]) .nil,
   .asg 3 (.bin .add (.nm 3) (.nm 4))]),
  .ret (.cmp .eq (.b1 .sorted (.nm 3)) (.nm 2))])}
noncomputable def l7:Fn:={name:="_law_worth",np:=1,vars:=["_law_number"],body:=(aK [
  .ret (.sub (.lst (.cons (.bin .mod (.bin .fdiv (.nm 0) (.int 4)) (.int 1000001)) (.cons (.bin .sub (.int 1000000) (.bin .mod (.bin .fdiv (.nm 0) (.int 4)) (.int 3))) (.cons (.bin .mod (.bin .fdiv (.nm 0) (.int 4)) (.int 7)) (.cons (.bin .mod (.bin .fdiv (.nm 0) (.int 4)) (.int 40)) .nil))))) (.bin .mod (.nm 0) (.int 4)))])}
noncomputable def om:Fn:={name:="_law_worths",np:=2,vars:=["_law_cell","_law_many","_law_k"],body:=(aK [
  .ret (.comp (.call 110 (.cons (.call 11 (.cons (.bin .fdiv (.call 11 (.cons (.nm 0) (.cons (.nm 2) .nil))) (.int 5)) (.cons (.bin .mul (.nm 2) (.nm 2)) .nil))) .nil)) (.one 2) .range (.nm 1) .nil)])}
noncomputable def gF:Fn:={name:="_law_bad_row",np:=2,vars:=["_law_number","_law_many","_law_row","_law_at_here","_law_odd"],body:=(aK [
  .asg 2 (.call 111 (.cons (.nm 0) (.cons (.nm 1) .nil))),
  .asg 3 (.bin .mod (.bin .fdiv (.nm 0) (.int 12)) (.mm true (.int 1) (.nm 1))),
  .asg 4 (.lst (.cons (.neg (.int 1)) (.cons (.int 1000001) (.cons (.bool true) (.cons (.bool false) (.cons (.str "5") (.cons .none (.cons (.lst (.cons (.int 5) .nil)) (.cons .dict0 .nil))))))))),
  .ifs (.boolop true (.cons (.cmp .lt (.bin .mod (.nm 0) (.int 12)) (.int 8)) (.cons (.cmp .gt (.nm 1) (.int 0)) .nil))) (aK [
   .ret (.bin .add (.bin .add (.slice false (.nm 2) (.nm 3)) (.lst (.cons (.sub (.nm 4) (.bin .mod (.nm 0) (.int 12))) .nil))) (.slice true (.nm 2) (.bin .add (.nm 3) (.int 1))))]) .nil,
  .ret (.sub (.lst (.cons (.bin .add (.nm 2) (.lst (.cons (.int 0) .nil))) (.cons (.bin .add (.slice true (.nm 2) (.int 1)) (.bin .mul (.lst (.cons (.int 0) .nil)) (.bin .mul (.int 2) (.b1 .int (.cmp .eq (.nm 1) (.int 0)))))) (.cons (.b1 .tuple (.nm 2)) (.cons .none (.cons (.int 5) .nil)))))) (.bin .mod (.bin .fdiv (.nm 0) (.int 12)) (.int 5)))])}
noncomputable def mc:Fn:={name:="_law_asked",np:=3,vars:=["_law_estate","_law_kind","_law_thing"],body:=(aK [
  .ifs (.cmp .eq (.nm 1) (.int 0)) (aK [
   .methR (.nm 0) 105 (.cons (.nm 2) .nil)]) .nil,
  .ifs (.cmp .eq (.nm 1) (.int 1)) (aK [
   .methR (.nm 0) 106 (.cons (.nm 2) .nil)]) .nil,
  .ifs (.cmp .eq (.nm 1) (.int 2)) (aK [
   .methR (.nm 0) 107 (.cons (.nm 2) .nil)]) .nil,
  .newR 59 (.cons (.nm 2) .nil)])}
noncomputable def nS:Fn:={name:="_law_word",np:=3,vars:=["_law_estate","_law_kind","_law_thing","error","_law_found","_law_one"],body:=(aK [
  .word 113 (.cons (.nm 0) (.cons (.nm 1) (.cons (.nm 2) .nil))) 3 4 5 [.BadTable,.BadHeir,.Full] [.BadNote,.BadOrder,.BadRing] [.BadShares,.BadThing] ["table","heir","full"] "other" 5,
  .ret (.str "none")])}
noncomputable def jW:Fn:={name:="_law_refused",np:=3,vars:=["_law_estate","_law_number","_law_rows","_law_heirs","_law_bad"],body:=(aK [
  .asg 3 (.b1 .len (.nm 2)),
  .ifs (.cmp .eq (.bin .mod (.nm 1) (.int 3)) (.int 0)) (aK [
   .ret (.cmp .eq (.call 114 (.cons (.nm 0) (.cons (.int 0) (.cons (.call 112 (.cons (.bin .fdiv (.nm 1) (.int 3)) (.cons (.nm 3) .nil))) .nil)))) (.str "table"))]) .nil,
  .ifs (.cmp .eq (.bin .mod (.nm 1) (.int 3)) (.int 1)) (aK [
   .asg 4 (.sub (.lst (.cons (.neg (.int 1)) (.cons (.nm 3) (.cons (.bool true) (.cons (.bool false) (.cons (.str "0") (.cons .none (.cons (.lst (.cons (.int 0) .nil)) (.cons .dict0 .nil))))))))) (.bin .mod (.bin .fdiv (.nm 1) (.int 3)) (.int 8))),
   .ifs (.boolop true (.cons (.cmp .eq (.nm 3) (.int 1)) (.cons (.cmp .eq (.bin .mod (.bin .fdiv (.nm 1) (.int 24)) (.int 2)) (.int 0)) .nil))) (aK [
    .asg 4 (.int 0)]) .nil,
   .ret (.cmp .eq (.call 114 (.cons (.nm 0) (.cons (.int 1) (.cons (.nm 4) .nil)))) (.str "heir"))]) .nil,
  .ret (.cmp .eq (.call 114 (.cons (.nm 0) (.cons (.int 2) (.cons (.call 112 (.cons (.bin .fdiv (.nm 1) (.int 3)) (.cons (.b1 .len (.sub (.nm 2) (.int 0))) .nil))) .nil)))) (.str "table"))])}
noncomputable def fZ:Fn:={name:="_law_stands",np:=3,vars:=["_law_estate","_law_rows","_law_way","_law_held","_law_kept","_law_share","_law_row"],body:=(aK [
  .ifs (.boolop true (.cons (.cmp .eq (.nm 2) (.int 1)) (.cons (.cmp .ne (.meth (.nm 0) 64 .nil) (.nm 1)) .nil))) (aK [
   .ret (.bool false)]) .nil,
  .asg 3 (.meth (.nm 0) 63 .nil),
  .ifs (.boolop false (.cons (.cmp .ne (.meth (.nm 0) 64 .nil) (.nm 1)) (.cons (.not (.call 109 (.cons (.nm 3) (.cons (.b1 .len (.nm 1)) (.cons (.b1 .lrange (.b1 .len (.sub (.nm 1) (.int 0)))) .nil))))) .nil))) (aK [
   .ret (.bool false)]) .nil,
  .ifs (.not (.call 76 (.cons (.nm 1) (.cons (.nm 3) .nil)))) (aK [
   .ret (.bool false)]) .nil,
  .asg 4 (.call 18 (.cons (.nm 3) .nil)),
  .fors (.one 5) .plain (.nm 3) (aK [
   .expr (.append (.nm 5) (.neg (.int 1)))]),
  .fors (.one 6) .plain (.meth (.nm 0) 64 .nil) (aK [
   .expr (.append (.nm 6) (.neg (.int 1)))]),
  .ret (.boolop true (.cons (.cmp .eq (.meth (.nm 0) 64 .nil) (.nm 1)) (.cons (.cmp .eq (.meth (.nm 0) 63 .nil) (.nm 4)) .nil)))])}
noncomputable def fz:Fn:={name:="_law_full",np:=1,vars:=["_law_script","_law_cell","_law_estate","_law_k"],body:=(aK [
  .asg 1 (.call 10 (.cons (.nm 0) (.cons (.int 1) .nil))),
  .ifs (.cmp .eq (.bin .mod (.nm 1) (.int 2)) (.int 1)) (aK [
   .asg 2 (.new 59 (.cons (.int 8) .nil)),
   .fors (.one 3) .range (.int 8) (aK [
    .ifs (.cmp .ne (.meth (.nm 2) 105 (.cons (.call 111 (.cons (.bin .add (.bin .fdiv (.nm 1) (.int 2)) (.bin .mul (.int 31) (.nm 3))) (.cons (.int 8) .nil))) .nil)) (.nm 3)) (aK [
     .ret (.bool false)]) .nil]),
   .ifs (.boolop false (.cons (.cmp .ne (.call 114 (.cons (.nm 2) (.cons (.int 2) (.cons (.bin .mul (.lst (.cons (.int 1) .nil)) (.int 8)) .nil)))) (.str "full")) (.cons (.cmp .ne (.call 114 (.cons (.nm 2) (.cons (.int 2) (.cons (.bin .mul (.lst (.cons (.int 1) .nil)) (.int 7)) .nil)))) (.str "table")) .nil))) (aK [
    .ret (.bool false)]) .nil,
   .ret (.boolop true (.cons (.isc true (.meth (.nm 2) 106 (.cons (.bin .mod (.bin .fdiv (.nm 1) (.int 2)) (.int 8)) .nil)) .none) (.cons (.cmp .eq (.meth (.nm 2) 107 (.cons (.bin .mul (.lst (.cons (.int 1) .nil)) (.int 8)) .nil)) (.int 7)) (.cons (.cmp .eq (.b1 .len (.meth (.nm 2) 63 .nil)) (.int 8)) .nil))))]) .nil,
  .asg 2 (.new 59 (.cons (.int 1) .nil)),
  .fors (.one 3) .range (.int 40) (aK [
   .ifs (.cmp .ne (.meth (.nm 2) 105 (.cons (.lst (.cons (.nm 3) .nil)) .nil)) (.nm 3)) (aK [
    .ret (.bool false)]) .nil]),
  .ifs (.boolop false (.cons (.cmp .ne (.call 114 (.cons (.nm 2) (.cons (.int 0) (.cons (.lst (.cons (.int 7) .nil)) .nil)))) (.str "full")) (.cons (.cmp .ne (.call 114 (.cons (.nm 2) (.cons (.int 0) (.cons (.lst (.cons (.int 7) (.cons (.int 7) .nil))) .nil)))) (.str "table")) .nil))) (aK [
   .ret (.bool false)]) .nil,
  .ifs (.boolop false (.cons (.cmp .ne (.meth (.nm 2) 63 .nil) (.lst (.cons (.b1 .lrange (.int 40)) .nil))) (.cons (.cmp .ne (.call 114 (.cons (.nm 2) (.cons (.int 1) (.cons (.int 0) .nil)))) (.str "heir")) .nil))) (aK [
   .ret (.bool false)]) .nil,
  .ret (.boolop true (.cons (.cmp .eq (.meth (.nm 2) 107 (.cons (.bin .mul (.lst (.cons (.int 1) .nil)) (.int 40)) .nil)) (.int 1)) (.cons (.isc true (.meth (.nm 2) 106 (.cons (.int 0) .nil)) .none) (.cons (.cmp .eq (.meth (.nm 2) 63 .nil) (.lst (.cons (.b1 .lrange (.int 40)) .nil))) .nil))))])}
noncomputable def cv:Fn:={name:="_law_moved",np:=3,vars:=["_law_estate","_law_cell","_law_rows","_law_number","_law_everybody","_law_worths_here","_law_handed","_law_heir","_law_heir","_law_row"],body:=(aK [
  .asg 3 (.bin .fdiv (.call 11 (.cons (.nm 1) (.cons (.int 1) .nil))) (.int 3)),
  .asg 4 (.b1 .lrange (.b1 .len (.nm 2))),
  .ifs (.boolop true (.cons (.cmp .lt (.bin .mod (.nm 1) (.int 8)) (.int 5)) (.cons (.cmp .lt (.b1 .len (.sub (.nm 2) (.int 0))) (.int 12)) .nil))) (aK [
   .asg 5 (.call 111 (.cons (.nm 3) (.cons (.b1 .len (.nm 2)) .nil))),
   .asg 6 (.b1 .list (.nm 5)),
   .ifs (.boolop false (.cons (.cmp .ne (.meth (.nm 0) 105 (.cons (.nm 6) .nil)) (.b1 .len (.sub (.nm 2) (.int 0)))) (.cons (.cmp .ne (.nm 6) (.nm 5)) .nil))) (aK [
    .ret .none]) .nil,
   .asgSub (.nm 6) (.int 0) (.int 999999),
   .ret (.tup (.cons (.comp (.bin .add (.nm 9) (.lst (.cons (.sub (.nm 5) (.nm 8)) .nil))) (.two 8 9) .enum (.nm 2) .nil) (.cons (.nm 4) .nil)))]) .nil,
  .ifs (.boolop true (.cons (.cmp .lt (.bin .mod (.nm 1) (.int 8)) (.int 7)) (.cons (.cmp .gt (.b1 .len (.nm 2)) (.int 1)) .nil))) (aK [
   .asg 7 (.bin .mod (.nm 3) (.b1 .len (.nm 2))),
   .ifs (.isc false (.meth (.nm 0) 106 (.cons (.nm 7) .nil)) .none) (aK [
    .ret .none]) .nil,
   .ret (.tup (.cons (.bin .add (.slice false (.nm 2) (.nm 7)) (.slice true (.nm 2) (.bin .add (.nm 7) (.int 1)))) (.cons (.bin .add (.slice false (.nm 4) (.nm 7)) (.slice true (.nm 4) (.bin .add (.nm 7) (.int 1)))) .nil)))]) .nil,
  .ifs (.cmp .lt (.b1 .len (.nm 2)) (.int 8)) (aK [
   .asg 5 (.call 111 (.cons (.nm 3) (.cons (.b1 .len (.sub (.nm 2) (.int 0))) .nil))),
   .asg 6 (.b1 .list (.nm 5)),
   .ifs (.boolop false (.cons (.cmp .ne (.meth (.nm 0) 107 (.cons (.nm 6) .nil)) (.b1 .len (.nm 2))) (.cons (.cmp .ne (.nm 6) (.nm 5)) .nil))) (aK [
    .ret .none]) .nil,
   .expr (.append (.nm 6) (.int 7)),
   .ret (.tup (.cons (.bin .add (.nm 2) (.lst (.cons (.nm 5) .nil))) (.cons (.lst .nil) .nil)))]) .nil,
  .ret (.tup (.cons (.nm 2) (.cons (.nm 4) .nil)))])}
noncomputable def oB:Fn:={name:="_law_core",np:=2,vars:=["_law_pairs","_law_heirs","_law_left","_law_turn","_law_seen","_law_moved_here","_law_one","_law_other","_law_one","_law_other","_law_heir"],body:=(aK [
  .asg 2 (.b1 .lrange (.nm 1)),
  .fors (.one 3) .range (.nm 1) (aK [
   .asg 4 (.comp (.nm 7) (.two 6 7) .plain (.nm 0) (.cons (.cmp .inn (.nm 6) (.nm 2)) .nil)),
   .asg 5 (.comp (.nm 8) (.two 8 9) .plain (.nm 0) (.cons (.cmp .inn (.nm 9) (.nm 2)) .nil)),
   .asg 2 (.comp (.nm 10) (.one 10) .plain (.nm 2) (.cons (.boolop true (.cons (.cmp .inn (.nm 10) (.nm 4)) (.cons (.cmp .inn (.nm 10) (.nm 5)) .nil))) .nil))]),
  .ret (.nm 2)])}
noncomputable def mf:Fn:={name:="_law_fixed",np:=3,vars:=["_law_rows","_law_held","_law_things","_law_states","_law_thing","_law_fresh","_law_one","_law_some","_law_other","_law_given_so"],body:=(aK [
  .asg 3 (.lst (.cons (.nm 1) .nil)),
  .fors (.one 4) .plain (.nm 2) (aK [
   .asg 5 (.lst .nil),
   .fors (.one 6) .plain (.nm 3) (aK [
    .asg 7 (.call 96 (.cons (.nm 0) (.cons (.nm 6) .nil))),
    .ifs (.isc true (.nm 7) .none) (aK [
     .ret .none]) .nil,
    .fors (.one 8) .plain (.nm 7) (aK [
     .asg 9 (.call 97 (.cons (.nm 0) (.cons (.nm 8) (.cons (.nm 4) .nil)))),
     .ifs (.cmp .notin (.nm 9) (.nm 5)) (aK [
      .expr (.append (.nm 5) (.nm 9))]) .nil])]),
   .asg 3 (.nm 5),
   .ifs (.cmp .gt (.b1 .len (.nm 3)) (.int 4)) (aK [
    .ret .none]) .nil]),
  .ret (.nm 3)])}
noncomputable def qx:Fn:={name:="_law_parts",np:=4,vars:=["_law_rows","_law_stays","_law_held","_law_fresh","_law_things","_law_kept","_law_told","_law_share","_law_row","_law_heir","_law_thing"],body:=(aK [
  .asg 4 (.b1 .lrange (.b1 .len (.sub (.nm 3) (.int 0)))),
  .ifs (.cmp .gt (.b1 .len (.nm 3)) (.b1 .len (.nm 0))) (aK [
   .ret (.tup (.cons (.comp (.lst .nil) (.one 8) .plain (.nm 3) .nil) (.cons (.nm 4) .nil)))]) .nil,
  .asg 5 (.comp (.sub (.nm 2) (.nm 9)) (.one 9) .plain (.nm 1) .nil),
  .asg 6 (.lst .nil),
  .fors (.one 7) .plain (.nm 5) (aK [
   .asg 6 (.bin .add (.nm 6) (.nm 7))]),
  .ret (.tup (.cons (.nm 5) (.cons (.comp (.nm 10) (.one 10) .plain (.nm 4) (.cons (.cmp .notin (.nm 10) (.nm 6)) .nil)) .nil)))])}
noncomputable def tV:Fn:={name:="_law_next",np:=4,vars:=["_law_states","_law_rows","_law_stays","_law_fresh","_law_found","_law_held","_law_kept","_law_things","_law_some","_law_one"],body:=(aK [
  .asg 4 (.lst .nil),
  .fors (.one 5) .plain (.nm 0) (aK [
   .asgTwo 6 7 (.call 121 (.cons (.nm 1) (.cons (.nm 2) (.cons (.nm 5) (.cons (.nm 3) .nil))))),
   .asg 8 (.call 120 (.cons (.nm 3) (.cons (.nm 6) (.cons (.nm 7) .nil)))),
   .ifs (.isc true (.nm 8) .none) (aK [
    .ret .none]) .nil,
   .asg 4 (.bin .add (.nm 4) (.comp (.nm 9) (.one 9) .plain (.nm 8) (.cons (.cmp .notin (.nm 9) (.nm 4)) .nil)))]),
  .ifs (.cmp .gt (.b1 .len (.nm 4)) (.int 4)) (aK [
   .ret .none]) .nil,
  .ret (.nm 4)])}
noncomputable def fg:Fn:={name:="_law_no_less",np:=5,vars:=["_law_rows","_law_stays","_law_held","_law_fresh","_law_found","_law_things","_law_place","_law_heir"],body:=(aK [
  .asg 5 (.sub (.call 121 (.cons (.nm 0) (.cons (.nm 1) (.cons (.nm 2) (.cons (.nm 3) .nil))))) (.int 1)),
  .ifs (.boolop true (.cons (.cmp .ne (.nm 5) (.lst .nil)) (.cons (.not (.call 91 (.cons (.nm 3) (.cons (.nm 4) (.cons (.sub (.nm 5) (.neg (.int 1))) .nil))))) .nil))) (aK [
   .ret (.bool false)]) .nil,
  .fors (.two 6 7) .enum (.nm 1) (aK [
   .ifs (.cmp .lt (.call 108 (.cons (.sub (.nm 3) (.nm 6)) (.cons (.sub (.nm 4) (.nm 6)) .nil))) (.call 108 (.cons (.sub (.nm 0) (.nm 7)) (.cons (.sub (.nm 2) (.nm 7)) .nil)))) (aK [
    .ret (.bool false)]) .nil]),
  .ret (.bool true)])}
noncomputable def tB:Fn:={name:="_law_done",np:=3,vars:=["_law_estate","_law_cell","_law_rows"],body:=(aK [
  .ifs (.boolop true (.cons (.cmp .eq (.bin .mod (.nm 1) (.int 8)) (.int 7)) (.cons (.cmp .eq (.bin .mod (.bin .fdiv (.nm 1) (.int 8)) (.int 2)) (.int 1)) .nil))) (aK [
   .ifs (.not (.call 115 (.cons (.nm 0) (.cons (.bin .fdiv (.call 11 (.cons (.nm 1) (.cons (.int 2) .nil))) (.int 3)) (.cons (.nm 2) .nil))))) (aK [
    .ret .none]) .nil,
   .ret (.tup (.cons (.nm 2) (.cons (.b1 .lrange (.b1 .len (.nm 2))) .nil)))]) .nil,
  .ret (.call 118 (.cons (.nm 0) (.cons (.nm 1) (.cons (.nm 2) .nil))))])}
noncomputable def n4:Fn:={name:="_law_looked",np:=4,vars:=["_law_estate","_law_rows","_law_told","_law_way","_law_found","_law_kept"],body:=(aK [
  .ifs (.not (.call 116 (.cons (.nm 0) (.cons (.nm 1) (.cons (.nm 3) .nil))))) (aK [
   .ret .none]) .nil,
  .asg 4 (.meth (.nm 0) 63 .nil),
  .asg 5 (.lst (.cons (.call 18 (.cons (.nm 4) .nil)) (.cons (.call 18 (.cons (.nm 1) .nil)) .nil))),
  .expr (.append (.nm 2) (.tup (.cons (.lst (.cons (.nm 4) (.cons (.meth (.nm 0) 64 .nil) .nil))) (.cons (.nm 5) .nil)))),
  .ret (.call 18 (.cons (.nm 4) .nil))])}
noncomputable def dF:Fn:={name:="_law_walked",np:=4,vars:=["_law_estate","_law_cells","_law_rows","_law_told","_law_states","_law_cell","_law_moved_here","_law_later","_law_stays","_law_fresh","_law_found","_law_held","_law_row"],body:=(aK [
  .asg 4 (.lst (.cons (.comp (.lst .nil) (.one 12) .plain (.nm 2) .nil) .nil)),
  .fors (.one 5) .plain (.nm 1) (aK [
   .asg 6 (.call 124 (.cons (.nm 0) (.cons (.nm 5) (.cons (.nm 2) .nil)))),
   .ifs (.isc true (.nm 6) .none) (aK [
    .ret .none]) .nil,
   .asgTwo 7 8 (.nm 6),
   .asg 9 (.call 122 (.cons (.nm 4) (.cons (.nm 2) (.cons (.nm 8) (.cons (.nm 7) .nil))))),
   .ifs (.boolop false (.cons (.isc true (.nm 9) .none) (.cons (.cmp .gt (.bin .mod (.bin .fdiv (.nm 5) (.int 32)) (.int 3)) (.int 0)) .nil))) (aK [
    .asg 10 (.call 125 (.cons (.nm 0) (.cons (.nm 7) (.cons (.nm 3) (.cons (.bin .mod (.bin .fdiv (.nm 5) (.int 16)) (.int 2)) .nil))))),
    .ifs (.boolop false (.cons (.isc true (.nm 10) .none) (.cons (.boolop true (.cons (.isc false (.nm 9) .none) (.cons (.cmp .notin (.nm 10) (.nm 9)) .nil))) .nil))) (aK [
     .ret .none]) .nil,
    .asg 11 (.sub (.nm 4) (.int 0)),
    .ifs (.boolop true (.cons (.cmp .eq (.b1 .len (.nm 4)) (.int 1)) (.cons (.not (.call 123 (.cons (.nm 2) (.cons (.nm 8) (.cons (.nm 11) (.cons (.nm 7) (.cons (.nm 10) .nil))))))) .nil))) (aK [
     .ret .none]) .nil,
    .asg 9 (.lst (.cons (.nm 10) .nil))]) .nil,
   .asg 4 (.nm 9),
   .asg 2 (.nm 7)]),
  .ret (.tup (.cons (.nm 2) (.cons (.nm 4) .nil)))])}
noncomputable def dk:Fn:={name:="law",np:=1,vars:=["_law_script","_law_heirs","_law_estate","_law_beside","_law_told","_law_start","_law_ended","_law_odd","_law_heir","_law_one","_law_other","_law_heir"],body:=(aK [
  .ifs (.cmp .eq (.bin .mod (.bin .fdiv (.call 10 (.cons (.nm 0) (.cons (.int 0) .nil))) (.int 32)) (.int 16)) (.int 1)) (aK [
   .ret (.call 117 (.cons (.nm 0) .nil))]) .nil,
  .asg 1 (.bin .add (.int 1) (.bin .mod (.call 10 (.cons (.nm 0) (.cons (.int 0) .nil))) (.int 4))),
  .ifs (.cmp .eq (.bin .mod (.bin .fdiv (.call 10 (.cons (.nm 0) (.cons (.int 0) .nil))) (.int 4)) (.int 8)) (.int 1)) (aK [
   .asg 1 (.bin .add (.nm 1) (.int 4))]) .nil,
  .asg 2 (.new 59 (.cons (.nm 1) .nil)),
  .asg 3 (.new 59 (.cons (.nm 1) .nil)),
  .expr (.meth (.nm 3) 105 (.cons (.bin .mul (.lst (.cons (.int 5) .nil)) (.nm 1)) .nil)),
  .asg 4 (.lst .nil),
  .asg 5 (.comp (.lst .nil) (.one 8) .range (.nm 1) .nil),
  .asg 6 (.call 126 (.cons (.nm 2) (.cons (.cut (.nm 0) 1 11) (.cons (.nm 5) (.cons (.nm 4) .nil))))),
  .ifs (.boolop false (.cons (.isc true (.nm 6) .none) (.cons (.cmp .notin (.meth (.nm 2) 63 .nil) (.sub (.nm 6) (.int 1))) .nil))) (aK [
   .ret (.bool false)]) .nil,
  .ifs (.not (.call 116 (.cons (.nm 2) (.cons (.sub (.nm 6) (.int 0)) (.cons (.int 0) .nil))))) (aK [
   .ret (.bool false)]) .nil,
  .ifs (.not (.b1 .all (.comp (.cmp .eq (.nm 9) (.nm 10)) (.two 9 10) .plain (.nm 4) .nil))) (aK [
   .ret (.bool false)]) .nil,
  .asg 7 (.lst (.cons (.int 0) (.cons (.neg (.int 1)) (.cons (.int 9) (.cons (.bool true) (.cons (.bool false) (.cons (.str "3") (.cons .none (.cons (.lst (.cons (.int 2) .nil)) (.cons .dict0 .nil)))))))))),
  .asg 7 (.sub (.nm 7) (.bin .mod (.call 10 (.cons (.nm 0) (.cons (.int 17) .nil))) (.int 9))),
  .ifs (.cmp .ne (.call 114 (.cons (.nm 2) (.cons (.int 3) (.cons (.nm 7) .nil)))) (.str "heir")) (aK [
   .ret (.bool false)]) .nil,
  .ret (.cmp .eq (.meth (.nm 3) 63 .nil) (.bin .add (.lst (.cons (.lst (.cons (.int 0) .nil)) .nil)) (.comp (.lst .nil) (.one 11) .range (.bin .sub (.nm 1) (.int 1)) .nil)))])}
noncomputable def FT:Nat->Option Fn
 |0=>some dW
 |1=>some nR
 |7=>some jh
 |8=>some tO
 |10=>some yK
 |11=>some qF
 |18=>some sQ
 |19=>some pM
 |22=>some k9
 |23=>some oR
 |30=>some qr
 |31=>some kW
 |32=>some kX
 |33=>some kM
 |34=>some qB
 |37=>some mi
 |41=>some ni
 |44=>some ot
 |59=>some ew
 |63=>some iS
 |64=>some ji
 |65=>some oq
 |76=>some qG
 |90=>some kv
 |91=>some jk
 |95=>some p9
 |96=>some mw
 |97=>some pJ
 |105=>some dU
 |106=>some fi
 |107=>some dT
 |108=>some pP
 |109=>some lh
 |110=>some l7
 |111=>some om
 |112=>some gF
 |113=>some mc
 |114=>some nS
 |115=>some jW
 |116=>some fZ
 |117=>some fz
 |118=>some cv
 |119=>some oB
 |120=>some mf
 |121=>some qx
 |122=>some tV
 |123=>some fg
 |124=>some tB
 |125=>some n4
 |126=>some dF
 |127=>some dk
 |_=>none
end TD.Internal
namespace TD.Internal
open PySem PySem.W PyProof.Rows
noncomputable def vX:List Nat:=[0,1,7,8,10,11,18,19,22,23,30,31,32,33,34,37,41,44,59,63,64,65,76,90,91,95,96,97,105,106,107,108,109,110,111,112,113,114,115,116,117,118,119,120,121,122,123,124,125,126,127]
noncomputable def EH:List Nat:=[59,63,64,105,106,107]
theorem zC:rA (az PySem.Challenge.rw_uf020018_12.row.prog) []=true:=by kernel_rfl
theorem CT:vX.all (fun f=>(cond (EH.contains f) (vv (az PySem.Challenge.rw_uf020018_12.row.prog) [] FT vX f) (xX (az PySem.Challenge.rw_uf020018_12.row.prog) FT vX f)))=true:=by kernel_rfl
theorem DJ:ff.all (fun x=>nh (az PySem.Challenge.rw_uf020018_12.row.prog) [] (Str.ofString x))=true:=by kernel_rfl
end TD.Internal
namespace TD.Internal
open PySem (Str Addr)
set_option hygiene false in
set_option compiler.extract_closed false in
local macro_rules | `(tactic| walk_at "s") => `(tactic| with_reducible (first
 |refine AL (by with_unfolding_all rfl) ?_|apply u5|refine A0 (by with_unfolding_all rfl) ?_|apply zk|apply jz|apply A8|apply lQ|apply d9|apply sF|apply zr|apply wQ|apply qC|apply Bq|apply rk|apply BX
 |refine fk _ (by with_unfolding_all rfl) ?_|refine AX _ (by with_unfolding_all rfl) ?_
 |refine Aq (by with_unfolding_all rfl) ?_|refine vy (by with_unfolding_all rfl) ?_|refine CP (by with_unfolding_all rfl) (by with_unfolding_all rfl) ?_|refine CK (by with_unfolding_all rfl) (by with_unfolding_all rfl) ?_|refine CL (by with_unfolding_all rfl) (by with_unfolding_all rfl) ?_
 |apply vq|apply vb|apply DC|apply cH|apply jl|apply eY|apply mF|apply B7|apply vG|apply qP|apply qk|apply lO
 |apply Fy|apply yT|apply kQ|apply Ea|apply AB|apply yr|apply CY|apply Cu|apply Gj|apply Ew|apply xg|apply xW|apply xc|apply Am|apply AN|apply Ci|apply AS|apply sU|apply rR|apply Jk|apply JO|apply vx|apply Bm|apply CD
 |apply rN|apply v5|refine rV (by unfold oi;first|decide|walk_at"o") ?_|refine z8 (by unfold oi;first|decide|walk_at"o") ?_
 |apply n7|apply zL|apply uG|apply mZ|apply vn
 |apply dR|apply kS|apply gJ|apply l5|apply iq|apply fj|apply dB|apply ik|refine Cr (by with_unfolding_all rfl) ?_|refine Cq (by with_unfolding_all rfl) ?_|simp only[Bool.not_false,NM]))
set_option hygiene false in
set_option compiler.extract_closed false in
local macro_rules | `(tactic| walk_at "ss") => `(tactic| repeat walk_at "s")
noncomputable def GS:List (String×Int):=[("MOST_HEIRS",8),("MOST_THINGS",40),("MOST_WORTH",1000000)]
noncomputable abbrev CN (n:Nat):bb:=oD FT (b9 GS) n
theorem aa{n:Nat}(h:n<1000):n<br:=Ks h (by decide)
theorem qW{n:Int}(h:0<=n/\n<=100):0<=n/\n<br:=⟨h.1,by unfold br;exact DQ h⟩
section
variable{Q:ae->Mem->Prop}{X:Nat->Mem->Prop}{m:Mem}{n:Nat}
theorem fh{v lo hi:Int}(h:Q (.bool (decide (lo<=v/\v<=hi))) m):CN (n+1) 0 [.int v,.int lo,.int hi] Q X m:=by
 (refine aw rfl rfl ?_;dsimp only[dW,aK,bh,KU,Kk,Ko,Kr,KG,Nat.reduceAdd,Nat.reduceSub])
 walk_at"ss"
 with_reducible refine bt (fun q=>?_) (fun q=>?_)
 ·walk_at"ss"
  simp at q
  simpa [q] using h
 ·walk_at"ss"
  simp at q
  have:¬(lo<=v/\v<=hi):=DK q
  simpa [this] using h
noncomputable def cV (x:Int):Bool:=decide (0<=x/\x<=1000000)
theorem gE{v:ae}{r:List Int}{many:Int}(hv:cJ m v r)(hl:r.length<1000)(h:∀m',ax m m'->Q (.bool (decide ((r.length:Int)=many)&&r.all cV)) m'):CN (n+2) 1 [v,.int many] Q X m:=by
 (refine aw rfl rfl ?_;dsimp only[nR,aK,bh,KU,Kk,Ko,Kr,KG,Nat.reduceAdd,Nat.reduceSub])
 walk_at"ss"
 refine mn hv ?_
 walk_at"ss"
 refine gb hv (aa (by first|assumption|walk_at"o")) ?_
 walk_at"ss"
 with_reducible refine bt (fun q=>?_) (fun q=>?_)
 ·walk_at"ss"
  simp at q
  have:=h m .refl
  simpa [q] using this
 ·walk_at"ss"
  simp at q
  refine ar hv.seq (by unfold br;simp;walk_at"o") ?_
  refine gX (g:=fun x=>match x with| .int i=> .bool (cV i)|_=> .none) rfl (fun x hx P hP=>?_) ?_
  ·refine af (KL.mp hx:) fun i _ e0r0_2=>?_
   subst e0r0_2
   walk_at"ss"
   exact fh hP
  ·refine av (by unfold br;simp;walk_at"o") (fun a ha=>?_)
   refine rj (bs:=r.map cV) (by refine rwl bo.new.lst ?_;simp) ?_
   walk_at"ss"
   exact Qb (h _ (ax.set ha)) (by simp [q,List.all_map,Function.comp_def])
noncomputable def yi (k:Nat) (r:List Int):Bool:=decide (r.length=k)&&r.all cV
noncomputable def pW (t:List (List Int)):Bool:=match t with
 | []=>false
 |r::_=>decide (t.length<=8)&&(decide (r.length<=40)&&t.all (yi r.length))
theorem fR{a b:List Int}(hp:a.Perm b)(ha:a.Pairwise (·<=·))(hb:b.Pairwise (·<=·)):a=b:=
 hp.eq_of_pairwise (fun x y _ _ h1 h2=>by exact Fq h1 h2) ha hb
theorem jL{v:ae}{is:List Int}(hv:cJ m v is)(hl:is.length<64)(h:∀js:List Int,js.Perm is->js.Pairwise (·<=·)->bf m (js.map .int) Q):gj .sorted v Q m:=⟨_,hv.lst,⟨is,rfl,hl,h⟩⟩
noncomputable def jo (many:Int) (is:List Int):Bool:=is.all (fun x=>decide (0<=x/\x<=many-1))&&decide is.Nodup
noncomputable def dD (many:Int) (is:List Int):Bool:=jo many is&&decide (is.Pairwise (·<=·))
theorem jv{v:ae}{t:List (List Int)}{k:Int}(hv:bH m v t)(hl:t.length<1000)(hk:0<=k/\k<t.length)(h:Q .none m):CN (n+2) 7 [v,.int k] Q X m:=by
 (refine aw rfl rfl ?_;dsimp only[jh,aK,bh,KU,Kk,Ko,Kr,KG,Nat.reduceAdd,Nat.reduceSub])
 walk_at"ss"
 refine ba hv (aa (by first|assumption|walk_at"o")) ?_
 walk_at"ss"
 refine fh ?_
 refine rwl (decide_eq_true (Hg hk)) ?_
 walk_at"ss"
 exact h
noncomputable def cT (r:List Int) (is:List Int):Int:=(is.map fun i=>r.getD i.toNat 0).sum
theorem cu{r:List Int}{k:Nat}(h:k<r.length):r[k]? =some (r.getD k 0):=by
 refine rwl (Ku) (rwl (KA h) ?_);rfl
theorem tJ{v w:ae}{r is:List Int}(hv:cJ m v r)(hw:cJ m w is)(hl:r.length<1000)(hl':is.length<1000)(hr:∀x∈r,small x)(hi:∀i∈is,0<=i/\i.toNat<r.length)(h:∀m',ax m m'->Q (.int (cT r is)) m'):CN (n+1) 8 [v,w] Q X m:=by
 (refine aw rfl rfl ?_;dsimp only[tO,aK,bh,KU,Kk,Ko,Kr,KG,Nat.reduceAdd,Nat.reduceSub])
 walk_at"ss"
 refine ar hw.seq (by unfold br;simp;walk_at"o") ?_
 refine gX (g:=fun x=>match x with| .int i=> .int (r.getD i.toNat 0)|_=> .none) rfl (fun x hx P hP=>?_) ?_
 ·refine af (KL.mp hx:) fun i hi' e1r0_2=>?_
  subst e1r0_2
  walk_at"ss"
  exact cz hv (hi i hi').1 (cu (hi i hi').2) (aa (by first|assumption|walk_at"o")) hP
 refine av (by unfold br;simp;walk_at"o") (fun a ha=>?_)
 refine CG (is:=is.map fun i=>r.getD i.toNat 0) (by refine rwl bo.new.lst ?_;simp) (fun x hx=>?_) (by simp;unfold br;walk_at"o") ?_
 ·refine af (KL.mp hx:) fun i hi' e2r0_2=>?_
  subst e2r0_2
  exact hr _ (Kp (cu (hi i hi').2))
 walk_at"ss"
 exact h _ (ax.set ha)
theorem lY{t:List (List Int)}(ht:pW t=true):∃r t',t=r::t'/\t.length<=8/\r.length<=40/\∀x∈t,x.length=r.length/\∀i∈x,0<=i/\i<=1000000:=by
 cases t with
 |nil=>exact Bool.noConfusion ht
 |cons r t'=>
  simp only[pW,KW,decide_eq_true_eq,KI] at ht
  refine⟨r,t',rfl,ht.1,ht.2.1,fun x hx=>?_⟩
  have:=ht.2.2 x hx
  simp only[yi,KW,decide_eq_true_eq,KI,cV] at this
  exact this
noncomputable def cell (ns:List Int) (k:Nat):Int:=ns.getD k 0
theorem lu{ns:List Int}{k:Int}(h0:0<=k)(hl:ns.length<1000)(h:Q (.int (cell ns k.toNat)) m):CN (n+1) 10 [.frz (ns.map .int),.int k] Q X m:=by
 (refine aw rfl rfl ?_;dsimp only[yK,aK,bh,KU,Kk,Ko,Kr,KG,Nat.reduceAdd,Nat.reduceSub])
 walk_at"ss"
 refine rQ (xs:=ns.map .int) rfl (by unfold br;simp;walk_at"o") ?_
 walk_at"ss"
 with_reducible refine bt (fun q=>?_) (fun q=>?_)
 ·walk_at"ss"
  simp at q
  have hk:k.toNat<ns.length:=Jj h0 q
  refine dG (xs:=ns.map .int) rfl (cX h0 (by simpa using hk)) (x:= .int (cell ns k.toNat)) (by refine rwl (KH) (rwl (cu hk) ?_);rfl) (by unfold br;simp;walk_at"o") ?_
  walk_at"ss"
  exact h
 ·walk_at"ss"
  simp at q
  exact Qi h (by unfold cell;refine rwl (Ku) (rwl (Lu (EA q)) ?_);rfl)
noncomputable def vE (c k:Int):Int:=((c+7919*k+17)*48271).fmod 2147483647
theorem iL{c k:Int}(h:Q (.int (vE c k)) m):CN (n+1) 11 [.int c,.int k] Q X m:=by
 (refine aw rfl rfl ?_;dsimp only[qF,aK,bh,KU,Kk,Ko,Kr,KG,Nat.reduceAdd,Nat.reduceSub])
 walk_at"ss"
 refine lj (.inl (by unfold small;walk_at"o")) ?_
 walk_at"ss"
 refine lj (.inr (by unfold small;walk_at"o")) ?_
 walk_at"ss"
 exact h
theorem vm{i:Int}(h:Q (.bool true) m):CN (n+1) 19 [.int i] Q X m:=by
 (refine aw rfl rfl ?_;dsimp only[pM,aK,bh,KU,Kk,Ko,Kr,KG,Nat.reduceAdd,Nat.reduceSub])
 walk_at"ss"
 exact h
theorem xT{v w:ae}{r is:List Int}(hv:cJ m v r)(hw:cJ m w is)(hl:r.length<1000)(hl':is.length<1000)(hi:∀i∈is,0<=i/\i.toNat<r.length)(h:Q (.int (cT r is)) m):CN (n+1) 108 [v,w] Q X m:=by
 (refine aw rfl rfl ?_;dsimp only[pP,aK,bh,KU,Kk,Ko,Kr,KG,Nat.reduceAdd,Nat.reduceSub])
 walk_at"ss"
 refine ar hw.seq (by unfold br;simp;walk_at"o") ?_
 dsimp only[ay]
 refine bg (fun k l m'=>∃y,l= [some v,some w,some (.int (cT r (is.take k))),y]/\m'=m) ⟨none,by simp [cT],rfl⟩ (fun k x l m' hx hI P hP=>?_) fun l m' hI=>?_
 ·refine af hI ?_;clear hI;intro y e7r0_1 e7r0_2
  subst e7r0_1
  subst e7r0_2
  rw[KH] at hx
  refine af (KD.mp hx:) fun i hi' e8r0_2=>?_
  subst e8r0_2
  have hii:=hi i (Kp hi')
  refine aU ?_
  dsimp only[ay]
  walk_at"ss"
  refine cz hv hii.1 (cu hii.2) (aa (by first|assumption|walk_at"o")) ?_
  walk_at"ss"
  with_reducible refine au (hP _ _ ?_)
  refine⟨rfl,some (.int i),?_,rfl⟩
  dsimp only[ay]
  refine rwl Lb (rwl hi' ?_)
  simp [cT]
 ·refine af hI ?_;clear hI;intro y e9r0_1 e9r0_2
  subst e9r0_1
  subst e9r0_2
  walk_at"ss"
  refine rwl (Ki ..) (rwl (K9 ..) ?_)
  exact h
theorem i8{m:Mem}{a b:Addr}{o o':cU}(h:a≠b):(m.set a o).set b o'=(m.set b o').set a o:=by
 funext c;unfold Mem.set
 by_cases h1:c=a
 ·subst h1;simp [h]
 ·simp [h1]
theorem zo{bs:List Addr}{i:Nat}{b:Addr}(h:bs[i]? =some b):(bs.map ae.ref)[i]? =some (.ref b):=by refine rwl (KH) (rwl h ?_);rfl
end
noncomputable def At (m:Mem) (f:Addr) (L:List ae) (m':Mem):Prop:=∃mr,ax m mr/\mr f=none/\m'=mr.set f (.list L)
theorem At.start{m:Mem}{f:Addr}{L:List ae}(h:m f=none):At m f L (m.set f (.list L)):=⟨m,.refl,h,rfl⟩
theorem At.get{m m':Mem}{f:Addr}{L:List ae}(h:At m f L m'):m' f=some (.list L):=by
 obtain⟨mr,_,_,rfl⟩:=h;exact ao
theorem At.ext{m m':Mem}{f:Addr}{L:List ae}(h:At m f L m'):ax m m':=by
 obtain⟨mr,E,e,rfl⟩:=h;exact E.trans (ax.set e)
theorem At.grow{m m' m'':Mem}{f:Addr}{L:List ae}(h:At m f L m')(E:ax m' m''):At m f L m'':=by
 refine bq h ?_;clear h;intro mr E0 e e0r0_3
 subst e0r0_3
 exact⟨m''.del f,E0.trans (ax.del e E),dH,ax.del_back (m:=m) (E f _ ao)⟩
theorem At.put{m m':Mem}{f:Addr}{L L':List ae}(h:At m f L m'):At m f L' (m'.set f (.list L')):=by
 refine bq h ?_;clear h;intro mr E0 e e1r0_3
 subst e1r0_3
 exact⟨mr,E0,e,fQ⟩
structure Ok(t u:List (List Int))(k:Nat):Prop where
 tab:pW t=true
 row:∀r∈t,r.length=k
 k40:k<=40
 len:u.length=t.length
 fit:∀s∈u,s.length<=k
 sh:u.all (dD k)=true
 nd:u.flatten.Nodup
noncomputable def sm (t u:List (List Int)) (i j:Nat):Int:=cT (t.getD i []) (u.getD j [])
theorem eO{t:List (List Int)}{i:Nat}(h:i<t.length):t[i]? =some (t.getD i []):=by refine rwl (Ku) (rwl (KA h) ?_);rfl
theorem aB{t:List (List Int)}{i:Nat}(h:i<t.length):t.getD i []∈t:=Kp (eO h)
section ok
variable{t u:List (List Int)}{k:Nat}
theorem Ok.t8(O:Ok t u k):t.length<=8:=by obtain⟨r,t',_,h,_⟩:=lY O.tab;exact h
theorem Ok.tl(O:Ok t u k):t.length<1000:=Kj O.t8 (by decide)
theorem Ok.ul(O:Ok t u k):u.length<1000:=O.len▸O.tl
theorem Ok.worth(O:Ok t u k){r:List Int}(hr:r∈t):∀x∈r,0<=x/\x<=1000000:=by obtain⟨r0,t',_,_,_,h⟩:=lY O.tab;exact(h r hr).2
theorem Ok.rl(O:Ok t u k){r:List Int}(hr:r∈t):r.length<1000:=by refine rwl (O.row r hr) ?_;exact Kj O.k40 (by decide)
theorem Ok.share(O:Ok t u k){s:List Int}(hs:s∈u):dD k s=true:=KI.mp O.sh s hs
theorem Ok.thing(O:Ok t u k){s:List Int}(hs:s∈u):∀x∈s,0<=x/\x.toNat<k:=fun x hx=>by
 have h:=O.share hs
 simp only[dD,jo,KW,KI,decide_eq_true_eq] at h
 have:=h.1.1 x hx
 exact IQ this
theorem Ok.nodup(O:Ok t u k){s:List Int}(hs:s∈u):s.Nodup:=by
 have h:=O.share hs
 simp only[dD,jo,KW,KI,decide_eq_true_eq] at h
 exact h.1.2
theorem Ok.sl(O:Ok t u k){s:List Int}(hs:s∈u):s.length<64:=Kj (Kl (O.fit s hs) O.k40) (by decide)
theorem Ok.sm0(O:Ok t u k){i:Nat}(hi:i<t.length){is:List Int}(h:∀x∈is,x.toNat<k):0<=cT (t.getD i []) is:=by
 unfold cT
 have hr:=aB hi
 induction is with
 |nil=>exact MQ _
 |cons a is ih=>
  refine rwl LG (rwl Mk ?_)
  have h1:=(O.worth hr _ (Kp (cu (by refine rwl (O.row _ hr) ?_;exact h a (.head _))))).1
  have h2:=ih fun x hx=>h x (.tail _ hx)
  lia
end ok
theorem tq{x:Int}(h:0<=x/\x<=1000000):small x:=⟨by have:=h.1;exact DY this,by have:=h.2;exact Gs this⟩
theorem nn(i:Nat):(0:Int)<=(i:Int):=Lv i
section
variable{Q:ae->Mem->Prop}{X:Nat->Mem->Prop}{m:Mem}{n:Nat}{t u:List (List Int)}{k:Nat}{v w:ae}
theorem yj(O:Ok t u k){i:Nat}(hi:i<t.length){y z:ae}{is:List Int}(hy:cJ m y (t.getD i []))(hz:cJ m z is)(hl:is.length<1000)(h:∀x∈is,0<=x/\x.toNat<k)(hq:∀m',ax m m'->Q (.int (cT (t.getD i []) is)) m'):CN (n+1) 8 [y,z] Q X m:=
 tJ hy hz (O.rl (aB hi)) hl (fun x hx=>tq (O.worth (aB hi) x hx)) (fun x hx=>by refine rwl (O.row _ (aB hi)) ?_;exact h x hx) hq
theorem Aw(O:Ok t u k){i:Nat}(hi:i<t.length){y z:ae}{is:List Int}(hy:cJ m y (t.getD i []))(hz:cJ m z is)(hl:is.length<1000)(h:∀x∈is,0<=x/\x.toNat<k)(hq:Q (.int (cT (t.getD i []) is)) m):CN (n+1) 108 [y,z] Q X m:=
 xT hy hz (O.rl (aB hi)) hl (fun x hx=>by refine rwl (O.row _ (aB hi)) ?_;exact h x hx) hq
theorem sl1{n:Nat}(h:n<64):n<1000:=LD h (by decide)
theorem iB(O:Ok t u k)(hv:bH m v t){i:Nat}(hi:i<t.length)(h:∀y,cJ m y (t.getD i [])->Q y m):gm v (.int i) Q m:=eG hv (nn i) (eO hi) (aa O.tl) h
theorem eC(O:Ok t u k)(hw:bH m w u){i:Nat}(hi:i<t.length)(h:∀y,cJ m y (u.getD i [])->Q y m):gm w (.int i) Q m:=eG hw (nn i) (eO (O.len▸hi)) (aa O.ul) h
theorem q0(O:Ok t u k)(hv:bH m v t)(hw:bH m w u){i j:Nat}(hi:i<t.length)(hj:j<t.length)(h:∀m',ax m m'->Q (.bool (decide (sm t u i j>sm t u i i))) m'):CN (n+2) 22 [v,w,.int i,.int j] Q X m:=by
 (refine aw rfl rfl ?_;dsimp only[k9,aK,bh,KU,Kk,Ko,Kr,KG,Nat.reduceAdd,Nat.reduceSub])
 walk_at"ss"
 refine iB O hv hi fun y hy=>?_
 walk_at"ss"
 refine eC O hw hj fun z hz=>?_
 walk_at"ss"
 have hmj:=aB (O.len.symm▸hj)
 have hmi:=aB (O.len.symm▸hi)
 refine yj O hi hy hz (sl1 (O.sl hmj)) (O.thing hmj) fun m2 E2=>?_
 walk_at"ss"
 refine iB O (hv.ext E2) hi fun y hy=>?_
 walk_at"ss"
 refine eC O (hw.ext E2) hi fun z hz=>?_
 walk_at"ss"
 refine yj O hi hy hz (sl1 (O.sl hmi)) (O.thing hmi) fun m3 E3=>?_
 walk_at"ss"
 exact h _ (E2.trans E3)
noncomputable def fp (p:Nat×Nat):ae:= .tup [.int p.1,.int p.2]
noncomputable def bN (t u:List (List Int)) (i N:Nat):List (Nat×Nat):=((Kt N).filter fun j=>decide (sm t u i j>sm t u i i)).map fun j=>(i,j)
noncomputable def dh (t u:List (List Int)) (N:Nat):List (Nat×Nat):=(Kt N).flatMap fun i=>bN t u i t.length
noncomputable def aC (t u:List (List Int)):List (Nat×Nat):=dh t u t.length
theorem eX(i N:Nat):bN t u i (N+1)=bN t u i N++(if sm t u i N>sm t u i i then [(i,N)] else []):=by
 unfold bN
 refine rwl (Nw ..) (rwl (MY ..) (rwl (KT ..) ?_))
 congr 1
 by_cases h:sm t u i N>sm t u i i
 ·refine rwl (if_pos h) ?_;simp [h]
 ·refine rwl (if_neg h) ?_;simp [h]
theorem iy(N:Nat):dh t u (N+1)=dh t u N++bN t u N t.length:=by
 unfold dh
 exact rwl (Nw ..) (rwl (List.flatMap_append ..) (rwl (List.flatMap_singleton ..) rfl))
theorem ku(i N:Nat):(bN t u i N).length<=N:=by
 unfold bN
 refine rwl (Ki ..) ?_
 exact Kl (Lh _ _) (Ky Kz)
theorem jt(N:Nat):(dh t u N).length<=N*t.length:=by
 induction N with
 |zero=>exact Lp _
 |succ N ih=>
  refine rwl (iy ..) (rwl (Km ..) (rwl (Nat.succ_mul ..) ?_))
  exact LA ih (ku _ _)
theorem bL{p:Nat×Nat}:p∈aC t u↔p.1<t.length/\p.2<t.length/\sm t u p.1 p.2>sm t u p.1 p.1:=by
 obtain⟨i,j⟩:=p
 unfold aC dh bN
 simp only[MP,KL,K5,KS,decide_eq_true_eq,Prod.mk.injEq]
 constructor
 ·rintro ⟨i',h1,j',⟨h2,h3⟩,rfl,rfl⟩;exact⟨h1,h2,h3⟩
 ·rintro ⟨h1,h2,h3⟩;exact⟨i,h1,j,⟨h2,h3⟩,rfl,rfl⟩
theorem mC(O:Ok t u k)(i j:Nat)(hi:i<t.length)(hj:j<=t.length):((dh t u i++bN t u i j).map fp).length<br:=by
 have h1:=jt (t:=t) (u:=u) i
 have h2:=ku (t:=t) (u:=u) i j
 have h3:=O.t8
 have h4:i*t.length<=8*8:=Nat.mul_le_mul (Gp hi h3) h3
 refine rwl (Ki ..) (rwl (Km ..) ?_)
 exact aa (Ia hj h1 h2 h3 h4)
theorem gI{N:Nat}(h:N<=8):(0:Int)<=(N:Int)/\(N:Int)<br:=qW ⟨nn N,F4 h⟩
theorem nN(O:Ok t u k)(hv:bH m v t)(hw:bH m w u)(h:∀a m',ax m m'->m a=none->m' a=some (.list ((aC t u).map fp))->Q (.ref a) m'):CN (n+3) 23 [v,w] Q X m:=by
 (refine aw rfl rfl ?_;dsimp only[oR,aK,bh,KU,Kk,Ko,Kr,KG,Nat.reduceAdd,Nat.reduceSub])
 walk_at"ss"
 refine av (aa (by decide)) fun f hf=>?_
 walk_at"ss"
 dsimp only[ay]
 have hv0:=hv.ext (ax.set (o:= .list []) hf)
 refine ba hv0 (aa O.tl) ?_
 refine aV (gI O.t8) ?_
 refine bg (fun i l m'=>∃y3 y4,l= [some v,some w,some (.ref f),y3,y4]/\At m f ((dh t u i).map fp) m') ⟨none,none,rfl,At.start hf⟩ (fun i x l m' hx hI P hP=>?_) fun l m' hI=>?_
 ·refine cG hI ?_;clear hI;intro y3 y4 e3r0_2 A
  subst e3r0_2
  refine aq (cq hx:) fun hi e4r0_1=>?_
  subst e4r0_1
  have hi:i<t.length:=hi
  refine aU ?_
  dsimp only[ay]
  walk_at"ss"
  refine ba (hv.ext A.ext) (aa O.tl) ?_
  refine aV (gI O.t8) ?_
  refine bg (fun j l m'=>∃y4,l= [some v,some w,some (.ref f),some (.int i),y4]/\At m f ((dh t u i++bN t u i j).map fp) m') ⟨y4,rfl,by refine rwl (rfl:bN t u i 0= []) (rwl (Ll ..) ?_);exact A⟩ (fun j x l m2 hx hI P2 hP2=>?_) fun l m2 hI=>?_
  ·refine af hI ?_;clear hI;intro y4 e5r0_1 A2
   subst e5r0_1
   refine aq (cq hx:) fun hj e6r0_1=>?_
   subst e6r0_1
   have hj:j<t.length:=hj
   refine aU ?_
   dsimp only[ay]
   walk_at"ss"
   refine q0 O (hv.ext A2.ext) (hw.ext A2.ext) hi hj fun m3 E3=>?_
   walk_at"ss"
   have A3:=A2.grow E3
   with_reducible refine bt (fun q=>?_) (fun q=>?_)
   ·have q:=of_decide_eq_true q
    walk_at"ss"
    refine iW A3.get ?_
    walk_at"ss"
    refine⟨aa (by decide:2<1000),?_⟩
    refine fK A3.get (mC O i j hi (KN hj)) ?_
    walk_at"ss"
    with_reducible refine au (hP2 _ _ ?_)
    refine⟨trivial,some (.int j),rfl,?_⟩
    refine rwl (eX ..) (rwl (if_pos q ..) (rwb (K7 ..) (rwl (KT (l₂:=[(i,j)]) ..) ?_)))
    exact A3.put
   ·have q:=of_decide_eq_false q
    walk_at"ss"
    with_reducible refine au (hP2 _ _ ?_)
    refine⟨trivial,some (.int j),rfl,?_⟩
    refine rwl (eX ..) (rwl (if_neg q ..) (rwl (Ll ..) ?_))
    exact A3
  ·refine af hI ?_;clear hI;intro y4 e7r0_1 A2
   subst e7r0_1
   walk_at"ss"
   with_reducible refine au (hP _ _ ?_)
   refine⟨trivial,some (.int i),y4,rfl,?_⟩
   refine rwl (iy ..) ?_
   rw[aR] at A2
   exact A2
 ·refine cG hI ?_;clear hI;intro y3 y4 e8r0_2 A
  subst e8r0_2
  walk_at"ss"
  rw[aR] at A
  exact h _ _ A.ext hf A.get
end
section
variable{C:bb}{G:String->Option ae}{Q:ae->Mem->Prop}{X:Nat->Mem->Prop}{m:Mem}{t u:List (List Int)}{k:Nat}{v:ae}{loc:aL}{Y:Nat->aL->Mem->Prop}
theorem cS{elt ct:Ex}{i:Nat}{xs:List ae}{ok:Mem->Prop}{Q':List ae->Mem->Prop}{g:ae->ae}{c:ae->Bool}(hok:ok m)
  (hcond:∀x∈xs,∀P:ae->Mem->Prop,P (.bool (c x)) m->bk C G X ct (ay loc i x) P m) (helt:∀x∈xs,∀P:ae->Mem->Prop,P (g x) m->bk C G X elt (ay loc i x) P m)
  (h:Q' ((xs.filter c).map g) m):compLoop (cF C G X elt (.one i) (.cons ct .nil) loc) ok xs [] Q' m:=by
 refine dq (fun k acc m'=>m'=m/\acc=((xs.take k).filter c).map g) ⟨rfl,by simp⟩ (fun k x acc m' hx hI P hP=>?_) fun acc m' hI=>?_
 ·refine aq hI ?_;clear hI;intro e9r0_0 e9r0_1
  subst e9r0_0
  subst e9r0_1
  have hm:=Kp hx
  refine KF _ ⟨rfl,eY (hcond x hm _ (cH (dR (bt (fun e=>?_) fun e=>?_))))⟩
  ·refine helt x hm _ (hP _ _ ⟨hok,rfl,?_⟩)
   refine rwl Lb (rwl hx ?_);simp [e]
  ·refine hP _ _ ⟨hok,rfl,?_⟩
   refine rwl Lb (rwl hx ?_);simp [e]
 ·refine aq hI ?_;clear hI;intro e10r0_0 e10r0_1
  subst e10r0_0
  subst e10r0_1
  refine rwl K9 ?_;exact h
theorem lZ{i j:Nat}{b:eM}{x y:ae}{P:Flow->aL->Mem->Prop}(h:bJ C G b P Y (ay (ay loc i x) j y) m):bF C G (.two i j) b Y (.tup [x,y]) P loc m:=KF _ ⟨KF x ⟨y,rfl,rfl⟩,h⟩
theorem Cs{v:ae}{is:List Int}(e:lst m v=some (is.map .int))(hne:is≠ [])(hl:is.length<br)(h:∀M:Int,M∈is->(∀a∈is,M<=a)->Q (.int M) m):gj .minL v Q m:=KF is ⟨e,hne,hl,h⟩
theorem xn(r:List Int):cT r []=0:=rfl
theorem Ok.envied(O:Ok t u k){i j:Nat}(hi:i<t.length)(h:sm t u i j>sm t u i i):u.getD j []≠ []:=fun e=>by
 have h0:sm t u i j=0:=by unfold sm;refine rwl e ?_;rfl
 have h1:0<=sm t u i i:=O.sm0 hi fun x hx=>(O.thing (aB (O.len.symm▸hi)) x hx).2
 exact Fj h h0 h1
noncomputable def zF (t u:List (List Int)) (i j:Nat):Prop:=∃x∈u.getD j [],sm t u i j-(t.getD i []).getD x.toNat 0<=sm t u i i
theorem uR(r:List Int)(a:Int)(is:List Int):cT r (a::is)=r.getD a.toNat 0+cT r is:=by unfold cT;exact rwl LG (rwl Mk rfl)
noncomputable def jS (t u:List (List Int)):Prop:=∀p∈aC t u,zF t u p.1 p.2
theorem Ok.row0(O:Ok t u k):∃r t',t=r::t'/\r.length=k:=by
 refine cG (lY O.tab:) fun r t' e _=>?_
 exact⟨r,t',e,O.row r (by refine rwl e ?_;exact .head _)⟩
theorem g9(O:Ok t u k):((aC t u).map fp).length<br:=by
 have h1:=jt (t:=t) (u:=u) t.length
 have h4:t.length*t.length<=8*8:=Nat.mul_le_mul O.t8 O.t8
 refine rwl (Ki ..) ?_
 exact aa (by exact DS h1 h4:(dh t u t.length).length<1000)
theorem d7{α:Type}{l:List α}{i:Nat}{x:α}{P:α->Prop}(h:∀p∈l.take i,P p)(hx:l[i]? =some x)(h':P x):∀p∈l.take (i+1),P p:=fun p hp=>by
 rw[Lb,hx] at hp
 rcases KM.mp hp with q|q
 ·exact h p q
 ·rcases Kq.mp q with rfl;exact h'
end
section
variable{Q:ae->Mem->Prop}{X:Nat->Mem->Prop}{m:Mem}{n:Nat}{t u:List (List Int)}{k:Nat}{v w:ae}
theorem jI(O:Ok t u k)(hv:bH m v t)(hw:bH m w u){i j:Nat}(hi:i<t.length)(hj:j<t.length){y z:ae}(hy:cJ m y (t.getD i []))(hz:cJ m z (u.getD j []))(h:Q (.int (sm t u i j)) m):CN (n+1) 108 [y,z] Q X m:=
 have hmj:=aB (O.len.symm▸hj)
 Aw O hi hy hz (sl1 (O.sl hmj)) (O.thing hmj) h
theorem eE(O:Ok t u k)(hv:bH m v t)(hw:bH m w u)(h:∀a m',ax m m'->m' a=some (.list ((aC t u).map fp))->Q (.ref a) m'):CN (n+2) 65 [v,w] Q X m:=by
 (refine aw rfl rfl ?_;dsimp only[oq,aK,bh,KU,Kk,Ko,Kr,KG,Nat.reduceAdd,Nat.reduceSub])
 walk_at"ss"
 refine av (aa (by decide)) fun f hf=>?_
 walk_at"ss"
 dsimp only[ay]
 have hv0:=hv.ext (ax.set (o:= .list []) hf)
 refine ba hv0 (aa O.tl) ?_
 refine aV (gI O.t8) ?_
 refine bg (fun i l m'=>∃y3 y4,l= [some v,some w,some (.ref f),y3,y4]/\At m f ((dh t u i).map fp) m') ⟨none,none,rfl,At.start hf⟩ (fun i x l m' hx hI P hP=>?_) fun l m' hI=>?_
 ·refine cG hI ?_;clear hI;intro y3 y4 e12r0_2 A
  subst e12r0_2
  refine aq (cq hx:) fun hi e13r0_1=>?_
  subst e13r0_1
  have hi:i<t.length:=hi
  refine aU ?_
  dsimp only[ay]
  walk_at"ss"
  refine ba (hv.ext A.ext) (aa O.tl) ?_
  refine aV (gI O.t8) ?_
  refine bg (fun j l m'=>∃y4,l= [some v,some w,some (.ref f),some (.int i),y4]/\At m f ((dh t u i++bN t u i j).map fp) m') ⟨y4,rfl,by refine rwl (rfl:bN t u i 0= []) (rwl (Ll ..) ?_);exact A⟩ (fun j x l m2 hx hI P2 hP2=>?_) fun l m2 hI=>?_
  ·refine af hI ?_;clear hI;intro y4 e14r0_1 A2
   subst e14r0_1
   refine aq (cq hx:) fun hj e15r0_1=>?_
   subst e15r0_1
   have hj:j<t.length:=hj
   have hv2:=hv.ext A2.ext
   have hw2:=hw.ext A2.ext
   refine aU ?_
   dsimp only[ay]
   walk_at"ss"
   refine iB O hv2 hi fun y hy=>?_
   walk_at"ss"
   refine eC O hw2 hj fun z hz=>?_
   walk_at"ss"
   refine jI O hv2 hw2 hi hj hy hz ?_
   walk_at"ss"
   refine iB O hv2 hi fun y hy=>?_
   walk_at"ss"
   refine eC O hw2 hi fun z hz=>?_
   walk_at"ss"
   refine jI O hv2 hw2 hi hi hy hz ?_
   walk_at"ss"
   with_reducible refine bt (fun q=>?_) (fun q=>?_)
   ·have q:=of_decide_eq_true q
    walk_at"ss"
    refine iW A2.get ?_
    walk_at"ss"
    refine⟨aa (by decide:2<1000),?_⟩
    refine fK A2.get (mC O i j hi (KN hj)) ?_
    walk_at"ss"
    with_reducible refine au (hP2 _ _ ?_)
    refine⟨trivial,some (.int j),rfl,?_⟩
    refine rwl (eX ..) (rwl (if_pos q ..) (rwb (K7 ..) (rwl (KT (l₂:=[(i,j)]) ..) ?_)))
    exact A2.put
   ·have q:=of_decide_eq_false q
    walk_at"ss"
    with_reducible refine au (hP2 _ _ ?_)
    refine⟨trivial,some (.int j),rfl,?_⟩
    refine rwl (eX ..) (rwl (if_neg q ..) (rwl (Ll ..) ?_))
    exact A2
  ·refine af hI ?_;clear hI;intro y4 e16r0_1 A2
   subst e16r0_1
   walk_at"ss"
   with_reducible refine au (hP _ _ ?_)
   refine⟨trivial,some (.int i),y4,rfl,?_⟩
   refine rwl (iy ..) ?_
   rw[aR] at A2
   exact A2
 ·refine cG hI ?_;clear hI;intro y3 y4 e17r0_2 A
  subst e17r0_2
  walk_at"ss"
  rw[aR] at A
  exact h _ _ A.ext A.get
theorem sz(O:Ok t u k)(hv:bH m v t)(hw:bH m w u)(h:∀b m',ax m m'->(b=true↔jS t u)->Q (.bool b) m'):CN (n+3) 76 [v,w] Q X m:=by
 (refine aw rfl rfl ?_;dsimp only[qG,aK,bh,KU,Kk,Ko,Kr,KG,Nat.reduceAdd,Nat.reduceSub])
 walk_at"ss"
 refine eE O hv hw fun a m2 E2 ha=>?_
 refine ar (bo.seq ⟨a,rfl,ha⟩) (g9 O) ?_
 refine bg (fun i l m'=>∃y2 y3 y4,l= [some v,some w,y2,y3,y4,none]/\ax m2 m'/\∀p∈(aC t u).take i,zF t u p.1 p.2) ⟨none,none,none,rfl,.refl,fun p hp=>by cases hp⟩ (fun i x l m' hx hI P hP=>?_) fun l m' hI=>?_
 ·refine iU hI ?_;clear hI;intro y2 y3 y4 e18r0_3 E hb
  subst e18r0_3
  rw[KH] at hx
  refine af (KD.mp hx:) fun p hp e19r0_2=>?_
  subst e19r0_2
  refine cI (bL.mp (Kp hp):) fun hi hj he=>?_
  refine lZ ?_
  dsimp only[ay]
  walk_at"ss"
  have E3:=E2.trans E
  have hv3:=hv.ext E3
  have hw3:=hw.ext E3
  have hmj:=aB (O.len.symm▸hj)
  refine eC O hw3 hj fun z hz=>?_
  refine ar hz.seq (by refine rwl (Ki ..) ?_;exact aa (sl1 (O.sl hmj))) ?_
  refine gX (g:=fun x=>match x with| .int x=> .int (sm t u p.1 p.2-(t.getD p.1 []).getD x.toNat 0)|_=> .none) rfl (fun x hx P hP=>?_) ?_
  ·refine af (KL.mp hx:) fun x hx' e21r0_2=>?_
   subst e21r0_2
   have hxi:=O.thing hmj x hx'
   walk_at"ss"
   refine iB O hv3 hi fun y hy=>?_
   walk_at"ss"
   refine eC O hw3 hj fun z hz=>?_
   walk_at"ss"
   refine jI O hv3 hw3 hi hj hy hz ?_
   walk_at"ss"
   refine iB O hv3 hi fun y hy=>?_
   walk_at"ss"
   refine cz hy hxi.1 (cu (by refine rwl (O.row _ (aB hi)) ?_;exact hxi.2)) (aa (O.rl (aB hi))) ?_
   walk_at"ss"
   exact hP
  have hmm:KU (fun x=>match x with|ae.int x=>ae.int (sm t u p.1 p.2-(t.getD p.1 []).getD x.toNat 0)|_=>ae.none) ((u.getD p.2 []).map .int)=((u.getD p.2 []).map fun x=>sm t u p.1 p.2-(t.getD p.1 []).getD x.toNat 0).map .int:=by
   refine rwl K0 (rwl K0 ?_);rfl
  refine rwl hmm ?_
  refine av (by refine rwl (Ki ..) (rwl (Ki ..) ?_);exact aa (sl1 (O.sl hmj))) fun c hc=>?_
  have E4:=E.trans (ax.set (o:= .list (((u.getD p.2 []).map fun x=>sm t u p.1 p.2-(t.getD p.1 []).getD x.toNat 0).map .int)) hc)
  have E5:=E2.trans E4
  walk_at"ss"
  dsimp only[ay]
  refine Cs bo.new.lst (fun e=>O.envied hi he (Mr.mp e)) (by refine rwl (Ki ..) ?_;exact aa (sl1 (O.sl hmj))) fun M hM1 hM2=>?_
  walk_at"ss"
  refine iB O (hv.ext E5) hi fun y hy=>?_
  walk_at"ss"
  refine eC O (hw.ext E5) hi fun z hz=>?_
  walk_at"ss"
  refine jI O (hv.ext E5) (hw.ext E5) hi hi hy hz ?_
  walk_at"ss"
  refine af (KL.mp hM1:) fun x hx hxM=>?_
  with_reducible refine bt (fun q=>?_) (fun q=>?_)
  ·have q:=of_decide_eq_true q
   walk_at"ss"
   refine h _ _ E5 ⟨fun e=>Bool.noConfusion e,fun hB=>?_⟩
   refine af (hB p (Kp hp):) fun y hy hy'=>?_
   have:=hM2 _ (List.mem_map_of_mem hy)
   lia
  ·have q:=of_decide_eq_false q
   walk_at"ss"
   with_reducible refine au (hP _ _ ?_)
   refine⟨(bo.stands (k:= .plain) ⟨a,rfl,ha⟩ ⟨a,rfl,E4 a _ ha⟩),some (.int p.1),some (.int p.2),some (.ref c),rfl,E4,d7 hb hp ⟨x,hx,Ij hxM q⟩⟩
 ·refine iU hI ?_;clear hI;intro y2 y3 y4 e24r0_3 E hb
  subst e24r0_3
  walk_at"ss"
  rw[Ki,K9] at hb
  exact h _ _ (E2.trans E) ⟨fun _=>hb,fun _=>rfl⟩
end
section
theorem aQ{m0 m':Mem}(E:ax m0 m'){b:Addr}(h:m' b=none):m0 b=none:=by
 cases e:m0 b with
 |none=>rfl
 |some o=>rw[E b o e] at h;injection h
end
section
variable{Q:ae->Mem->Prop}{X:Nat->Mem->Prop}{m:Mem}{n:Nat}{t:List (List Int)}{k:Nat}{v:ae}
noncomputable def ic (m0 m:Mem) (v:ae) (t:List (List Int)):Prop:=∃(a:Addr) (bs:List Addr),v= .ref a/\m a=some (.list (bs.map .ref))/\bs.Nodup/\bs.length=t.length/\m0 a=none/\(∀b∈bs,m0 b=none/\b≠a)/\∀(j:Nat) b r,bs[j]? =some b->t[j]? =some r->m b=some (.list (r.map .int))
theorem ic.isT{m0:Mem}(h:ic m0 m v t):bH m v t:=by
 refine mU h ?_;clear h;intro a bs e25r0_2 ha _ hl _ _ hr
 subst e25r0_2
 refine⟨bs.map .ref,⟨a,rfl,ha⟩,cn.of_get (by refine rwl (Ki ..) ?_;exact hl) fun j x r h1 h2=>?_⟩
 rw[KH] at h1
 refine af (KD.mp h1:) fun b hb e26r0_2=>?_
 subst e26r0_2
 exact⟨b,rfl,hr j b r hb h2⟩
theorem ic.ext{m0 m':Mem}(h:ic m0 m v t)(E:ax m m'):ic m0 m' v t:=by
 refine mU h ?_;clear h;intro a bs e27r0_2 ha hn hl h0 hb hr
 subst e27r0_2
 exact⟨a,bs,rfl,E a _ ha,hn,hl,h0,hb,fun j b r h1 h2=>E b _ (hr j b r h1 h2)⟩
theorem gY{v:ae}{t:List (List Int)}(hv:bH m v t)(hl:t.length<1000)(hr:∀r∈t,r.length<1000)(hQ:∀v m',ax m m'->ic m m' v t->Q v m'):CN (n+1) 18 [v] Q X m:=by
 (refine aw rfl rfl ?_;dsimp only[sQ,aK,bh,KU,Kk,Ko,Kr,KG,Nat.reduceAdd,Nat.reduceSub])
 walk_at"ss"
 refine af hv ?_;clear hv;intro xs e1 e2
 refine ar e1.seq (by refine rwl e2.length ?_;exact aa hl) ?_
 refine dq (fun k acc m'=>ax m m'/\∃bs:List Addr,acc=bs.map .ref/\bs.length=k/\bs.Nodup/\∀(j:Nat) b,bs[j]? =some b->m b=none/\∀r,t[j]? =some r->m' b=some (.list (r.map .int))) ⟨.refl,[],rfl,rfl,LH,fun j b h=>by injection h⟩ (fun k x acc m' hx hI P hP=>?_) fun acc m' hI=>?_
 ·obtain⟨E,bs,rfl,hbl,hbn,hb⟩:=hI
  refine af (e2.get hx:) fun z hz hxz=>?_
  refine gU ?_
  walk_at"ss"
  refine iD (hxz.ext E).seq (av (by refine rwl (Ki ..) ?_;exact aa (hr z (Kp hz))) fun c hc=>?_)
  have E2:=E.trans (ax.set (o:= .list (z.map .int)) hc)
  have hcm:=aQ E hc
  have hcb:∀(j:Nat) b,bs[j]? =some b->b≠c:=fun j b h=>by
   have hj:j<t.length:=by
    have h1:=(Kn.mp h).1
    have h2:=(Kn.mp hz).1
    exact Fg hbl h1 h2
   exact fo hc ((hb j b h).2 _ (KA hj))
  refine hP _ _ ⟨e1.stands (e1.ext E2),E2,bs++ [c],by refine rwl KT ?_;rfl,by refine rwl Km (rwl hbl ?_);rfl,?_,fun j b h=>?_⟩
  ·rw[KZ]
   refine⟨hbn,KQ.mpr ⟨by simp,LH⟩,fun x hx y hy=>?_⟩
   rcases Kq.mp hy with rfl
   refine aO (LL.mp hx:) fun j hj=>?_
   exact hcb j x hj
  ·by_cases hj:j<bs.length
   ·rw[K8 hj] at h
    exact⟨(hb j b h).1,fun r hr'=>by refine rwl (ak (hcb j b h)) ?_;exact(hb j b h).2 r hr'⟩
   ·rw[Lq (Lg hj)] at h
    have h0:j-bs.length=0:=by
     have:=(Kn.mp h).1
     rw[KY] at this
     exact Bn this
    rw[h0] at h
    cases h
    have hjk:j=k:=HX hbl hj h0
    subst hjk
    refine⟨hcm,fun r hr'=>?_⟩
    rw[hz] at hr'
    cases hr'
    exact ao
 ·obtain⟨E,bs,rfl,hbl,hbn,hb⟩:=hI
  rw[e2.length] at hbl
  refine av (by refine rwl (Ki ..) ?_;exact aa (hbl▸hl)) fun a ha=>?_
  walk_at"ss"
  have hne:∀b∈bs,m b=none/\b≠a:=fun b hb'=>by
   refine aO (LL.mp hb':) fun j hj=>?_
   have hjt:j<t.length:=hbl▸(Kn.mp hj).1
   exact⟨(hb j b hj).1,fo ha ((hb j b hj).2 _ (KA hjt))⟩
  refine hQ _ _ (E.trans (ax.set ha)) ⟨a,bs,rfl,ao,hbn,hbl,aQ E ha,hne,fun j b r h1 h2=>?_⟩
  refine rwl (ak (hne b (Kp h1)).2) ?_
  exact(hb j b h1).2 r h2
end
section
variable{m:Mem}
theorem ax.over{m m':Mem}{a:Addr}{o:cU}(E:ax m m')(h:m a=none):ax m (m'.set a o):=fun b o' e=>by
 refine rwl (ak (fo h e)) ?_;exact E b o' e
theorem ax.less{m m':Mem}{a:Addr}(E:ax m m')(h:m a=none):ax m (m'.del a):=fun b o' e=>by
 refine rwl (cB (fo h e)) ?_;exact E b o' e
end
section
variable{t u:List (List Int)}{k:Nat}
theorem fv(O:Ok t u k):(aC t u).length<100:=by
 have h1:=jt (t:=t) (u:=u) t.length
 have h4:t.length*t.length<=8*8:=Nat.mul_le_mul O.t8 O.t8
 refine(?_:(dh t u t.length).length<100)
 exact FV h1 h4
end
section
variable{n:Nat}
noncomputable def eM.drop:Nat->eM->eM
 |0,s=>s
 |n+1,s=>match s with| .nil=> .nil| .cons _ r=>eM.drop n r
end
noncomputable def rg (ws:List Nat) (i:Nat):Nat:=ws.getD (i%ws.length) 0
structure eB(ws:List Nat)(N:Nat):Prop where
 two:2<=ws.length
 nd:ws.Nodup
 lt:∀x∈ws,x<N
section ring
variable{ws:List Nat}{N:Nat}{t u f:List (List Int)}
theorem fG(W:eB ws N)(i:Nat):ws[i%ws.length]? =some (rg ws i):=by
 have h:i%ws.length<ws.length:=Nt _ (Ks (by decide) W.two)
 unfold rg
 refine rwl (Ku) (rwl (KA h) ?_);rfl
theorem eS(W:eB ws N)(i:Nat):rg ws i∈ws:=Kp (fG W i)
theorem lq(W:eB ws N)(i:Nat):rg ws i<N:=W.lt _ (eS W i)
theorem qM(W:eB ws N){i j:Nat}(h:rg ws i=rg ws j):i%ws.length=j%ws.length:=by
 have h1:i%ws.length<ws.length:=Nt _ (Ks (by decide) W.two)
 exact(Na h1 W.nd).mp ((fG W i).trans (h▸(fG W j).symm))
theorem fV(i j:Nat)(h:i%ws.length=j%ws.length):rg ws i=rg ws j:=by unfold rg;exact rwl h rfl
theorem k6(W:eB ws N){x:Nat}(h:x∈ws):rg ws (ws.idxOf x)=x/\ws.idxOf x<ws.length:=by
 have h1:=Ly h
 have h2:=fG W (ws.idxOf x)
 rw[Lf h1,KA h1] at h2
 exact⟨(Option.some.inj h2).symm.trans (MW h1),h1⟩
theorem yH(W:eB ws N)(c i:Nat):∃j,j<ws.length/\rg ws (c+j)=rg ws i/\(c+j)%ws.length=i%ws.length:=by
 have h2:=W.two
 have hp:0<ws.length:=by walk_at"o"
 have hc:=Nt c hp
 refine⟨(i+(ws.length-c%ws.length))%ws.length,Nt _ hp,?_⟩
 have:(c+(i+(ws.length-c%ws.length))%ws.length)%ws.length=i%ws.length:=by
  refine rwl (Nat.add_mod_mod ..) (rwl (Me ..) (rwb (Me (c) ..) (rwl (by have:=Nat.div_add_mod c ws.length;exact Ip hc this:c+(i+(ws.length-c%ws.length))=(i+(ws.length*(c/ws.length)+ws.length))) ?_)))
  exact rwb (Nat.mul_succ ..) (rwl (Nat.add_mul_mod_self_left ..) rfl)
 exact⟨fV _ _ this,this⟩
theorem vB{f:List (List Int)}{i j:Nat}{s:List Int}(hi:i<f.length):(f.set i s).getD j []=if i=j then s else f.getD j []:=by
 refine rwl (Ku) (rwl (List.getElem?_set) (rwl (Ku) ?_))
 by_cases h:i=j
 ·subst h;refine rwl (if_pos rfl) (rwl (if_pos rfl) (rwl (if_pos hi) ?_));rfl
 ·exact rwl (if_neg h) (rwl (if_neg h) rfl)
structure ec(u:List (List Int))(ws:List Nat)(f:List (List Int)):Prop where
 len:f.length=u.length
 on:∀i,f.getD (rg ws i) []=u.getD (rg ws (i+1)) []
 off:∀j,j∉ws->f.getD j []=u.getD j []
structure iC(u:List (List Int))(ws:List Nat)(c k:Nat)(f:List (List Int)):Prop where
 len:f.length=u.length
 on:∀i,i<k->f.getD (rg ws (c+i)) []=u.getD (rg ws (c+i+1)) []
 off:∀j,(∀i,i<k->rg ws (c+i)≠j)->f.getD j []=u.getD j []
theorem iC.start(c:Nat):iC u ws c 0 u:=⟨rfl,fun _ h=>absurd h (L5 _),fun _ _=>rfl⟩
theorem iC.next(W:eB ws u.length){c k:Nat}(T:iC u ws c k f)(hk:k<ws.length):iC u ws c (k+1) (f.set (rg ws (c+k)) (u.getD (rg ws (c+k+1)) [])):=by
 have hlt:rg ws (c+k)<f.length:=by refine rwl T.len ?_;exact lq W _
 refine⟨by refine rwl MC ?_;exact T.len,fun i hi=>?_,fun j hj=>?_⟩
 ·refine rwl (vB hlt) ?_
  by_cases h:rg ws (c+k)=rg ws (c+i)
  ·refine rwl (if_pos h) ?_
   have h1:=qM W h
   rw[fV (c+k+1) (c+i+1)]
   exact rwl (Me ..) (rwl (h1 ..) (rwb (Me ..) rfl))
  ·refine rwl (if_neg h) ?_
   exact T.on i (by rcases NC (K6 hi) with q|rfl;(·exact q);(·exact absurd rfl h))
 ·refine rwl (vB hlt) (rwl (if_neg (hj k (LW k))) ?_)
  exact T.off j fun i hi=>hj i (Nat.lt_succ_of_lt hi)
theorem iC.done(W:eB ws u.length){c:Nat}(T:iC u ws c ws.length f):ec u ws f:=by
 refine⟨T.len,fun i=>?_,fun j hj=>T.off j fun i _ e=>hj (e▸eS W _)⟩
 refine bq (yH W c i:) fun j hj h1 h2=>?_
 refine rwb h1 (rwl (T.on j hj) ?_)
 rw[fV (c+j+1) (i+1)]
 exact rwl (Me ..) (rwl (h2 ..) (rwb (Me ..) rfl))
noncomputable def sg (ws:List Nat) (j:Nat):Nat:=if j∈ws then rg ws (ws.idxOf j+1) else j
theorem ec.get(W:eB ws u.length)(T:ec u ws f)(j:Nat):f.getD j []=u.getD (sg ws j) []:=by
 unfold sg
 by_cases h:j∈ws
 ·exact rwl (if_pos h ..) (rwb (T.on ..) (rwl ((k6 W h).1 ..) rfl))
 ·exact rwl (if_neg h) (rwl (T.off j h) rfl)
theorem ec.unique{f':List (List Int)}(W:eB ws u.length)(T:ec u ws f)(T':ec u ws f'):f=f':=by
 refine Nc fun j=>?_
 by_cases h:j<u.length
 ·exact rwl (eO (T.len.symm▸h) ..) (rwl (eO (T'.len.symm▸h) ..) (rwl (T.get W ..) (rwl (T'.get W ..) rfl)))
 ·rw[Lu (by refine rwl T.len ?_;exact AP h),Lu (by refine rwl T'.len ?_;lia)]
theorem z3(W:eB ws N){j:Nat}(h:j<N):sg ws j<N:=by
 unfold sg;split
 ·exact lq W _
 ·exact h
theorem B3(W:eB ws N){i j:Nat}(h:sg ws i=sg ws j):i=j:=by
 unfold sg at h
 by_cases hi:i∈ws
 ·rw[if_pos hi] at h
  by_cases hj:j∈ws
  ·rw[if_pos hj] at h
   have h1:=qM W h
   refine aq (k6 W hi:) fun e1 l1=>?_
   refine aq (k6 W hj:) fun e2 l2=>?_
   refine rwb e1 (rwb e2 ?_)
   refine congrArg (rg ws) ?_
   have h2:=W.two
   generalize ws.idxOf i=a at h1 l1
   generalize ws.idxOf j=b at h1 l2
   by_cases qa:a+1<ws.length
   ·by_cases qb:b+1<ws.length
    ·rw[Lf qa,Lf qb] at h1;exact G6 h1
    ·rw[Lf qa,show b+1=ws.length by exact IS l2 qb,NB] at h1;exact G0 h1
   ·by_cases qb:b+1<ws.length
    ·rw[Lf qb,show a+1=ws.length by lia,NB] at h1;exact GX h1
    ·exact DX l1 l2 qa qb
  ·rw[if_neg hj] at h
   exact absurd (h▸eS W _) hj
 ·rw[if_neg hi] at h
  by_cases hj:j∈ws
  ·rw[if_pos hj] at h
   exact absurd (h▸eS W _) hi
  ·rw[if_neg hj] at h
   exact h
theorem Ah(W:eB ws N){j:Nat}(h:j<N):∃i,i<N/\sg ws i=j:=by
 by_cases hj:j∈ws
 ·refine aq (k6 W hj:) fun e1 l1=>?_
  have h2:=W.two
  have hm:=eS W (ws.idxOf j+(ws.length-1))
  refine⟨_,W.lt _ hm,?_⟩
  unfold sg
  refine rwl (if_pos hm) ?_
  have h3:=qM W (k6 W hm).1
  conv=>rhs;rw[<-e1]
  apply fV
  exact rwl (Me ..) (rwl (h3 ..) (rwb (Me ..) (rwl (by exact Iw h2:ws.idxOf j+(ws.length-1)+1=ws.idxOf j+ws.length) (rwl (L1 ..) rfl))))
 ·exact⟨j,h,by unfold sg;exact rwl (if_neg hj) rfl⟩
theorem v7(W:eB ws N):((Kt N).map (sg ws)).Perm (Kt N):=by
 refine(MJ ?_ Mw).mpr fun x=>?_
 ·rw[List.nodup_iff_pairwise_ne,NI]
  exact List.nodup_range.imp fun h e=>h (B3 W e)
 ·rw[KL,KS]
  constructor
  ·rintro ⟨i,hi,rfl⟩;exact z3 W (KS.mp hi)
  ·intro h;obtain⟨i,hi,e⟩:=Ah W h;exact⟨i,KS.mpr hi,e⟩
noncomputable def r7 (t u:List (List Int)) (ws:List Nat):Prop:=∀i,sm t u (rg ws i) (rg ws (i+1))>sm t u (rg ws i) (rg ws i)
theorem r7.own(W:eB ws N)(E:r7 t u ws)(i:Nat):(i∈ws->sm t u i (sg ws i)>sm t u i i)/\(i∉ws->sg ws i=i):=by
 unfold sg
 refine⟨fun h=>?_,fun h=>if_neg h⟩
 refine rwl (if_pos h) ?_
 have:=E (ws.idxOf i)
 rw[(k6 W h).1] at this
 exact this
theorem ec.sm(W:eB ws u.length)(T:ec u ws f)(i j:Nat):Internal.sm t f i j=Internal.sm t u i (sg ws j):=by unfold Internal.sm;exact rwl (T.get W ..) rfl
theorem iF(i N:Nat):(bN t u i N).length=(Kt N).countP fun j=>decide (sm t u i j>sm t u i i):=by
 unfold bN
 exact rwl (Ki ..) (rwl (List.countP_eq_length_filter ..) rfl)
theorem CZ{α:Type}{p q:α->Bool}{l:List α}(h:∀x∈l,p x=true->q x=true){x:α}(hx:x∈l)(hp:p x=false)(hq:q x=true):l.countP p<l.countP q:=by
 induction l with
 |nil=>cases hx
 |cons a l ih=>
  refine rwl List.countP_cons (rwl List.countP_cons ?_)
  have h1:=List.countP_mono_left fun y hy=>h y (.tail _ hy)
  have h2:=h a (.head _)
  rcases Kw.mp hx with rfl|hx
  ·rw[if_neg (by refine rwl hp ?_;exact Bool.noConfusion),if_pos hq];with_reducible solve_by_elim (maxDepth:=3) only[*,Kj,Ks,Kl,KN,K6,Ls]
  ·have h3:=ih (fun y hy=>h y (.tail _ hy)) hx
   by_cases qa:p a=true
   ·refine rwl (if_pos qa) (rwl (if_pos (h2 qa)) ?_);with_reducible solve_by_elim (maxDepth:=3) only[*,Kj,Ks,Kl,KN,K6,Ls]
   ·refine rwl (if_neg qa) ?_;exact G7 h3
theorem Cf{g g':Nat->Nat}{l:List Nat}(h:∀x∈l,g x<=g' x){x:Nat}(hx:x∈l)(hlt:g x<g' x):(l.map g).sum<(l.map g').sum:=by
 have le:∀{l:List Nat},(∀x∈l,g x<=g' x)->(l.map g).sum<=(l.map g').sum:=fun{l}=>by
  induction l with
  |nil=>intro _;exact Lk _
  |cons a l ih=>
   intro h
   refine rwl LG (rwl LG (rwl Mk (rwl Mk ?_)))
   exact LA (h a (.head _)) (ih fun y hy=>h y (.tail _ hy))
 induction l with
 |nil=>cases hx
 |cons a l ih=>
  refine rwl LG (rwl LG (rwl Mk (rwl Mk ?_)))
  rcases Kw.mp hx with rfl|hx
  ·exact Nat.add_lt_add_of_lt_of_le hlt (le fun y hy=>h y (.tail _ hy))
  ·exact Nat.add_lt_add_of_le_of_lt (h a (.head _)) (ih (fun y hy=>h y (.tail _ hy)) hx)
theorem ec.fewer(W:eB ws u.length)(hl:u.length=t.length)(T:ec u ws f)(E:r7 t u ws):(aC t f).length<(aC t u).length:=by
 unfold aC dh
 refine rwl List.length_flatMap (rwl List.length_flatMap ?_)
 have key:∀i,(bN t f i t.length).length=(Kt t.length).countP fun j=>decide (Internal.sm t u i j>Internal.sm t u i (sg ws i)):=fun i=>by
  refine rwl (iF ..) ?_
  have hp:((Kt t.length).map (sg ws)).Perm (Kt t.length):=hl▸v7 W
  conv=>rhs;rw[<-hp.countP_eq,List.countP_map]
  refine List.countP_congr fun j _=>?_
  refine rwl (T.sm W ..) (rwl (T.sm W ..) ?_);rfl
 have mono:∀i,(bN t f i t.length).length<=(bN t u i t.length).length:=fun i=>by
  refine rwl (key ..) (rwl (iF ..) ?_)
  refine List.countP_mono_left fun j _ h=>?_
  have h:=of_decide_eq_true h
  refine decide_eq_true (LC ?_ h)
  have:=E.own W i
  by_cases hi:i∈ws
  ·exact NF (this.1 hi)
  ·refine rwl (this.2 hi) ?_;exact MQ _
 have h0:=lq W 0
 refine Cf (fun i _=>mono i) (x:=rg ws 0) (KS.mpr (hl▸h0)) ?_
 refine rwl (key ..) (rwl (iF ..) ?_)
 have hs:=(E.own W (rg ws 0)).1 (eS W 0)
 refine CZ (x:=sg ws (rg ws 0)) (fun j _ h=>?_) (KS.mpr (hl▸z3 W h0)) (decide_eq_false (MH _)) (decide_eq_true hs)
 exact decide_eq_true (LO hs (of_decide_eq_true h))
end ring
noncomputable def aH (ps:List (Nat×Nat)) (h:Nat) (left:List Nat):List Nat:=(ps.filter fun p=>decide (p.2=h)&&decide (p.1∈left)).map (·.1)
structure Rp(ps:List (Nat×Nat))(N:Nat):Prop where
 lt:∀p∈ps,p.1<N/\p.2<N
 irr:∀p∈ps,p.1≠p.2
structure Line(ps:List (Nat×Nat))(N:Nat)(fs:List Nat):Prop where
 perm:fs.Perm (Kt N)
 pre:∀p∈ps,fs.idxOf p.1<fs.idxOf p.2
noncomputable def pf (ps:List (Nat×Nat)) (left:List Nat):Prop:=left≠ []/\∀x∈left,∃y∈left,(y,x)∈ps
noncomputable def Around (ps:List (Nat×Nat)) (ws:List Nat):Prop:=∀i,(rg ws i,rg ws (i+1))∈ps
section part
variable{ps:List (Nat×Nat)}{N:Nat}{fs left cs ws:List Nat}{h:Nat}
theorem cc{x:Nat}:x∈aH ps h left↔(x,h)∈ps/\x∈left:=by
 unfold aH
 simp only[KL,K5,KW,decide_eq_true_eq]
 constructor
 ·rintro ⟨⟨a,b⟩,⟨h1,rfl,h2⟩,rfl⟩;exact⟨h1,h2⟩
 ·rintro ⟨h1,h2⟩;exact⟨(x,h),⟨h1,rfl,h2⟩,rfl⟩
theorem An(L:Line ps N fs)(K:pf ps left):False:=by
 refine aq K ?_;clear K;intro hne hK
 have go:∀n x,x∈left->fs.idxOf x<n->False:=fun n=>by
  induction n with
  |zero=>intro x _ h;exact L5 _ h
  |succ n ih=>
   intro x hx h
   refine af (hK x hx:) fun y hy hp=>?_
   have h1:fs.idxOf y<fs.idxOf x:=L.pre _ hp
   exact ih y hy (EB h h1)
 cases left with
 |nil=>exact hne rfl
 |cons x r=>exact go _ x (.head _) (LW _)
theorem Around.core(W:eB ws N)(A:Around ps ws):pf ps ws:=by
 refine⟨(fun e=>by have:=W.two;rw[e] at this;exact absurd this (by decide)),fun x hx=>?_⟩
 refine aq (k6 W hx:) fun e hl=>?_
 refine bq (yH W (ws.idxOf x+(ws.length-1)) (ws.idxOf x+(ws.length-1)):) fun j _ hj _=>?_
 have h2:=W.two
 have h:=A (ws.idxOf x+(ws.length-1))
 rw[show ws.idxOf x+(ws.length-1)+1=ws.idxOf x+ws.length by exact Iw h2,fV (ws.idxOf x+ws.length) (ws.idxOf x) (L1 ..),e] at h
 exact⟨_,eS W _,h⟩
structure fD(ps:List (Nat×Nat))(N:Nat)(fs left:List Nat):Prop where
 perm:(fs++left).Perm (Kt N)
 pre:∀p∈ps,p.2∈fs->fs.idxOf p.1<fs.idxOf p.2
theorem fD.start:fD ps N [] (Kt N):=⟨List.Perm.refl _,fun _ _ h=>by cases h⟩
theorem fD.nd(P:fD ps N fs left):(fs++left).Nodup:=P.perm.nodup_iff.mpr Mw
theorem fD.next(R:Rp ps N)(P:fD ps N fs left)(hh:h∈left)(he:aH ps h left= []):fD ps N (fs++ [h]) (left.filter fun x=>decide (x≠h)):=by
 have hnd:=P.nd
 rw[KZ] at hnd
 have hhf:h∉fs:=fun q=>hnd.2.2 h q h hh rfl
 refine⟨?_,fun p hp h2=>?_⟩
 ·refine List.Perm.trans ?_ P.perm
  refine rwl (K7 ..) ?_
  refine List.Perm.append_left _ ?_
  refine(MJ ?_ hnd.2.1).mpr fun x=>?_
  ·rw[List.singleton_append,KQ]
   exact⟨fun q=>by simpa using (K5.mp q).2,hnd.2.1.filter _⟩
  ·rw[List.singleton_append,Kw,K5,decide_eq_true_eq]
   constructor
   ·rintro (rfl|q)
    ·exact hh
    ·exact q.1
   ·intro q
    by_cases e:x=h
    ·exact .inl e
    ·exact .inr ⟨q,e⟩
 ·rcases KM.mp h2 with q|q
  ·have h1:=P.pre p hp q
   have h3:=Ly q
   have hm:p.1∈fs:=List.idxOf_lt_length_iff.mp (LD h1 h3)
   refine rwl ME (rwl (if_pos hm) (rwl ME (rwl (if_pos q) ?_)))
   exact h1
  ·have e:p.2=h:=Kq.mp q
   have hm:p.1∈fs:=by
    rcases KM.mp (P.perm.mem_iff.mpr (KS.mpr (R.lt p hp).1)) with q|q
    ·exact q
    ·have:p.1∈aH ps h left:=cc.mpr ⟨e▸hp,q⟩
     rw[he] at this
     cases this
   refine rwl ME (rwl (if_pos hm) (rwl e (rwl ME (rwl (if_neg hhf) ?_))))
   exact Ks (Ly hm) (Md _ _)
theorem fD.line(R:Rp ps N)(P:fD ps N fs []):Line ps N fs:=by
 have hp:=P.perm
 rw[Ll] at hp
 exact⟨hp,fun p q=>P.pre p q (hp.mem_iff.mpr (KS.mpr (R.lt p q).2))⟩
theorem uN{l:List Nat}{x:Nat}(hn:l.Nodup)(hx:x∈l):(l.filter fun y=>decide (y≠x)).length+1=l.length:=by
 induction l with
 |nil=>cases hx
 |cons a l ih=>
  rw[KQ] at hn
  refine rwl List.filter_cons ?_
  by_cases e:a=x
  ·subst e
   refine rwl (if_neg (by simp)) (rwl (Nz.mpr fun y hy=>by simp;rintro rfl;exact hn.1 hy) ?_)
   rfl
  ·refine rwl (if_pos (by simpa using e)) ?_
   exact congrArg (·+1) (ih hn.2 ((Kw.mp hx).resolve_left fun q=>e q.symm))
structure mj(ps:List (Nat×Nat))(left cs:List Nat)(h:Nat):Prop where
 nd:cs.Nodup
 sub:∀x∈cs,x∈left
 ne:cs≠ []
 link:∀i x y,cs[i]? =some x->cs[i+1]? =some y->(y,x)∈ps
 hin:h∈left
 last:∀x,cs[cs.length-1]? =some x->(h,x)∈ps
theorem mj.next(K:mj ps left cs h)(hh:h∉cs){g:Nat}(hg:g∈aH ps h left):mj ps left (cs++ [h]) g:=by
 have hpos:0<cs.length:=L2.mpr K.ne
 refine aq (cc.mp hg:) fun g1 g2=>?_
 refine⟨?_,fun x hx=>?_,(fun e=>by have:=congrArg KG e;rw[Km] at this;exact Nat.noConfusion this),fun i x y h1 h2=>?_,g2,fun x hx=>?_⟩
 ·rw[KZ]
  refine⟨K.nd,KQ.mpr ⟨by simp,LH⟩,fun x hx y hy e=>?_⟩
  rw[Kq.mp hy] at e
  exact hh (e▸hx)
 ·rcases KM.mp hx with q|q
  ·exact K.sub x q
  ·refine rwl (Kq.mp q) ?_;exact K.hin
 ·have hl:i+1<(cs++ [h]).length:=(Kn.mp h2).1
  rw[Km,KY] at hl
  rw[K8 (by with_reducible solve_by_elim (maxDepth:=3) only[*,Kj,Ks,Kl,KN,K6,Ls])] at h1
  by_cases q:i+1<cs.length
  ·rw[K8 q] at h2
   exact K.link i x y h1 h2
  ·have e:i+1=cs.length:=EX hl q
   rw[e,Lq (Lk _),Mq] at h2
   (injection h2 with h2;cases h2)
   exact K.last x (by refine rwl (by exact JZ e:cs.length-1=i) ?_;exact h1)
 ·rw[Km,KY,Nat.add_sub_cancel,Lq (Lk _),Mq] at hx
  (injection hx with hx;cases hx)
  exact g1
theorem cA{l:List Nat}:∀{l':List Nat},l.Nodup->(∀x∈l,x∈l')->l.length<=l'.length:=by
 induction l with
 |nil=>intro l' _ _;exact Lp _
 |cons a l ih=>
  intro l' hn hs
  rw[KQ] at hn
  have h1:=ih (l':=l'.erase a) hn.2 fun x hx=>(Nn (fun e:x=a=>hn.1 (e▸hx))).mpr (hs x (.tail _ hx))
  have h2:=MT (hs a (.head _))
  have h3:=Mx (hs a (.head _))
  refine rwl Ni ?_
  exact JQ h1 h2 h3
theorem mj.ring(R:Rp ps N)(hl:∀x∈left,x<N)(K:mj ps left cs h)(hh:h∈cs):eB (cs.drop (cs.idxOf h)).reverse N/\Around ps (cs.drop (cs.idxOf h)).reverse:=by
 have hpos:0<cs.length:=L2.mpr K.ne
 have ha:=Ly hh
 have hga:cs[cs.idxOf h]? =some h:=rwl (KA ha) (rwl (MW ha) rfl)
 generalize cs.idxOf h=a at ha hga
 have hlast:∃z,cs[cs.length-1]? =some z:=⟨_,KA (I6 ha)⟩
 refine aO hlast ?_;clear hlast;intro z hz
 have hzp:=K.last z hz
 have hane:a≠cs.length-1:=fun e=>by
  rw[e,hz] at hga
  exact R.irr _ hzp (Option.some.inj hga).symm
 have hL:(cs.drop a).reverse.length=cs.length-a:=rwl Nx (rwl Li rfl)
 have get:∀i,i<cs.length-a->(cs.drop a).reverse[i]? =cs[cs.length-1-i]? :=fun i hi=>by
  rw[List.getElem?_reverse (by refine rwl Li ?_;exact hi),ND,Li]
  congr 1;exact J5 hi
 have W:eB (cs.drop a).reverse N:=by
  refine⟨by refine rwl hL ?_;exact I0 ha hane,?_,fun x hx=>?_⟩
  ·exact(List.reverse_perm _).nodup_iff.mpr (K.nd.sublist (List.drop_sublist a cs))
  ·exact hl x (K.sub x (ML (List.mem_reverse.mp hx)))
 refine⟨W,fun i=>?_⟩
 have g1:=fG W i
 have g2:=fG W (i+1)
 rw[hL] at g1 g2
 have hm:=Nt i (by exact IV ha:0<cs.length-a)
 by_cases q:i%(cs.length-a)+1<cs.length-a
 ·have e:(i+1)%(cs.length-a)=i%(cs.length-a)+1:=by
   exact rwl (Me ..) (rwl (Lf (by exact GZ q:1<cs.length-a) ..) (rwl (Lf q ..) rfl))
  rw[e,get _ q] at g2
  rw[get _ hm] at g1
  refine K.link _ _ _ g2 ?_
  refine rwl (by exact J9 q:cs.length-1-(i%(cs.length-a)+1)+1=cs.length-1-i%(cs.length-a)) ?_
  exact g1
 ·have e1:i%(cs.length-a)=cs.length-a-1:=IR hm q
  have e:(i+1)%(cs.length-a)=0:=by
   exact rwl (Me ..) (rwl (e1 ..) (rwl (Lf (by exact HT hane hm:1<cs.length-a) ..) (rwl (by exact Ic hm:cs.length-a-1+1=cs.length-a) (rwl (NB ..) rfl))))
  rw[e,get _ (Ga hm)] at g2
  rw[get _ hm,e1,show cs.length-1-(cs.length-a-1)=a by exact Iv hm,hga] at g1
  rw[Nat.sub_zero] at g2
  refine rwb (Option.some.inj g1) ?_
  exact K.last _ g2
end part
section
variable{t u:List (List Int)}{ws:List Nat}
theorem fq:Rp (aC t u) t.length:=⟨fun p hp=>⟨(bL.mp hp).1,(bL.mp hp).2.1⟩,fun p hp e=>by have:=(bL.mp hp).2.2;rw[e] at this;exact absurd this (MH _)⟩
theorem Around.envied(A:Around (aC t u) ws):r7 t u ws:=fun i=>(bL.mp (A i)).2.2
end
section
variable{C:bb}{G:String->Option ae}{Q:ae->Mem->Prop}{X:Nat->Mem->Prop}{m:Mem}{t:List (List Int)}{k N:Nat}{v w:ae}{loc:aL}{ws:List Nat}
theorem dN{elt:Ex}{i:Nat}{xs:List ae}{ok:Mem->Prop}(g:Nat->List Int)(hl:xs.length<1000)(hok:∀m',ax m m'->ok m')
  (step:∀j x m',xs[j]? =some x->ax m m'->∀P:ae->Mem->Prop,(∀c m'',ax m' m''->m'' c=none->P (.ref c) (m''.set c (.list ((g j).map .int))))->bk C G X elt (ay loc i x) P m')
  (h:∀v m',ax m m'->ic m m' v ((Kt xs.length).map g)->Q v m'):compLoop (cF C G X elt (.one i) .nil loc) ok xs [] (fun ys m'=>bf m' ys Q) m:=by
 refine dq (fun k acc m'=>ax m m'/\∃bs:List Addr,acc=bs.map .ref/\bs.length=k/\bs.Nodup/\∀(j:Nat) b,bs[j]? =some b->m b=none/\m' b=some (.list ((g j).map .int))) ⟨.refl,[],rfl,rfl,LH,fun j b h=>by injection h⟩ (fun k x acc m' hx hI P hP=>?_) fun acc m' hI=>?_
 ·obtain⟨E,bs,rfl,hbl,hbn,hb⟩:=hI
  refine gU (step k x m' hx E _ fun c m2 E2 hc=>?_)
  have E3:=E2.trans (ax.set (o:= .list ((g k).map .int)) hc)
  refine hP _ _ ⟨hok _ (E.trans E3),E.trans E3,bs++ [c],by refine rwl KT ?_;rfl,by refine rwl Km (rwl hbl ?_);rfl,?_,fun j b h=>?_⟩
  ·rw[KZ]
   refine⟨hbn,KQ.mpr ⟨by simp,LH⟩,fun x hx y hy=>?_⟩
   rcases Kq.mp hy with rfl
   refine aO (LL.mp hx:) fun j hj=>?_
   exact fo hc (E2 _ _ (hb j x hj).2)
  ·by_cases hj:j<bs.length
   ·rw[K8 hj] at h
    exact⟨(hb j b h).1,E3 _ _ (hb j b h).2⟩
   ·rw[Lq (Lg hj)] at h
    have h0:j-bs.length=0:=by
     have:=(Kn.mp h).1
     rw[KY] at this
     exact Bn this
    rw[h0] at h
    cases h
    have hjk:j=k:=HX hbl hj h0
    subst hjk
    exact⟨aQ (E.trans E2) hc,ao⟩
 ·obtain⟨E,bs,rfl,hbl,hbn,hb⟩:=hI
  refine av (by refine rwl (Ki ..) ?_;exact aa (hbl▸hl)) fun a ha=>?_
  have hne:∀b∈bs,m b=none/\b≠a:=fun b hb'=>by
   refine aO (LL.mp hb':) fun j hj=>?_
   exact⟨(hb j b hj).1,fo ha (hb j b hj).2⟩
  refine h _ _ (E.trans (ax.set ha)) ⟨a,bs,rfl,ao,hbn,by refine rwl (Ki ..) (rwl (Kz ..) ?_);exact hbl,aQ E ha,hne,fun j b r h1 h2=>?_⟩
  refine rwl (ak (hne b (Kp h1)).2) (rwl ((hb j b h1).2) ?_)
  rw[KH] at h2
  refine af (KD.mp h2:) fun j' hj' e4r0_2=>?_
  subst e4r0_2
  obtain⟨_,rfl⟩:=Kn.mp hj'
  exact rwl (MV ..) rfl
theorem hU(t:List (List Int)):(Kt t.length).map (fun j=>t.getD j [])=t:=by
 refine Nc fun j=>?_
 refine rwl (KH) ?_
 by_cases h:j<t.length
 ·refine rwl (Ms h) (rwl (eO h) ?_);rfl
 ·rw[Lu (by refine rwl Kz ?_;exact AP h),Lu (by lia)];rfl
theorem rM{i:Nat}(hi:i<loc.length)(hv:bH m v t)(hl:t.length<1000)(hr:∀r∈t,r.length<1000)(hQ:∀v m',ax m m'->ic m m' v t->Q v m'):
  dX .plain v (fun xs=>compLoop (cF C G X (.b1 .list (.nm i)) (.one i) .nil loc) (stands .plain v m) xs [] (fun ys m'=>bf m' ys Q) m) m:=by
 refine af hv ?_;clear hv;intro xs e1 e2
 refine ar e1.seq (by refine rwl e2.length ?_;exact aa hl) ?_
 refine dN (fun j=>t.getD j []) (by refine rwl e2.length ?_;exact hl) (fun m' E=>e1.stands (e1.ext E)) (fun j x m' hx E P hP=>?_) (by refine rwl (e2.length ..) (rwl (hU ..) ?_);exact hQ)
 refine af (e2.get hx:) fun z hz hxz=>?_
 have hzm:=Kp hz
 refine Fy (j8 (fX hi) (iD (hxz.ext E).seq (av (by refine rwl (Ki ..) ?_;exact aa (hr z hzm)) fun c hc=>?_)))
 have:t.getD j []=z:=by refine rwl (Ku) (rwl hz ?_);rfl
 exact this▸hP c m' .refl hc
theorem pI{α:Type}{x:α}:∀{l:List α} {i:Nat},l.Nodup->x∉l->(l.set i x).Nodup
 | [],_,h,_=>by simpa using h
 |a::l,0,h,hx=>by
  rw[List.set_cons_zero,KQ]
  exact⟨fun q=>hx (.tail _ q),(KQ.mp h).2⟩
 |a::l,i+1,h,hx=>by
  rw[List.set_cons_succ,KQ]
  refine⟨fun q=>?_,pI (KQ.mp h).2 fun q=>hx (.tail _ q)⟩
  rcases Mn q with q|rfl
  ·exact(KQ.mp h).1 q
  ·exact hx (.head _)
theorem ic.relist{m0:Mem}(h:ic m0 m v t)(E0:ax m0 m){i:Nat}(hi:i<t.length)(hl:t.length<1000){e:Addr}(he:m e=none){s:List Int}{K:Mem->Prop}(hK:∀m',ax m0 m'->ic m0 m' v (t.set i s)->(∀b o,v≠ .ref b->m b=some o->m' b=some o)->K m'):AQ v (.int (i:Nat)) (.ref e) K (m.set e (.list (s.map .int))):=by
 refine mU h ?_;clear h;intro a bs e8r0_2 ha hn hbl h0 hb hr
 subst e8r0_2
 have hea:a≠e:=fo he ha
 have hbe:∀(j:Nat) b,bs[j]? =some b->b≠e:=fun j b h=>by
  have hj:j<t.length:=hbl▸(Kn.mp h).1
  exact fo he (hr j b _ h (eO hj))
 have he0:m0 e=none:=aQ E0 he
 refine BA (xs:=bs.map .ref) (by refine rwl (ak hea) ?_;exact ha) (by refine rwl (Ki ..) (rwl (hbl ..) ?_);exact aa hl) (nn i) (by refine rwl (Ki ..) (rwl (hbl ..) ?_);exact hi) ?_
 refine rwl (List.map_set.symm:(bs.map ae.ref).set (i:Int).toNat (.ref e)=(bs.set i e).map .ref) ?_
 refine hK _ ((E0.over he0).over h0) ⟨a,bs.set i e,rfl,ao,pI hn (fun q=>?_),by refine rwl MC (rwl MC ?_);exact hbl,h0,fun b hb'=>?_,fun j b r h1 h2=>?_⟩ fun b o hb ho=>by rw[ak (fun q=>hb (by exact rwl q rfl)),ak (fo he ho)];exact ho
 ·refine aO (LL.mp q:) fun j hj=>?_
  exact hbe j e hj rfl
 ·rcases Mn hb' with q|rfl
  ·exact hb b q
  ·exact⟨he0,Ne.symm hea⟩
 ·have hib:i<bs.length:=hbl.symm▸hi
  by_cases hj:j=i
  ·subst hj
   rw[M7 hib] at h1;cases h1
   rw[M7 hi] at h2;cases h2
   exact rwl (ak (Ne.symm hea)) (rwl ao rfl)
  ·rw[List.getElem?_set_ne (Ne.symm hj)] at h1 h2
   refine rwl (ak (hb b (Kp h1)).2) (rwl (ak (hbe j b h1)) ?_)
   exact hr j b r h1 h2
noncomputable def zs (ws:List Nat):List Int:=ws.map fun(i:Nat)=>(i:Int)
theorem aT:(zs ws).length=ws.length:=Ki _
theorem yN(a b:Nat):(a:Int).fmod (b:Int)=((a%b:Nat):Int):=by refine rwl (Int.fmod_eq_emod_of_nonneg _ (Lv b)) ?_;rfl
theorem eB.len(W:eB ws N):ws.length<=N:=by
 have h:∀{l l':List Nat},l.Nodup->(∀x∈l,x∈l')->l.length<=l'.length:=fun{l}=>by
  induction l with
  |nil=>intro l' _ _;exact Lp _
  |cons a l ih=>
   intro l' hn hs
   rw[KQ] at hn
   have h1:=ih (l':=l'.erase a) hn.2 fun x hx=>(Nn (fun e:x=a=>hn.1 (e▸hx))).mpr (hs x (.tail _ hx))
   have h2:=MT (hs a (.head _))
   have h3:=Mx (hs a (.head _))
   refine rwl Ni ?_
   exact JQ h1 h2 h3
 have:=h W.nd (l':=Kt N) fun x hx=>KS.mpr (W.lt x hx)
 rw[Kz] at this
 exact this
theorem uA(W:eB ws N)(h8:N<=8):(zs ws).length<br:=by refine rwl aT ?_;exact aa (by have:=W.len;exact zf h8 this)
theorem vY(W:eB ws N)(h8:N<=8)(hw:cJ m w (zs ws))(i:Nat)(h:Q (.int (rg ws i:Nat)) m):gm w (.int ((i%ws.length:Nat):Int)) Q m:=by
 refine cz hw (nn _) (x:=((rg ws i:Nat):Int)) ?_ (uA W h8) h
 refine(?_:(zs ws)[i%ws.length]? =_)
 unfold zs
 refine rwl (KH) (rwl (fG W i) ?_);rfl
theorem ui(W:eB ws N)(h8:N<=8)(hw:cJ m w (zs ws)){i:Nat}(hi:i<ws.length)(h:Q (.int (rg ws i:Nat)) m):gm w (.int (i:Nat)) Q m:=by
 have:=vY W h8 hw i h
 rw[Lf hi] at this
 exact this
theorem zb(W:eB ws N)(h8:N<=8)(hw:cJ m w (zs ws)){i:Nat}(hi:i<ws.length)(h:Q (.int (rg ws (i+(ws.length-1)):Nat)) m):gm w (.int ((i:Int)-1)) Q m:=by
 have h2:=W.two
 cases i with
 |zero=>
  refine dG hw.seq (j:=ws.length-1) ?_ (x:= .int (rg ws (ws.length-1):Nat)) ?_ (by refine rwl (Ki ..) ?_;exact uA W h8) ?_
  ·refine rwl (Ki ..) (rwl (aT ..) ?_)
   unfold eh
   refine rwl (if_neg (by decide)) (rwl (if_pos (by refine(?_:1<=ws.length);walk_at"o")) ?_);rfl
  ·have:=fG W (ws.length-1)
   rw[Lf (HO hi)] at this
   unfold zs
   refine rwl (KH) (rwl (KH) (rwl this ?_));rfl
  ·rw[MS] at h
   exact h
 |succ i=>
  refine rwl (by exact Bs:((i+1:Nat):Int)-1=(i:Int)) ?_
  refine ui W h8 hw (by walk_at"o") ?_
  rw[show i+1+(ws.length-1)=i+ws.length by exact Jm hi,fV (i+ws.length) i (L1 ..)] at h
  exact h
theorem rS(hw:cJ m w (zs ws))(W:eB ws N)(h8:N<=8)(h:Q (.int (ws.length:Nat)) m):gj .len w Q m:=by
 refine gb hw (uA W h8) ?_
 refine rwl aT ?_;exact h
end
section
variable{t u f:List (List Int)}{k N:Nat}{ws:List Nat}
theorem ec.perm(W:eB ws u.length)(T:ec u ws f):f.Perm u:=by
 have h:=(v7 W).map fun j=>u.getD j []
 rw[hU,K0] at h
 have e:f=(Kt u.length).map ((fun j=>u.getD j [])∘sg ws):=by
  conv=>lhs;rw[<-hU f,T.len]
  exact List.map_congr_left fun j _=>T.get W j
 refine rwl e ?_;exact h
theorem ec.ok(O:Ok t u k)(W:eB ws u.length)(T:ec u ws f):Ok t f k where
 tab:=O.tab
 row:=O.row
 k40:=O.k40
 len:=T.len.trans O.len
 fit:=fun s hs=>O.fit s ((T.perm W).mem_iff.mp hs)
 sh:=KI.mpr fun s hs=>O.share ((T.perm W).mem_iff.mp hs)
 nd:=((T.perm W).flatten).nodup_iff.mpr O.nd
theorem nw(W:eB ws N){s:Nat}(hs:s<ws.length)(i:Nat):rg (ws.drop s++ws.take s) i=rg ws (s+i):=by
 have hl:(ws.drop s++ws.take s).length=ws.length:=by refine rwl Km (rwl Li (rwl Le ?_));exact IK
 unfold rg
 refine rwl hl ?_
 have hp:=Nt i (by exact FG hs:0<ws.length)
 have h1:(s+i)%ws.length=(s+i%ws.length)%ws.length:=rwl (Nat.add_mod_mod ..) rfl
 refine rwl h1 ?_
 generalize i%ws.length=j at hp
 refine rwl (Ku) (rwl (Ku) ?_)
 by_cases q:j<ws.length-s
 ·rw[K8 (by refine rwl Li ?_;exact q),ND,Lf (Ir q)]
 ·rw[Lq (by refine rwl Li ?_;exact EU q),Li,show (s+j)%ws.length=j-(ws.length-s) by
   exact rwl (by exact Hr hs q:s+j=(j-(ws.length-s))+ws.length) (rwl (L1 ..) (rwl (Lf (Im hp) ..) rfl))]
  exact rwl (List.getElem?_take) (rwl (if_pos (IX hp q)) rfl)
theorem eB.rot(W:eB ws N){s:Nat}(hs:s<ws.length):eB (ws.drop s++ws.take s) N:=by
 have hp:(ws.drop s++ws.take s).Perm ws:=by
  conv=>rhs;rw[<-Mj s ws]
  exact Nf
 exact⟨by refine rwl hp.length_eq ?_;exact W.two,hp.nodup_iff.mpr W.nd,fun x hx=>W.lt x (hp.mem_iff.mp hx)⟩
theorem ec.rot(W:eB ws u.length){s:Nat}(hs:s<ws.length)(T:ec u (ws.drop s++ws.take s) f):ec u ws f:=by
 refine⟨T.len,fun i=>?_,fun j hj=>T.off j fun q=>hj ?_⟩
 ·have h:=T.on (i+(ws.length-s))
  rw[nw W hs,nw W hs,show s+(i+(ws.length-s))=i+ws.length by exact JF hs,show s+(i+(ws.length-s)+1)=i+1+ws.length by exact I3 hs,fV (i+ws.length) i (L1 ..),fV (i+1+ws.length) (i+1) (L1 ..)] at h
  exact h
 ·rcases KM.mp q with q|q
  ·exact ML q
  ·exact MK q
end
section run
theorem n9{r a b:List Int}(h:a.Perm b):cT r a=cT r b:=by
 induction h with
 |nil=>rfl
 |cons x _ ih=>unfold cT at ih⊢;exact rwl LG (rwl LG (rwl Mk (rwl Mk (rwl ih rfl))))
 |swap x y l=>unfold cT;simp only[LG,Mk];exact Gx
 |trans _ _ h1 h2=>exact h1.trans h2
end run
section giving
variable{t u v f:List (List Int)}{ws:List Nat}{k N:Nat}{x:Int}
theorem pf.ring{ps:List (Nat×Nat)}{left:List Nat}(R:Rp ps N)(K:pf ps left)(hlt:∀y∈left,y<N)(hnd:left.Nodup):∃ws,eB ws N/\Around ps ws:=by
 have first:∀y∈left,∃g,g∈aH ps y left:=fun y hy=>by
  refine af (K.2 y hy:) fun z hz hp=>?_
  exact⟨z,cc.mpr ⟨hp,hz⟩⟩
 have go:∀n cs h,mj ps left cs h->left.length+1<=n+cs.length->∃ws,eB ws N/\Around ps ws:=fun n=>by
  induction n with
  |zero=>
   intro cs h C hn
   have:=cA C.nd C.sub
   lia
  |succ n ih=>
   intro cs h C hn
   by_cases hh:h∈cs
   ·exact⟨_,C.ring R hlt hh⟩
   ·refine aO (first h C.hin:) fun g hg=>?_
    exact ih _ _ (C.next hh hg) (by refine rwl Km (rwl KY ?_);exact FP hn)
 obtain⟨z,hz⟩:∃z,z∈left:=by
  cases left with
  |nil=>exact absurd rfl K.1
  |cons z r=>exact⟨z,.head _⟩
 refine aO (first z hz:) fun g hg=>?_
 refine aq (cc.mp hg:) fun g1 g2=>?_
 exact go left.length [z] g ⟨KQ.mpr ⟨by simp,LH⟩,fun y hy=>by refine rwl (Kq.mp hy) ?_;exact hz,(fun e=>by injection e),(fun i a b h1 h2=>by cases i<;>injection h2),g2,fun y hy=>by (injection hy with hy;cases hy);exact g1⟩ (by refine rwl KY ?_;exact Lk _)
structure pd(ps:List (Nat×Nat))(N j:Nat):Prop where
 lt:j<N
 no:∀i,(i,j)∉ps
 least:∀j',j'<j->∃i,(i,j')∈ps
theorem pd.unique{ps:List (Nat×Nat)}{j j':Nat}(F:pd ps N j)(F':pd ps N j'):j=j':=by
 rcases Nat.lt_trichotomy j j' with q|q|q
 ·refine aO (F'.least j q:) fun i hi=>?_
  exact absurd hi (F.no i)
 ·exact q
 ·refine aO (F.least j' q:) fun i hi=>?_
  exact absurd hi (F'.no i)
noncomputable def cY (ps:List (Nat×Nat)) (N:Nat):Prop:=∀ws,eB ws N->Around ps ws->False
theorem Line.noRing{ps:List (Nat×Nat)}{fs:List Nat}(L:Line ps N fs):cY ps N:=fun _ W A=>An L (A.core W)
theorem cY.free{ps:List (Nat×Nat)}(R:Rp ps N)(hN:0<N)(h:cY ps N):∃j,pd ps N j:=by
 have ex:∃j,j<N/\∀i,(i,j)∉ps:=by
  refine Classical.byContradiction fun hno=>?_
  have K:pf ps (Kt N):=by
   refine⟨fun e=>by have:=congrArg KG e;rw[Kz] at this;exact absurd this (MB hN),fun y hy=>?_⟩
   refine Classical.byContradiction fun hn=>hno ⟨y,KS.mp hy,fun i hi=>hn ⟨i,KS.mpr (R.lt _ hi).1,hi⟩⟩
  refine af (K.ring R (fun y hy=>KS.mp hy) Mw:) fun ws W A=>?_
  exact h ws W A
 have go:∀n j,j<n->j<N->(∀i,(i,j)∉ps)->∃j,pd ps N j:=fun n=>by
  induction n with
  |zero=>intro j h;exact absurd h (L5 _)
  |succ n ih=>
   intro j hj hN hno
   by_cases q:∃j',j'<j/\∀i,(i,j')∉ps
   ·refine af q ?_;clear q;intro j' h1 h2
    exact ih j' (EB hj h1) (Dg hN h1) h2
   ·refine⟨j,hN,hno,fun j' hj'=>?_⟩
    exact Classical.byContradiction fun hn=>q ⟨j',hj',fun i hi=>hn ⟨i,hi⟩⟩
 refine af ex ?_;clear ex;intro j h1 h2
 exact go (j+1) j (LW j) h1 h2
structure rO(v:List (List Int))(x:Int)(j:Nat)(u:List (List Int)):Prop where
 ex:∃s:List Int,s.Perm (v.getD j []++ [x])/\s.Pairwise (·<=·)/\u=v.set j s
noncomputable def iX (t v:List (List Int)) (x:Int) (u:List (List Int)):Prop:=∃j,pd (aC t v) t.length j/\rO v x j u
theorem rO.unique{j:Nat}{u':List (List Int)}(G:rO v x j u)(G':rO v x j u'):u=u':=by
 refine bq G.ex fun s h1 h2 e9r0_3=>?_
 subst e9r0_3
 refine bq G'.ex fun s' h1' h2' e10r0_3=>?_
 subst e10r0_3
 exact rwl (fR (h1.trans h1'.symm) h2 h2') rfl
theorem iX.unique{u':List (List Int)}(G:iX t v x u)(G':iX t v x u'):u=u':=by
 refine af G ?_;clear G;intro j F g
 refine af G' ?_;clear G';intro j' F' g'
 obtain rfl:=F.unique F'
 exact g.unique g'
inductive da(t:List (List Int)):List (List Int)->List (List Int)->Prop
 |refl (u:List (List Int)):da t u u
 |step {u v w:List (List Int)} {ws:List Nat}:eB ws t.length->Around (aC t u) ws->ec u ws v->da t v w->da t u w
theorem da.trans{a b c:List (List Int)}(h:da t a b)(h':da t b c):da t a c:=by
 induction h with
 |refl=>exact h'
 |step W A T _ ih=>exact .step W A T (ih h')
theorem da.ok(O:Ok t u k)(h:da t u v):Ok t v k:=by
 induction h with
 |refl=>exact O
 |step W _ T _ ih=>exact ih (T.ok O (by refine rwl O.len ?_;exact W))
theorem da.perm(O:Ok t u k)(h:da t u v):v.Perm u:=by
 induction h with
 |refl=>exact List.Perm.refl _
 |step W _ T _ ih=>
  exact(ih (T.ok O (by refine rwl O.len ?_;exact W))).trans (T.perm (by refine rwl O.len ?_;exact W))
noncomputable def nC (t u:List (List Int)) (x:Int) (u':List (List Int)):Prop:=∃v,da t u v/\cY (aC t v) t.length/\iX t v x u'
theorem qm(O:Ok t u k)(W:eB ws t.length)(A:Around (aC t u) ws)(T:ec u ws v)(i:Nat):sm t u i i<=sm t v i i:=by
 have Wu:eB ws u.length:=by refine rwl O.len ?_;exact W
 refine rwl (T.sm Wu ..) ?_
 have:=A.envied.own W i
 by_cases hi:i∈ws
 ·exact NF (this.1 hi)
 ·refine rwl (this.2 hi) ?_;exact MQ _
theorem xK(O:Ok t u k)(W:eB ws t.length)(A:Around (aC t u) ws)(T:ec u ws v)(B:jS t u):jS t v:=fun p hp=>by
 refine cI (bL.mp hp:) fun h1 h2 h3=>?_
 have Wu:eB ws u.length:=by refine rwl O.len ?_;exact W
 have hm:=qm O W A T p.1
 rw[T.sm Wu p.1 p.2] at h3
 have hs:sm t u p.1 (sg ws p.2)>sm t u p.1 p.1:=LC hm h3
 refine af (B (p.1,sg ws p.2) (bL.mpr ⟨h1,z3 W h2,hs⟩):) fun y hy hle=>?_
 refine⟨y,?_,?_⟩
 ·refine rwl (T.get Wu ..) ?_;exact hy
 ·refine rwl (T.sm Wu p.1 p.2) ?_
  exact Lm hle hm
theorem da.born(O:Ok t u k)(h:da t u v)(B:jS t u):jS t v:=by
 induction h with
 |refl=>exact B
 |step W A T _ ih=>exact ih (T.ok O (by refine rwl O.len ?_;exact W)) (xK O W A T B)
theorem qH(r a b:List Int):cT r (a++b)=cT r a+cT r b:=by unfold cT;exact rwl KT (rwl List.sum_append rfl)
theorem jj{f:List (List Int)}{i j:Nat}{s:List Int}(hi:i<f.length):(f.set i s).getD j []=if i=j then s else f.getD j []:=by
 refine rwl (Ku) (rwl (List.getElem?_set) (rwl (Ku) ?_))
 by_cases h:i=j
 ·subst h;refine rwl (if_pos rfl) (rwl (if_pos rfl) (rwl (if_pos hi) ?_));rfl
 ·exact rwl (if_neg h) (rwl (if_neg h) rfl)
theorem iX.born(O:Ok t v k)(hx:0<=x/\x.toNat<k)(G:iX t v x u)(B:jS t v):jS t u:=fun p hp=>by
 obtain⟨j,F,s,hs,_,rfl⟩:=G
 have hjv:j<v.length:=by refine rwl O.len ?_;exact F.lt
 have val:∀i l,i<t.length->sm t (v.set j s) i l=if j=l then sm t v i l+(t.getD i []).getD x.toNat 0 else sm t v i l:=fun i l hi=>by
  unfold sm
  refine rwl (jj hjv) ?_
  by_cases e:j=l
  ·subst e
   refine rwl (if_pos rfl ..) (rwl (if_pos rfl ..) (rwl (n9 hs ..) (rwl (qH ..) ?_)))
   congr 1
   unfold cT
   exact rwl List.map_singleton (rwl List.sum_singleton rfl)
  ·exact rwl (if_neg e) (rwl (if_neg e) rfl)
 have pos:∀i,i<t.length->0<=(t.getD i []).getD x.toNat 0:=fun i hi=>by
  have hr:=aB hi
  exact(O.worth hr _ (Kp (cu (by refine rwl (O.row _ hr) ?_;exact hx.2)))).1
 have more:∀i,i<t.length->sm t v i i<=sm t (v.set j s) i i:=fun i hi=>by
  refine rwl (val i i hi) ?_
  have:=pos i hi
  by_cases e:j=i
  ·refine rwl (if_pos e) ?_;exact GI this
  ·refine rwl (if_neg e) ?_;exact MQ _
 refine cI (bL.mp hp:) fun h1 h2 h3=>?_
 have hm:=more p.1 h1
 by_cases e:j=p.2
 ·subst e
  refine⟨x,?_,?_⟩
  ·refine rwl (jj hjv) (rwl (if_pos rfl) ?_)
   exact hs.mem_iff.mpr (KO _ (.head _))
  ·refine rwl (val p.1 p.2 h1) (rwl (if_pos rfl) ?_)
   have hno:¬sm t v p.1 p.2>sm t v p.1 p.1:=fun q=>F.no p.1 (bL.mpr ⟨h1,h2,q⟩)
   exact DD hm hno
 ·rw[val p.1 p.2 h1,if_neg e] at h3
  refine af (B p (bL.mpr ⟨h1,h2,LC hm h3⟩):) fun y hy hle=>?_
  refine⟨y,?_,?_⟩
  ·refine rwl (jj hjv) (rwl (if_neg e) ?_);exact hy
  ·refine rwl (val p.1 p.2 h1) (rwl (if_neg e) ?_)
   exact Lm hle hm
theorem jY{s:List Int}{x:Int}:∀{u:List (List Int)} {j:Nat},j<u.length->s.Perm (u.getD j []++ [x])->(u.set j s).flatten.Perm (u.flatten++ [x])
 | [],_,h,_=>absurd h (L5 _)
 |a::u,0,_,h=>by
  refine rwl List.set_cons_zero (rwl L3 (rwl L3 ?_))
  refine(List.Perm.append_right _ h).trans ?_
  refine(?_:((a++ [x])++u.flatten).Perm _)
  refine rwl (K7 ..) (rwl (K7 ..) ?_)
  exact List.Perm.append_left _ Nf
 |a::u,j+1,hj,h=>by
  refine rwl (List.set_cons_succ ..) (rwl (L3 ..) (rwl (L3 ..) (rwl (K7 ..) ?_)))
  exact List.Perm.append_left _ (jY (Mf hj) h)
theorem iX.flat(O:Ok t v k)(G:iX t v x u):u.flatten.Perm (v.flatten++ [x]):=by
 obtain⟨j,F,s,hs,_,rfl⟩:=G
 exact jY (by refine rwl O.len ?_;exact F.lt) hs
theorem gv{l:List Int}:∀{l':List Int},l.Nodup->(∀x∈l,x∈l')->l.length<=l'.length:=by
 induction l with
 |nil=>intro l' _ _;exact Lp _
 |cons a l ih=>
  intro l' hn hs
  rw[KQ] at hn
  have h1:=ih (l':=l'.erase a) hn.2 fun x hx=>(Nn (fun e:x=a=>hn.1 (e▸hx))).mpr (hs x (.tail _ hx))
  have h2:=MT (hs a (.head _))
  have h3:=Mx (hs a (.head _))
  refine rwl Ni ?_
  exact JQ h1 h2 h3
theorem iX.ok(O:Ok t v k)(hx:0<=x/\x.toNat<k)(hn:x∉v.flatten)(G:iX t v x u):Ok t u k:=by
 have hfl:=G.flat O
 obtain⟨j,F,s,hs,hso,rfl⟩:=G
 have hjv:j<v.length:=by refine rwl O.len ?_;exact F.lt
 have hvj:=aB hjv
 have hth:∀y∈s,0<=y/\y.toNat<k:=fun y hy=>by
  rcases KM.mp (hs.mem_iff.mp hy) with q|q
  ·exact O.thing hvj y q
  ·refine rwl (Kq.mp q) ?_;exact hx
 have hxj:x∉v.getD j []:=fun q=>hn (List.mem_flatten.mpr ⟨_,hvj,q⟩)
 have hsn:s.Nodup:=hs.nodup_iff.mpr (by
  rw[KZ]
  refine⟨O.nodup hvj,KQ.mpr ⟨by simp,LH⟩,fun a ha b hb e=>?_⟩
  rw[Kq.mp hb] at e
  exact hxj (e▸ha))
 have hsl:s.length<=k:=by
  have:=gv hsn (l':=(Kt k).map fun(i:Nat)=>(i:Int)) fun y hy=>by
   refine aq (hth y hy:) fun h0 h1=>?_
   exact KL.mpr ⟨y.toNat,KS.mpr h1,Mu h0⟩
  rw[Ki,Kz] at this
  exact this
 refine⟨O.tab,O.row,O.k40,by refine rwl MC ?_;exact O.len,fun y hy=>?_,?_,?_⟩
 ·rcases Mn hy with q|rfl
  ·exact O.fit y q
  ·exact hsl
 ·rw[KI]
  intro y hy
  rcases Mn hy with q|rfl
  ·exact O.share q
  ·simp only[dD,jo,KW,KI,decide_eq_true_eq]
   refine⟨⟨fun z hz=>?_,hsn⟩,hso⟩
   have:=hth z hz
   exact JJ this
 ·refine hfl.nodup_iff.mpr ?_
  rw[KZ]
  refine⟨O.nd,KQ.mpr ⟨by simp,LH⟩,fun a ha b hb e=>?_⟩
  rw[Kq.mp hb] at e
  exact hn (e▸ha)
theorem nC.ok(O:Ok t u k)(hx:0<=x/\x.toNat<k)(hn:x∉u.flatten)(G:nC t u x v):Ok t v k/\v.flatten.Perm (u.flatten++ [x])/\(jS t u->jS t v):=by
 refine bq G ?_;clear G;intro w R _ G
 have Ow:=R.ok O
 have hp:=(R.perm O).flatten
 exact⟨G.ok Ow hx (fun q=>hn (hp.mem_iff.mp q)),(G.flat Ow).trans (List.Perm.append_right _ hp),fun B=>G.born Ow hx (R.born O B)⟩
end giving
section
variable{C:bb}{G:String->Option ae}{Q:ae->Mem->Prop}{X:Nat->Mem->Prop}{m:Mem}{n:Nat}{k N:Nat}{v:ae}{loc:aL}{R:Flow->aL->Mem->Prop}{Y:Nat->aL->Mem->Prop}{ps:List (Nat×Nat)}{left:List Nat}{a:Addr}
theorem jH{c:(Bool->Mem->Prop)->aL->Mem->Prop}{f:(Flow->aL->Mem->Prop)->aL->Mem->Prop}(I:Nat->aL->Mem->Prop)
  (step:∀r l m,I r l m->∀P:aL->Mem->Prop,(∀r',r=r'+1->∀l' m',I r' l' m'->P l' m')->c (xR (fun m'=>f (qp R P) l m') (fun m'=>R .next l m')) l m) (r:Nat):∀l m,I r l m->ib c f (r+1) R l m:=by
 induction r with
 |zero=>exact fun l m h=>step 0 l m h _ fun r' e=>nomatch e
 |succ r ih=>exact fun l m h=>step (r+1) l m h _ fun r' e l' m' hI=>by cases e;exact ih l' m' hI
theorem kA{c:Ex}{b:eM}(r:Nat)(h:ib (fun Q' l' m'=>bk C G iZ c l' (oO Q') m') (fun Q' l' m'=>bJ C G b Q' I7 l' m') r R loc m):vP C G (.whiles c b) R Y loc m:=KF r h
theorem en{x:Int}{z:ae}{is:List Int}{P:Bool->Mem->Prop}(hz:cJ m z is)(h:P (decide (x∈is)) m):cE .inn (.int x) z P m:=by
 refine KF (ef.int x) ⟨is.map .int,is.map .int,hz.seq,rfl,mH,rfl,?_,?_⟩
 ·rw[KI]
  intro d hd
  refine af (KL.mp hd:) fun y _ e0r0_2=>?_
  subst e0r0_2
  rfl
 ·rw[show ((is.map ef.int).any fun e=>ef.beq e (.int x))=decide (x∈is) by
   refine rwl List.any_map ?_
   by_cases hx:x∈is
   ·rw[decide_eq_true hx,Nk];exact⟨x,hx,beq_self_eq_true x⟩
   ·rw[decide_eq_false hx,MG];intro y hy e;exact hx (beq_iff_eq.mp e▸hy)]
  exact h
theorem iE{x:Int}{z:ae}{is:List Int}{P:Bool->Mem->Prop}(hz:cJ m z is)(h:P (!decide (x∈is)) m):cE .notin (.int x) z P m:=en (P:=fun b m=>P (!b) m) hz h
theorem eP{ws:List Nat}{i:Nat}:(i:Int)∈zs ws↔i∈ws:=by
 unfold zs
 rw[KL]
 constructor
 ·rintro ⟨j,hj,e⟩;exact Int.ofNat.inj e▸hj
 ·intro h;exact⟨i,h,rfl⟩
theorem uj{p:Nat×Nat}(h:Q (.int p.1) m):gm (fp p) (.int 0) Q m:=dG (xs:=[.int p.1,.int p.2]) rfl rfl rfl (aa (by decide:2<1000)) h
theorem yE{p:Nat×Nat}(h:Q (.int p.2) m):gm (fp p) (.int 1) Q m:=dG (xs:=[.int p.1,.int p.2]) rfl rfl rfl (aa (by decide:2<1000)) h
theorem iO(ha:m a=some (.list (ps.map fp)))(hps:ps.length<100)(hL:cJ m v (zs left)){h:Nat}(hq:∀c m',ax m m'->m c=none->m' c=some (.list ((zs (aH ps h left)).map .int))->Q (.ref c) m'):CN (n+1) 30 [.ref a,.int (h:Nat),v] Q X m:=by
 (refine aw rfl rfl ?_;dsimp only[qr,aK,bh,KU,Kk,Ko,Kr,KG,Nat.reduceAdd,Nat.reduceSub])
 walk_at"ss"
 refine ar (bo.seq ⟨a,rfl,ha⟩) (by refine rwl (Ki ..) ?_;exact aa (by walk_at"o")) ?_
 refine cS (g:=fun x=>match x with| .tup (.int i::_)=> .int i|_=> .none) (c:=fun x=>match x with| .tup [.int i,.int j]=>decide (j=(h:Nat))&&decide (i∈zs left)|_=>false) rfl (fun x hx P hP=>?_) (fun x hx P hP=>?_) ?_
 ·refine af (KL.mp hx:) fun p _ e1r0_2=>?_
  subst e1r0_2
  walk_at"ss"
  refine yE ?_
  walk_at"ss"
  have hP':P (.bool (decide ((p.2:Int)=(h:Nat))&&decide ((p.1:Int)∈zs left))) m:=hP
  by_cases q:(p.2:Int)=(h:Nat)
  ·rw[decide_eq_true q] at hP'⊢
   walk_at"ss"
   refine uj ?_
   walk_at"ss"
   refine en hL ?_
   walk_at"ss"
   rw[MI] at hP'
   exact hP'
  ·rw[decide_eq_false q] at hP'⊢
   walk_at"ss"
   exact hP'
 ·refine af (KL.mp hx:) fun p _ e2r0_2=>?_
  subst e2r0_2
  walk_at"ss"
  exact uj hP
 have e:KU (fun x=>match x with|ae.tup (.int i::_)=>ae.int i|_=> .none) (Nb (fun x=>match x with|ae.tup [.int i,.int j]=>decide (j=(h:Nat))&&decide (i∈zs left)|_=>false) (ps.map fp))=(zs (aH ps h left)).map .int:=by
  unfold zs aH
  refine rwl MX (rwl K0 (rwl K0 (rwl K0 ?_)))
  congr 1
  refine MF fun p _=>?_
  refine(?_:(decide ((p.2:Int)=(h:Nat))&&decide ((p.1:Int)∈zs left))=_)
  by_cases q1:p.2=h<;>by_cases q2:p.1∈left<;>simp [q1,q2,eP,Mv]
 refine rwl e ?_
 have hle:(aH ps h left).length<100:=by
  unfold aH
  refine rwl (Ki ..) ?_
  exact Kj (Lh _ _) hps
 exact av (by refine rwl (Ki ..) (rwl (aT ..) ?_);exact aa (by walk_at"o")) fun c hc=>hq c _ (ax.set hc) hc ao
theorem fE(ha:m a=some (.list (ps.map fp)))(hps:ps.length<100)(hl:left.length<=8)(hL:cJ m v (zs left))
  (h0:∀m',ax m m'->(∀x∈left,aH ps x left≠ [])->Q .none m') (h1:∀(x:Nat) m',ax m m'->x∈left->aH ps x left= []->(∃i,left[i]? =some x/\∀y∈left.take i,aH ps y left≠ [])->Q (.int (x:Nat)) m'):CN (n+2) 31 [.ref a,v] Q X m:=by
 (refine aw rfl rfl ?_;dsimp only[kW,aK,bh,KU,Kk,Ko,Kr,KG,Nat.reduceAdd,Nat.reduceSub])
 walk_at"ss"
 have hll:((zs left).map ae.int).length<br:=by refine rwl (Ki ..) (rwl (aT ..) ?_);exact aa (by walk_at"o")
 refine ar hL.seq hll ?_
 refine bg (fun i l m'=>∃y,l= [some (.ref a),some v,y]/\ax m m'/\∀x∈left.take i,aH ps x left≠ []) ⟨none,rfl,.refl,fun x hx=>by cases hx⟩ (fun i x l m' hx hI P hP=>?_) fun l m' hI=>?_
 ·refine bq hI ?_;clear hI;intro y e3r0_1 E hall
  subst e3r0_1
  unfold zs at hx
  rw[K0,KH] at hx
  refine af (KD.mp hx:) fun z hz e4r0_2=>?_
  subst e4r0_2
  refine aU ?_
  dsimp only[ay,Function.comp_apply]
  walk_at"ss"
  refine iO (E a _ ha) hps (hL.ext E) fun c m2 E2 _ hc=>?_
  walk_at"ss"
  refine av (aa (by decide)) fun d hd=>?_
  have E3:=E2.trans (ax.set (o:= .list []) hd)
  refine nT (a:=zs (aH ps z left)) (b:=[]) ⟨c,rfl,ax.set hd c _ hc⟩ bo.new ?_
  with_reducible refine cH (bt (fun q=>?_) (fun q=>?_))
  ·have q:=of_decide_eq_true q
   walk_at"ss"
   with_reducible refine d8 ?_
   walk_at"ss"
   exact h1 z _ (E.trans E3) (Kp hz) (Mr.mp q) ⟨i,hz,hall⟩
  ·have q:=of_decide_eq_false q
   walk_at"ss"
   with_reducible refine au (hP _ _ ?_)
   exact⟨bo.stands (k:= .plain) hL (hL.ext (E.trans E3)),_,rfl,E.trans E3,d7 hall hz fun e=>q (by refine rwl e ?_;rfl)⟩
 ·refine bq hI ?_;clear hI;intro y e5r0_1 E hall
  subst e5r0_1
  walk_at"ss"
  rw[Ki,aT,K9] at hall
  exact h0 _ E hall
theorem dK(N:Nat):bP (N:Nat)=(zs (Kt N)).map .int:=by unfold bP zs;refine rwl K0 ?_;rfl
theorem sf(a b:List Nat):zs (a++b)=zs a++zs b:=KT ..
structure JT(m:Mem)(ps:List (Nat×Nat))(N:Nat)(f c:Addr)(hv:ae)(fs left:List Nat)(m2:Mem):Prop where
 mr:∃mr,ax m mr/\mr f=none/\m2=mr.set f (.list ((zs fs).map .int))/\mr c=some (.list ((zs left).map .int))
 part:fD ps N fs left
 next:(hv= .none/\∀x∈left,aH ps x left≠ [])\/∃x:Nat,hv= .int (x:Nat)/\x∈left/\aH ps x left= []
theorem fD.lens{fs left:List Nat}(P:fD ps N fs left):fs.length+left.length=N:=by
 have:=P.perm.length_eq
 rw[Km,Kz] at this
 exact this
theorem ml(Rr:Rp ps N)(h8:N<=8)(ha:m a=some (.list (ps.map fp)))(hps:ps.length<100){f c:Addr}(hf:m f=none){hv:ae}{fs left:List Nat}{m2:Mem}(S:JT m ps N f c hv fs left m2)
  (h:∀c fs left m',ax m m'->m' f=some (.list ((zs fs).map .int))->m' c=some (.list ((zs left).map .int))->(left= []/\Line ps N fs\/pf ps left/\(∀x∈left,x<N)/\left.Nodup)->Q (.tup [.ref f,.ref c]) m'):
  bJ (CN (n+2)) (b9 GS) (eM.drop 3 kX.body) (iK Q) (fun c _ m'=>X c m') [some (.ref a),some (.int (N:Nat)),some (.ref f),some (.ref c),some hv,none] m2:=by
 dsimp only[kX,aK,eM.drop]
 walk_at"ss"
 refine kA _ (jH (fun r l m'=>∃c hv fs left,l= [some (.ref a),some (.int (N:Nat)),some (.ref f),some (.ref c),some hv,none]/\JT m ps N f c hv fs left m'/\left.length=r) (fun r l m' hI P hP=>?_) _ _ _ ⟨c,hv,fs,left,rfl,S,rfl⟩)
 refine Az hI ?_;clear hI;intro c hv fs left e7r0_4 S hr
 subst e7r0_4
 obtain⟨⟨mr,Er,hrf,rfl,hrc⟩,PT,hn⟩:=S
 have Ef:=ax.set (o:= .list ((zs fs).map .int)) hrf
 have hlens:=PT.lens
 walk_at"ss"
 rcases hn with ⟨rfl,hno⟩|⟨x,rfl,hx,he⟩
 ·with_reducible refine b0 rfl ?_
  walk_at"ss"
  refine⟨aa (by decide:2<1000),?_⟩
  walk_at"ss"
  refine h _ fs left _ (Er.trans Ef) ao (Ef c _ hrc) ?_
  have hnd:=PT.nd
  rw[KZ] at hnd
  by_cases q:left= []
  ·subst q
   exact .inl ⟨rfl,PT.line Rr⟩
  ·refine .inr ⟨⟨q,fun y hy=>?_⟩,fun y hy=>KS.mp (PT.perm.mem_iff.mp (KO _ hy)),hnd.2.1⟩
   cases e:aH ps y left with
   |nil=>exact absurd e (hno y hy)
   |cons z r=>
    have hz:z∈aH ps y left:=by refine rwl e ?_;exact .head _
    refine aq (cc.mp hz:) fun h1 h2=>?_
    exact⟨z,h2,h1⟩
 ·with_reducible refine ej rfl ?_
  walk_at"ss"
  refine iW ao ?_
  walk_at"ss"
  refine fK ao (by refine rwl (Ki ..) (rwl (aT ..) ?_);exact aa (Ha h8 hlens)) ?_
  walk_at"ss"
  dsimp only[ay]
  rw[fQ,show (zs fs).map ae.int++ [.int (x:Nat)]=(zs (fs++ [x])).map .int by refine rwl (sf ..) (rwl (KT ..) ?_);rfl]
  have P2:=PT.next Rr hx he
  have Ef2:=ax.set (o:= .list ((zs (fs++ [x])).map .int)) hrf
  refine ar (bo.seq ⟨c,rfl,Ef2 c _ hrc⟩) (by refine rwl (Ki ..) (rwl (aT ..) ?_);exact aa (Ei h8 hlens)) ?_
  refine cS (g:=fun y=>y) (c:=fun y=>match y with| .int y=>decide (y≠(x:Nat))|_=>false) rfl (fun y hy P hP=>?_) (fun y hy P hP=>?_) ?_
  ·refine af (KL.mp hy:) fun y _ e10r0_2=>?_
   subst e10r0_2
   walk_at"ss"
   exact hP
  ·refine af (KL.mp hy:) fun y _ e11r0_2=>?_
   subst e11r0_2
   walk_at"ss"
   exact hP
  have hfm:KU (fun y=>y) (Nb (fun y=>match y with|ae.int y=>decide (y≠(x:Nat))|_=>false) ((zs left).map .int))=(zs (left.filter fun y=>decide (y≠x))).map .int:=by
   unfold zs
   refine rwl (NN ..) (rwl (K0 ..) (rwl (K0 ..) (rwl (MX ..) ?_)))
   congr 1
   refine MF fun y _=>?_
   refine(?_:decide ((y:Int)≠(x:Nat))=decide (y≠x))
   by_cases q:y=x
   ·subst q;simp
   ·exact rwl (decide_eq_true q) (rwl (decide_eq_true (show (y:Int)≠(x:Nat) from fun e=>q (BM e))) rfl)
  refine rwl hfm ?_
  have hnd:=PT.nd
  rw[KZ] at hnd
  have hfl:=uN hnd.2.1 hx
  have hfl8:(left.filter fun y=>decide (y≠x)).length<=8:=I9 h8 hlens hfl
  refine av (by refine rwl (Ki ..) (rwl (aT ..) ?_);exact aa (by walk_at"o")) fun d hd=>?_
  have hdf:d≠f:=fun e=>by subst e;rw[ao] at hd;injection hd
  have hdr:mr d=none:=by rw[ak hdf] at hd;exact hd
  refine rwl (i8 (Ne.symm hdf)) ?_
  have Ed:=ax.set (o:= .list ((zs (left.filter fun y=>decide (y≠x))).map .int)) hdr
  have hdf2:(mr.set d (.list ((zs (left.filter fun y=>decide (y≠x))).map .int))) f=none:=by refine rwl (ak (Ne.symm hdf)) ?_;exact hrf
  have ti:(mr.set d (.list ((zs (left.filter fun y=>decide (y≠x))).map .int))) d=some (.list ((zs (left.filter fun y=>decide (y≠x))).map .int)):=ao
  generalize mr.set d (.list ((zs (left.filter fun y=>decide (y≠x))).map .int))=mr2 at Ed hdf2 ti
  have Ef3:=ax.set (o:= .list ((zs (fs++ [x])).map .int)) hdf2
  have E2:=Er.trans Ed
  walk_at"ss"
  dsimp only[ay]
  have go:∀m3,ax (mr2.set f (.list ((zs (fs++ [x])).map .int))) m3->∃mr3,ax m mr3/\mr3 f=none/\m3=mr3.set f (.list ((zs (fs++ [x])).map .int))/\mr3 d=some (.list ((zs (left.filter fun y=>decide (y≠x))).map .int)):=fun m3 E3=>
   ⟨m3.del f,E2.trans (ax.del hdf2 E3),dH,by exact rwl dS (rwl (dv (E3 f _ ao)) rfl),ax.del hdf2 E3 d _ ti⟩
  refine fE (Ef3 a _ (E2 a _ ha)) hps hfl8 ⟨d,rfl,Ef3 d _ ti⟩ (fun m3 E3 hno=>?_) (fun y m3 E3 hy he _=>?_)
  ·walk_at"ss"
   with_reducible refine au (hP ((left.filter fun y=>decide (y≠x)).length) (BO hr hfl) _ _ ?_)
   exact⟨d,_,_,_,rfl,⟨go m3 E3,P2,.inl ⟨rfl,hno⟩⟩,rfl⟩
  ·walk_at"ss"
   with_reducible refine au (hP ((left.filter fun y=>decide (y≠x)).length) (by lia) _ _ ?_)
   exact⟨d,_,_,_,rfl,⟨go m3 E3,P2,.inr ⟨y,rfl,hy,he⟩⟩,rfl⟩
theorem tN(Rr:Rp ps N)(h8:N<=8)(ha:m a=some (.list (ps.map fp)))(hps:ps.length<100)
  (h:∀f c fs left m',ax m m'->m f=none->m' f=some (.list ((zs fs).map .int))->m' c=some (.list ((zs left).map .int))->(left= []/\Line ps N fs\/pf ps left/\(∀x∈left,x<N)/\left.Nodup)->Q (.tup [.ref f,.ref c]) m'):CN (n+3) 32 [.ref a,.int (N:Nat)] Q X m:=by
 (refine aw rfl rfl ?_;dsimp only[kX,aK,bh,KU,Kk,Ko,Kr,KG,Nat.reduceAdd,Nat.reduceSub])
 walk_at"ss"
 refine av (aa (by decide)) fun f hf=>?_
 walk_at"ss"
 refine dC (gI h8) ?_
 refine av (by refine rwl (aR ..) ?_;exact aa (by refine(?_:N<1000);walk_at"o")) fun c hc=>?_
 have hcf:c≠f:=fun e=>by subst e;rw[ao] at hc;injection hc
 refine rwl (dK ..) ?_
 refine u5 (qP (AX _ (by with_unfolding_all rfl) ?_))
 have hcm:m c=none:=by rw[ak hcf] at hc;exact hc
 have Ec:ax m (m.set c (.list ((zs (Kt N)).map .int))):=ax.set hcm
 have hfc:(m.set c (.list ((zs (Kt N)).map .int))) f=none:=by refine rwl (ak (Ne.symm hcf)) ?_;exact hf
 refine rwl (i8 (Ne.symm hcf)) ?_
 have hLc:(m.set c (.list ((zs (Kt N)).map .int))) c=some (.list ((zs (Kt N)).map .int)):=ao
 generalize m.set c (.list ((zs (Kt N)).map .int))=mr at Ec hfc hLc
 have Ef:=ax.set (o:= .list []) hfc
 have go:∀m3,ax (mr.set f (.list [])) m3->∃mr3,ax m mr3/\mr3 f=none/\m3=mr3.set f (.list ((zs []).map .int))/\mr3 c=some (.list ((zs (Kt N)).map .int)):=fun m3 E3=>
  ⟨m3.del f,Ec.trans (ax.del hfc E3),dH,by refine rwl dS ?_;exact(dv (E3 f _ ao)).symm,ax.del hfc E3 c _ hLc⟩
 refine fE (left:=Kt N) (Ef a _ (Ec a _ ha)) hps (by refine rwl Kz ?_;exact h8) ⟨c,rfl,Ef c _ hLc⟩ (fun m2 E2 hno=>?_) (fun x m2 E2 hx he _=>?_)
 ·exact ml Rr h8 ha hps hf ⟨go m2 E2,.start,.inl ⟨rfl,hno⟩⟩ fun c fs left m' E h1 h2 h3=>h f c fs left m' E hf h1 h2 h3
 ·exact ml Rr h8 ha hps hf ⟨go m2 E2,.start,.inr ⟨x,rfl,hx,he⟩⟩ fun c fs left m' E h1 h2 h3=>h f c fs left m' E hf h1 h2 h3
end
section
variable{Q:ae->Mem->Prop}{X:Nat->Mem->Prop}{m:Mem}{n:Nat}{t u:List (List Int)}{k N:Nat}{v w:ae}{ps:List (Nat×Nat)}{left:List Nat}{a:Addr}
theorem gB{p:Prop}{inst:Decidable p}(h:p): @decide p inst=true:=decide_eq_true h
theorem fM{p:Prop}{inst:Decidable p}(h:¬p): @decide p inst=false:=decide_eq_false h
theorem i4{ws:List Nat}{i x:Nat}(h:ws[i]? =some x):(zs ws)[i]? =some ((x:Nat):Int):=by unfold zs;refine rwl (KH) (rwl h ?_);rfl
theorem kN(K:pf ps left){x:Nat}(hx:x∈left):∃g,(aH ps x left)[0]? =some g/\g∈aH ps x left:=by
 refine af (K.2 x hx:) fun y hy hp=>?_
 have hm:y∈aH ps x left:=cc.mpr ⟨hp,hy⟩
 cases e:aH ps x left with
 |nil=>rw[e] at hm;cases hm
 |cons g r=>exact⟨g,rfl,.head _⟩
theorem CE(cs:List Nat)(h:Nat):(zs cs).idxOf ((h:Nat):Int)=cs.idxOf h:=by
 unfold zs
 induction cs with
 |nil=>rfl
 |cons a l ih=>
  refine rwl LG (rwl List.idxOf_cons (rwl List.idxOf_cons (rwl ih ?_)))
  by_cases e:a=h
  ·subst e;simp
  ·exact rwl (beq_false_of_ne e) (rwl (beq_false_of_ne ((fun q=>e (BM q)):((a:Nat):Int)≠(h:Nat))) rfl)
theorem mR(Rr:Rp ps N)(h8:N<=8)(ha:m a=some (.list (ps.map fp)))(hps:ps.length<100)(K:pf ps left)(hlt:∀x∈left,x<N)(hnd:left.Nodup){c:Addr}(hc:m c=some (.list ((zs left).map .int)))
  (h:∀b ws m',ax m m'->m b=none->m' b=some (.list ((zs ws).map .int))->eB ws N->Around ps ws->Q (.ref b) m'):CN (n+2) 33 [.ref a,.ref c] Q X m:=by
 have hl8:left.length<=8:=Kl (by have:=cA hnd (l':=Kt N) fun x hx=>KS.mpr (hlt x hx);rw[Kz] at this;exact this) h8
 obtain⟨z,hz⟩:∃z,left[0]? =some z:=by
  cases left with
  |nil=>exact absurd rfl K.1
  |cons z r=>exact⟨z,rfl⟩
 have hzm:=Kp hz
 have hcl:(zs left).length<br:=by refine rwl aT ?_;exact aa (by walk_at"o")
 (refine aw rfl rfl ?_;dsimp only[kM,aK,bh,KU,Kk,Ko,Kr,KG,Nat.reduceAdd,Nat.reduceSub])
 walk_at"ss"
 refine cz (is:=zs left) ⟨c,rfl,hc⟩ (by decide) (i4 hz) hcl ?_
 walk_at"ss"
 refine av (aa (by decide:1<1000)) fun f hf=>?_
 have Ef:=ax.set (o:= .list [ae.int ((z:Nat):Int)]) hf
 walk_at"ss"
 try dsimp only[ay]
 refine cz (is:=zs left) ⟨c,rfl,Ef c _ hc⟩ (by decide) (i4 hz) hcl ?_
 walk_at"ss"
 refine iO (Ef a _ ha) hps ⟨c,rfl,Ef c _ hc⟩ fun d m2 E2 _ hd=>?_
 walk_at"ss"
 refine af (kN K hzm:) fun g hg0 hg=>?_
 have elen:∀x,(zs (aH ps x left)).length<br:=fun x=>by
  refine rwl aT ?_
  unfold aH
  refine rwl (Ki ..) ?_
  exact aa (Kj (Lh _ _) (by walk_at"o"))
 refine cz (is:=zs (aH ps z left)) ⟨d,rfl,hd⟩ (by decide) (i4 hg0) (elen z) ?_
 walk_at"ss"
 try dsimp only[ay]
 have hch0:mj ps left [z] g:=by
  refine aq (cc.mp hg:) fun g1 g2=>?_
  refine⟨KQ.mpr ⟨by simp,LH⟩,fun x hx=>by refine rwl (Kq.mp hx) ?_;exact hzm,(fun e=>by injection e),(fun i x y h1 h2=>by cases i<;>injection h2),g2,fun x hx=>by (injection hx with hx;cases hx);exact g1⟩
 refine kA _ (jH (fun r l m'=>∃(cs:List Nat) (g:Nat),l= [some (.ref a),some (.ref c),some (.ref f),some (.int (g:Nat))]/\At m f ((zs cs).map .int) m'/\mj ps left cs g/\r=9-cs.length) (fun r l m' hI P hP=>?_) 8 _ _ ⟨[z],g,rfl,(At.start hf).grow E2,hch0,rfl⟩)
 refine dJ hI ?_;clear hI;intro cs g e15r0_2 A Ch hr
 subst e15r0_2
 have hcs:cs.length<=left.length:=cA Ch.nd Ch.sub
 have hcl':(zs cs).length<br:=by refine rwl aT ?_;exact aa (zf hl8 hcs)
 walk_at"ss"
 refine iE (is:=zs cs) ⟨f,rfl,A.get⟩ ?_
 by_cases hin:g∈cs
 ·refine rwl (decide_eq_true (eP.mpr hin)) ?_
  walk_at"ss"
  refine iW A.get ?_
  walk_at"ss"
  refine FZ A.get (eP.mpr hin) hcl' ?_
  refine pE A.get (by refine rwl (Ki ..) ?_;exact hcl') ?_
  rw[CE,show uY true ((zs cs).map ae.int) ((cs.idxOf g:Nat):Int)=(zs (cs.drop (cs.idxOf g))).map .int by unfold zs uY eN;refine rwl (if_pos (nn _)) (rwl Nq (rwl Nq ?_));rfl]
  have hdl:(zs (cs.drop (cs.idxOf g))).length<br:=by refine rwl aT (rwl Li ?_);exact aa (II hl8 hcs)
  refine av (by refine rwl (Ki ..) ?_;exact hdl) fun e he=>?_
  refine AG ao (by refine rwl (Ki ..) ?_;exact hdl) ?_
  rw[show ((zs (cs.drop (cs.idxOf g))).map ae.int).reverse=(zs (cs.drop (cs.idxOf g)).reverse).map .int by unfold zs;exact rwl List.map_reverse (rwl List.map_reverse rfl)]
  refine aq (Ch.ring Rr hlt hin:) fun W Ar=>?_
  refine av (by refine rwl (Ki ..) (rwl (aT ..) (rwl (Nx ..) (rwb (aT (ws:=cs.drop (cs.idxOf g)) ..) ?_)));exact hdl) fun b hb=>?_
  walk_at"ss"
  have Ee:=A.ext.trans (ax.set (o:= .list ((zs (cs.drop (cs.idxOf g))).map .int)) he)
  exact h b _ _ (Ee.trans (ax.set hb)) (aQ Ee hb) ao W Ar
 ·refine rwl (decide_eq_false fun q=>hin (eP.mp q)) ?_
  walk_at"ss"
  refine iW A.get ?_
  walk_at"ss"
  refine fK A.get (by refine rwl (Ki ..) ?_;exact hcl') ?_
  walk_at"ss"
  rw[show (zs cs).map ae.int++ [.int (g:Nat)]=(zs (cs++ [g])).map .int by refine rwl (sf ..) (rwl (KT ..) ?_);rfl]
  have A2:At m f ((zs (cs++ [g])).map .int) (m'.set f (.list ((zs (cs++ [g])).map .int))):=A.put
  generalize m'.set f (.list ((zs (cs++ [g])).map .int))=m3 at A2
  refine iO (A2.ext a _ ha) hps ⟨c,rfl,A2.ext c _ hc⟩ fun d m4 E4 _ hd=>?_
  walk_at"ss"
  refine af (kN K Ch.hin:) fun g' hg0' hg'=>?_
  refine cz (is:=zs (aH ps g left)) ⟨d,rfl,hd⟩ (by decide) (i4 hg0') (elen g) ?_
  walk_at"ss"
  have Ch2:=Ch.next hin hg'
  have hcs2:(cs++ [g]).length<=left.length:=cA Ch2.nd Ch2.sub
  rw[Km,KY] at hcs2
  with_reducible refine au (hP (9-(cs++ [g]).length) (by refine rwl Km (rwl KY ?_);exact Iq hl8 hr hcs2) _ _ ?_)
  exact⟨cs++ [g],g',rfl,A2.grow E4,Ch2,rfl⟩
theorem kq(O:Ok t u k)(hv:bH m v t)(hw:bH m w u)(h0:∀fs m',ax m m'->Line (aC t u) t.length fs->Q .none m')
  (h1:∀b ws m',ax m m'->m b=none->m' b=some (.list ((zs ws).map .int))->eB ws t.length->Around (aC t u) ws->Q (.ref b) m'):CN (n+4) 34 [v,w] Q X m:=by
 (refine aw rfl rfl ?_;dsimp only[qB,aK,bh,KU,Kk,Ko,Kr,KG,Nat.reduceAdd,Nat.reduceSub])
 walk_at"ss"
 refine nN O hv hw fun a m1 E1 _ ha=>?_
 walk_at"ss"
 try dsimp only[ay]
 refine ba (hv.ext E1) (aa O.tl) ?_
 walk_at"ss"
 refine tN fq O.t8 ha (fv O) fun f c fs left m2 E2 _ hf hc hcase=>?_
 refine dG (xs:=[.ref f,.ref c]) rfl rfl rfl (aa (by decide:2<1000)) ?_
 walk_at"ss"
 try dsimp only[ay]
 refine av (aa (by decide)) fun d hd=>?_
 have E3:=ax.set (o:= .list []) hd
 refine nT (a:=zs left) (b:=[]) ⟨c,rfl,E3 c _ hc⟩ bo.new ?_
 have E4:=E1.trans (E2.trans E3)
 rcases hcase with ⟨rfl,hL⟩|⟨K,hlt,hnd⟩
 ·refine cH (ej (gB rfl) ?_)
  walk_at"ss"
  exact h0 fs _ E4 hL
 ·refine cH (b0 (fM fun q=>K.1 (Mr.mp q)) ?_)
  walk_at"ss"
  refine mR fq O.t8 (E3 a _ (E2 a _ ha)) (fv O) K hlt hnd (E3 c _ hc) fun b ws m5 E5 hb0 hb W Ar=>?_
  walk_at"ss"
  exact h1 b ws _ (E4.trans E5) (aQ E4 hb0) hb W Ar
end
section
variable{Q:ae->Mem->Prop}{X:Nat->Mem->Prop}{m:Mem}{n:Nat}{u f:List (List Int)}{v w:ae}{ws:List Nat}
theorem n8(W:eB ws u.length)(h8:u.length<=8)(hs:∀s∈u,s.length<1000)(hv:bH m v u)(hw:cJ m w (zs ws))(h:∀f v' m',ax m m'->ic m m' v' f->ec u ws f->Q v' m'):CN (n+1) 37 [v,w] Q X m:=by
 have hul:u.length<1000:=by walk_at"o"
 (refine aw rfl rfl ?_;dsimp only[mi,aK,bh,KU,Kk,Ko,Kr,KG,Nat.reduceAdd,Nat.reduceSub])
 walk_at"ss"
 refine rM (LW 4) hv hul hs fun vF m1 E1 oF=>?_
 walk_at"ss"
 dsimp only[ay]
 refine rS (hw.ext E1) W h8 ?_
 refine aV (gI (Kl W.len h8)) ?_
 refine bg (fun i l m'=>∃y3 f,l= [some v,some w,some vF,y3,none]/\ax m m'/\ic m m' vF f/\iC u ws 0 i f) ⟨none,u,rfl,E1,oF,.start 0⟩ (fun i x l m' hx hI P hP=>?_) fun l m' hI=>?_
 ·refine dJ hI ?_;clear hI;intro y3 f e18r0_2 E o T
  subst e18r0_2
  refine aq (cq hx:) fun hi e19r0_1=>?_
  subst e19r0_1
  have hi:i<ws.length:=hi
  have hwE:=hw.ext E
  refine aU ?_
  dsimp only[ay]
  walk_at"ss"
  refine rS hwE W h8 ?_
  have hne:((ws.length:Nat):Int)≠0/\oi (ws.length:Nat):=⟨By hi,by have:=W.len;unfold oi;exact I4 hul this⟩
  refine rV hne ?_
  refine rwl (yN (i+1) ws.length:((i:Int)+1).fmod (ws.length:Nat)=(((i+1)%ws.length:Nat):Int)) ?_
  refine vY W h8 hwE (i+1) ?_
  refine eG (hv.ext E) (nn _) (eO (lq W (i+1))) (aa hul) fun y hy=>?_
  refine iD hy.seq (av (by refine rwl (Ki ..) ?_;exact aa (hs _ (aB (lq W (i+1))))) fun e he=>?_)
  walk_at"ss"
  refine ui W h8 (hwE.ext (ax.set he)) hi ?_
  refine o.relist E (by refine rwl T.len ?_;exact lq W i) (by refine rwl T.len ?_;exact hul) he fun m2 E2 o2 _=>?_
  walk_at"ss"
  with_reducible refine au (hP _ _ ?_)
  have T2:=T.next W hi
  rw[MS] at T2
  exact⟨trivial,_,_,rfl,E2,o2,T2⟩
 ·refine dJ hI ?_;clear hI;intro y3 f e20r0_2 E o T
  subst e20r0_2
  rw[aR] at T
  walk_at"ss"
  exact h _ _ _ E o (T.done W)
end
section
variable{Q:ae->Mem->Prop}{X:Nat->Mem->Prop}{m:Mem}{n:Nat}{t u:List (List Int)}{k N:Nat}{v w:ae}{x:Int}
theorem Ao{ps:List (Nat×Nat)}(Rr:Rp ps N){j:Nat}(hj:j<N)(he:aH ps j (Kt N)= [])(hl:∃i,(Kt N)[i]? =some j/\∀y∈(Kt N).take i,aH ps y (Kt N)≠ []):pd ps N j:=by
 refine af hl ?_;clear hl;intro i hi hall
 have hij:i=j:=by
  obtain⟨_,e⟩:=Kn.mp hi
  rw[MV] at e
  exact e
 subst hij
 refine⟨hj,fun a ha=>?_,fun j' hj'=>?_⟩
 ·have:a∈aH ps i (Kt N):=cc.mpr ⟨ha,KS.mpr (Rr.lt _ ha).1⟩
  rw[he] at this
  cases this
 ·have hm:j'∈(Kt N).take i:=by
   refine rwl List.take_range ?_
   exact KS.mpr (Fz hj hj')
  have:=hall j' hm
  cases e:aH ps j' (Kt N) with
  |nil=>exact absurd e this
  |cons a r=>
   have ha:a∈aH ps j' (Kt N):=by refine rwl e ?_;exact .head _
   exact⟨a,(cc.mp ha).1⟩
theorem zx{a:Addr}{xs:List ae}(ha:m a=some (.list xs))(hl:xs.length<br)(h:Q (.tup xs) m):gj .tuple (.ref a) Q m:=KF xs ⟨bo.lst ⟨a,rfl,ha⟩,hl,h⟩
theorem ic.base{m0 m1:Mem}(E:ax m0 m1)(h:ic m1 m v t):ic m0 m v t:=by
 refine mU h ?_;clear h;intro a bs e2r0_2 ha hn hl h0 hb hr
 subst e2r0_2
 exact⟨a,bs,rfl,ha,hn,hl,aQ E h0,fun b hb'=>⟨aQ E (hb b hb').1,(hb b hb').2⟩,hr⟩
theorem ic.less{m0:Mem}(h:ic m0 m v t){f:Addr}{o:cU}(hf:m0 f=some o):ic m0 (m.del f) v t:=by
 refine mU h ?_;clear h;intro a bs e3r0_2 ha hn hl h0 hb hr
 subst e3r0_2
 have ne:∀{c},m0 c=none->c≠f:=fun hc e=>by subst e;rw[hc] at hf;injection hf
 exact⟨a,bs,rfl,by refine rwl (cB (ne h0)) ?_;exact ha,hn,hl,h0,hb,fun j b r h1 h2=>by refine rwl (cB (ne (hb b (Kp h1)).1)) ?_;exact hr j b r h1 h2⟩
structure JY(m:Mem)(t u:List (List Int))(f:Addr)(vN hv:ae)(w:List (List Int))(m2:Mem):Prop where
 mem:∃mr L,ax m mr/\mr f=none/\m2=mr.set f (.list L)/\L.length+(aC t w).length<200/\ic m mr vN w/\∀c,hv= .ref c->mr c≠none
 reach:da t u w
 next:(hv= .none/\cY (aC t w) t.length)\/∃c ws,hv= .ref c/\m2 c=some (.list ((zs ws).map .int))/\eB ws t.length/\Around (aC t w) ws
theorem og(O:Ok t u k)(hx:0<=x/\x.toNat<k)(hn:x∉u.flatten)(hv:bH m v t){wS:ae}{f:Addr}(hf:m f=none){vN hh:ae}{w:List (List Int)}{m2:Mem}(S:JY m t u f vN hh w m2)
  (h:∀L vN u' m',ax m m'->m' f=some (.list L)->ic m m' vN u'->nC t u x u'->Q (.tup [.ref f,vN]) m'):
  bJ (CN (n+4)) (b9 GS) (eM.drop 3 ni.body) (iK Q) (fun c _ m'=>X c m') [some v,some wS,some (.int x),some (.ref f),some vN,some hh,none,none] m2:=by
 dsimp only[ni,aK,eM.drop]
 walk_at"ss"
 refine kA _ (jH (fun r l m'=>∃vN hh w,l= [some v,some wS,some (.int x),some (.ref f),some vN,some hh,none,none]/\JY m t u f vN hh w m'/\(aC t w).length<=r) (fun r l m' hI P hP=>?_) (aC t w).length _ _ ⟨vN,hh,w,rfl,S,Lk _⟩)
 clear S
 refine iU hI ?_;clear hI;intro vN hh w e4r0_3 S hr
 subst e4r0_3
 obtain⟨⟨mr,L,Er,hrf,rfl,hLl,oN,hcn⟩,hreach,hnext⟩:=S
 have Ow:=hreach.ok O
 have Ef:=ax.set (o:= .list L) hrf
 walk_at"ss"
 have E0:=Er.trans Ef
 rcases hnext with ⟨rfl,hno⟩|⟨c,ws,rfl,hc,W,Ar⟩
 ·with_reducible refine b0 rfl ?_
  walk_at"ss"
  refine nN Ow (hv.ext E0) (oN.isT.ext Ef) fun a m3 E3 _ ha=>?_
  walk_at"ss"
  refine ba (hv.ext (E0.trans E3)) (aa O.tl) ?_
  refine dC (gI O.t8) ?_
  refine rwl (dK ..) ?_
  refine av (by refine rwl (Ki ..) (rwl (aT ..) (rwl (Kz ..) ?_));exact aa O.tl) fun b hb=>?_
  walk_at"ss"
  have Eb:=ax.set (o:= .list ((zs (Kt t.length)).map .int)) hb
  refine fE (left:=Kt t.length) (Eb a _ ha) (fv Ow) (by refine rwl Kz ?_;exact O.t8) bo.new (fun m4 E4 hnone=>?_) (fun j m4 E4 hj he hleast=>?_)
  ·exfalso
   obtain⟨j,F⟩:=hno.free fq (by obtain⟨r,t',e,_⟩:=O.row0;refine rwl e ?_;exact Mi _)
   have:=hnone j (KS.mpr F.lt)
   cases e:aH (aC t w) j (Kt t.length) with
   |nil=>exact this e
   |cons a r=>
    have ha:a∈aH (aC t w) j (Kt t.length):=by refine rwl e ?_;exact .head _
    exact F.no a (cc.mp ha).1
  have F:=Ao fq (KS.mp hj) he hleast
  walk_at"ss"
  dsimp only[ay]
  have E14:ax (mr.set f (.list L)) m4:=(E3.trans Eb).trans E4
  have hf4:=E14 f _ ao
  refine iW hf4 ?_
  walk_at"ss"
  refine⟨aa (by decide:3<1000),?_⟩
  refine fK hf4 (aa (Gy hLl)) ?_
  walk_at"ss"
  have hjw:j<w.length:=by refine rwl Ow.len ?_;exact F.lt
  refine bq (yw (L':= .list (L++ [.tup [.str "give",.int x,.int (j:Nat)]])) hrf E14:) fun mr4 E4r hr4f e4=>?_
  refine rwl e4 ?_
  have o4:=oN.ext E4r
  have Ef4:=ax.set (o:= .list (L++ [ae.tup [.str "give",.int x,.int (j:Nat)]])) hr4f
  have hsl:=Ow.sl (aB hjw)
  have o5:=o4.ext Ef4
  refine eG o5.isT (nn j) (eO hjw) (aa Ow.ul) fun y hy=>?_
  walk_at"ss"
  refine av (aa (by decide:1<1000)) fun d hd=>?_
  have Ed:=ax.set (o:= .list [ae.int x]) hd
  refine af hy ?_;clear hy;intro b' e7r0_1 hb'
  subst e7r0_1
  refine bZ (xs:=(w.getD j []).map .int) (ys:=[.int x]) (bo.lst ⟨b',rfl,Ed b' _ hb'⟩) (bo.lst ⟨d,rfl,ao⟩) ?_
  rw[show (w.getD j []).map ae.int++ [.int x]=(w.getD j []++ [x]).map .int by refine rwl KT ?_;rfl]
  refine av (by refine rwl (Ki ..) (rwl (Km ..) ?_);exact aa (by refine(?_:_+1<1000);walk_at"o")) fun d2 ti=>?_
  have Ed2:=Ed.trans (ax.set (o:= .list ((w.getD j []++ [x]).map .int)) ti)
  have hkw:(w.getD j []++ [x]).length<64:=by
   refine rwl Km (rwl KY ?_)
   have h1:=Ow.fit _ (aB hjw)
   have h2:=O.k40
   exact EJ h1 h2
  refine jL (is:=w.getD j []++ [x]) bo.new hkw fun js hp hs=>?_
  refine av (by refine rwl (Ki ..) (rwl (hp.length_eq ..) ?_);exact aa (sl1 hkw)) fun e he=>?_
  walk_at"ss"
  have o6:=o5.ext Ed2
  refine o6.relist ((Er.trans E4r).trans (Ef4.trans Ed2)) hjw Ow.ul he fun m6 E6 o7 keep=>?_
  have hfv:vN≠ .ref f:=fun q=>by
   refine bB o4 ?_;clear o4;intro a bs e ha _
   rw[q] at e
   (injection e with e;cases e)
   rw[hr4f] at ha
   injection ha
  walk_at"ss"
  refine⟨aa (by decide:2<1000),?_⟩
  walk_at"ss"
  exact h _ _ _ _ E6 (keep f _ hfv (Ed2 f _ ao)) o7 ⟨w,hreach,hno,j,F,js,hp,hs,rfl⟩
 ·with_reducible refine ej rfl ?_
  walk_at"ss"
  refine iW ao ?_
  walk_at"ss"
  have hcf:c≠f:=fun e=>by subst e;exact hcn c rfl hrf
  have hcr:mr c=some (.list ((zs ws).map .int)):=by rw[ak hcf] at hc;exact hc
  have hwl:((zs ws).map ae.int).length<br:=by refine rwl (Ki ..) (rwl (aT ..) ?_);exact aa (by have:=W.len;have:=O.t8;exact DM (by assumption) this)
  refine zx hc hwl ?_
  walk_at"ss"
  refine⟨aa (by decide:2<1000),?_⟩
  refine fK ao (aa (by lia)) ?_
  walk_at"ss"
  refine rwl fQ ?_
  have Ef2:=ax.set (o:= .list (L++ [ae.tup [.str "ring",.tup ((zs ws).map .int)]])) hrf
  have Wu:eB ws w.length:=by refine rwl Ow.len ?_;exact W
  refine n8 Wu (by refine rwl Ow.len ?_;exact O.t8) (fun s hs=>sl1 (Ow.sl hs)) (oN.isT.ext Ef2) ⟨c,rfl,Ef2 c _ hcr⟩ fun w' vN' m3 E3 o3 T=>?_
  have Ow':=T.ok Ow Wu
  have hfew:=T.fewer Wu Ow.len Ar.envied
  have hreach':=hreach.trans (.step W Ar T (.refl _))
  have E13:=(Er.trans Ef2).trans E3
  walk_at"ss"
  dsimp only[ay]
  have go:∀(m4:Mem) (hv':ae),ax m3 m4->(∀c,hv'= .ref c->c≠f/\m4 c≠none)->∃mr' L',ax m mr'/\mr' f=none/\m4=mr'.set f (.list L')/\L'.length+(aC t w').length<200/\ic m mr' vN' w'/\∀c,hv'= .ref c->mr' c≠none:=fun m4 hv' E4 hc'=>by
   have E24:=E3.trans E4
   refine⟨m4.del f,L++ [ae.tup [.str "ring",.tup ((zs ws).map .int)]],(E13.trans E4).less hf,dH,by exact rwl dS (rwl (dv (E24 f _ ao)) rfl),by refine rwl Km (rwl KY ?_);exact FN hLl hfew,?_,fun c' e'=>?_⟩
   ·exact((o3.ext E4).less ao).base (Er.trans Ef2)
   ·refine aq (hc' c' e':) fun h1 h2=>?_
    refine rwl (cB h1) ?_;exact h2
  obtain⟨r',rfl⟩:∃r',r=r'+1:=⟨r-1,Iu hr hfew⟩
  refine kq Ow' (hv.ext E13) o3.isT (fun fs m4 E4 hL=>?_) (fun b ws' m4 E4 hb0 hb W' Ar'=>?_)
  ·walk_at"ss"
   with_reducible refine au (hP r' rfl _ _ ?_)
   exact⟨vN',.none,w',rfl,⟨go m4 .none E4 (fun c e=>by exact ae.noConfusion e),hreach',.inl ⟨rfl,hL.noRing⟩⟩,F6 hfew hr⟩
  ·walk_at"ss"
   with_reducible refine au (hP r' rfl _ _ ?_)
   have hbf:b≠f:=fun e=>by subst e;rw[E3 b _ ao] at hb0;injection hb0
   exact⟨vN',.ref b,w',rfl,⟨go m4 (.ref b) E4 (fun c e=>by cases e;exact⟨hbf,by refine rwl hb ?_;exact fun q=>nomatch q⟩),hreach',.inr ⟨b,ws',rfl,hb,W',Ar'⟩⟩,by lia⟩
theorem kn(O:Ok t u k)(hx:0<=x/\x.toNat<k)(hn:x∉u.flatten)(hv:bH m v t)(hw:bH m w u)(h:∀f L vN u' m',ax m m'->m f=none->m' f=some (.list L)->ic m m' vN u'->nC t u x u'->Q (.tup [.ref f,vN]) m'):CN (n+5) 41 [v,w,.int x] Q X m:=by
 (refine aw rfl rfl ?_;dsimp only[ni,aK,bh,KU,Kk,Ko,Kr,KG,Nat.reduceAdd,Nat.reduceSub])
 walk_at"ss"
 refine av (aa (by decide)) fun f hf=>?_
 have Ef:=ax.set (o:= .list []) hf
 walk_at"ss"
 refine rM (by refine(?_:7<8);decide) (hw.ext Ef) O.ul (fun s hs=>sl1 (O.sl hs)) fun vN m1 E1 o1=>?_
 refine u5 (qP (AX _ (by with_unfolding_all rfl) ?_))
 have E01:=Ef.trans E1
 have hpl:=fv O
 have go:∀(m2:Mem) (hv':ae),ax m1 m2->(∀c,hv'= .ref c->c≠f/\m2 c≠none)->∃mr' L',ax m mr'/\mr' f=none/\m2=mr'.set f (.list L')/\L'.length+(aC t u).length<200/\ic m mr' vN u/\∀c,hv'= .ref c->mr' c≠none:=fun m2 hv' E2 hc'=>by
  refine⟨m2.del f,[],(E01.trans E2).less hf,dH,by exact rwl dS (rwl (dv ((E1.trans E2) f _ ao)) rfl),by refine(?_:0+_<200);exact Du hpl,((o1.ext E2).less ao).base Ef,fun c' e'=>?_⟩
  refine aq (hc' c' e':) fun h1 h2=>?_
  refine rwl (cB h1) ?_;exact h2
 refine kq O (hv.ext E01) o1.isT (fun fs m2 E2 hL=>?_) (fun b ws m2 E2 hb0 hb W Ar=>?_)
 ·exact og O hx hn hv hf ⟨go m2 .none E2 (fun c e=>by exact ae.noConfusion e),.refl _,.inl ⟨rfl,hL.noRing⟩⟩ fun L vN u' m' E h1 h2 h3=>h f L vN u' m' E hf h1 h2 h3
 ·have hbf:b≠f:=fun e=>by subst e;rw[E1 b _ ao] at hb0;injection hb0
  exact og O hx hn hv hf ⟨go m2 (.ref b) E2 (fun c e=>by cases e;exact⟨hbf,by refine rwl hb ?_;exact fun q=>nomatch q⟩),.refl _,.inr ⟨b,ws,rfl,hb,W,Ar⟩⟩ fun L vN u' m' E h1 h2 h3=>h f L vN u' m' E hf h1 h2 h3
end
section deals
variable{t u u0:List (List Int)}{k N:Nat}{x:Int}{xs:List Int}
inductive ck(t u0:List (List Int)):List Int->List (List Int)->Prop
 |nil:ck t u0 [] u0
 |more {xs:List Int} {x:Int} {u u':List (List Int)}:ck t u0 xs u->nC t u x u'->ck t u0 (xs++ [x]) u'
theorem ck.ok(O:Ok t u0 k)(D:ck t u0 xs u)(hx:∀x∈xs,0<=x/\x.toNat<k)(hn:(u0.flatten++xs).Nodup):Ok t u k/\u.flatten.Perm (u0.flatten++xs)/\(jS t u0->jS t u):=by
 induction D with
 |nil=>exact⟨O,by rw[Ll],fun b=>b⟩
 | @more xs x u u' D G ih=>
  rw[<-K7] at hn
  have hn':=KZ.mp hn
  refine cI (ih (fun y hy=>hx y (KR _ hy)) hn'.1:) fun O1 p1 b1=>?_
  have hxu:x∉u.flatten:=fun q=>hn'.2.2 x (p1.mem_iff.mp q) x (.head _) rfl
  refine cI (G.ok O1 (hx x (KO _ (.head _))) hxu:) fun O2 p2 b2=>?_
  refine⟨O2,?_,fun b=>b2 (b1 b)⟩
  refine rwb (K7 ..) ?_
  exact p2.trans (List.Perm.append_right _ p1)
noncomputable def bA (N:Nat):List (List Int):=(Kt N).map fun _=>[]
theorem gV(N:Nat):(bA N).flatten= []:=by
 rw[List.flatten_eq_nil_iff]
 intro l hl
 refine af (KL.mp hl:) fun _ _ e2r0_2=>?_
 subst e2r0_2
 rfl
theorem rP(ht:pW t=true)(hr:∀r∈t,r.length=k)(hk:k<=40):Ok t (bA t.length) k:=by
 have he:∀s∈bA t.length,s= []:=fun s hs=>by obtain⟨_,_,rfl⟩:=KL.mp hs;rfl
 refine⟨ht,hr,hk,by unfold bA;exact rwl (Ki ..) (rwl (Kz ..) rfl),fun s hs=>by refine rwl (he s hs) ?_;exact Lp _,?_,by refine rwl (gV ..) ?_;exact LH⟩
 rw[KI]
 intro s hs
 refine rwl (he s hs) ?_;rfl
theorem pO(O:Ok t (bA t.length) k):jS t (bA t.length):=fun p hp=>by
 refine cI (bL.mp hp:) fun h1 h2 h3=>?_
 refine absurd ?_ (O.envied h1 h3)
 have:=aB (t:=bA t.length) (O.len.symm▸h2)
 refine af (KL.mp this:) fun _ _ e=>?_
 exact e.symm
end deals
section
variable{Q:ae->Mem->Prop}{X:Nat->Mem->Prop}{m:Mem}{n:Nat}{t u:List (List Int)}{k N:Nat}{v:ae}{loc:aL}{x:Int}{a:Addr}
theorem yo{K k:Nat}(h:K<=k):∀x∈zs (Kt K),0<=x/\x.toNat<k:=fun x hx=>by
 refine af (KL.mp hx:) fun i hi e5r0_2=>?_
 subst e5r0_2
 have:=KS.mp hi
 exact⟨nn i,by refine(?_:i<k);walk_at"o"⟩
theorem zG(K:Nat):(zs (Kt K)).Nodup:=by
 unfold zs
 rw[List.nodup_iff_pairwise_ne,NI]
 exact List.nodup_range.imp fun h e=>h (Int.ofNat.inj e)
theorem jF(K:Nat):(zs (Kt K)).Pairwise (·<=·):=by
 unfold zs
 rw[NI]
 exact List.pairwise_lt_range.imp fun h=>by exact ET h
theorem wh(K:Nat):zs (Kt (K+1))=zs (Kt K)++ [(K:Int)]:=by refine rwl (Nw ..) (rwl (sf ..) ?_);rfl
theorem xV{K:Nat}(O:Ok t (bA N) k)(D:ck t (bA N) (zs (Kt K)) u)(hK:K<=k):Ok t u k/\u.flatten.Perm (zs (Kt K))/\(jS t (bA N)->jS t u):=by
 have:=D.ok O (yo hK) (by refine rwl (gV ..) ?_;exact zG K)
 rw[gV] at this
 exact this
theorem pD(O:Ok t (bA t.length) k)(hv:bH m v t)(h:∀v' u m',ax m m'->ic m m' v' u->ck t (bA t.length) (zs (Kt k)) u->Q v' m'):CN (n+6) 44 [v] Q X m:=by
 refine cG O.row0 fun r0 t' et hr0=>?_
 have hk:=O.k40
 (refine aw rfl rfl ?_;dsimp only[ot,aK,bh,KU,Kk,Ko,Kr,KG,Nat.reduceAdd,Nat.reduceSub])
 walk_at"ss"
 refine af (id hv:) fun xs e1 e2=>?_
 refine ar e1.seq (by refine rwl e2.length ?_;exact aa O.tl) ?_
 refine dN (fun _=>[]) (by refine rwl e2.length ?_;exact O.tl) (fun m' E=>e1.stands (e1.ext E)) (fun j x m' hx E P hP=>?_) fun vS m1 E1 o1=>?_
 ·walk_at"ss"
  exact av (aa (by decide)) fun c hc=>hP c m' .refl hc
 rw[e2.length] at o1
 walk_at"ss"
 dsimp only[ay]
 refine eG (hv.ext E1) (by decide) (x:=r0) (by refine rwl et ?_;rfl) (aa O.tl) fun y hy=>?_
 walk_at"ss"
 refine gb hy (aa (by refine rwl hr0 ?_;walk_at"o")) ?_
 refine rwl hr0 ?_
 refine aV (qW ⟨nn k,Bp hk⟩) ?_
 refine bg (fun i l m'=>∃vS y2 u,l= [some v,some vS,y2,none]/\ax m m'/\ic m m' vS u/\ck t (bA t.length) (zs (Kt i)) u) ⟨vS,none,_,rfl,E1,o1,.nil⟩ (fun i x l m' hx hI P hP=>?_) fun l m' hI=>?_
 ·refine gf hI ?_;clear hI;intro vS y2 u e8r0_3 E o D
  subst e8r0_3
  refine aq (cq hx:) fun hi e9r0_1=>?_
  subst e9r0_1
  have hi:i<k:=hi
  refine cI (xV O D (KN hi):) fun Ou hfl _=>?_
  refine aU ?_
  dsimp only[ay]
  walk_at"ss"
  refine kn (x:=(i:Int)) Ou ⟨nn i,hi⟩ (fun q=>?_) (hv.ext E) o.isT fun f L vN u' m2 E2 _ hf o2 hG=>?_
  ·refine af (KL.mp (hfl.mem_iff.mp q):) fun j hj e=>?_
   have:=KS.mp hj
   exact BG e this
  refine dG (xs:=[.ref f,vN]) rfl rfl rfl (aa (by decide:2<1000)) ?_
  walk_at"ss"
  with_reducible refine au (hP _ _ ?_)
  exact⟨trivial,vN,_,u',rfl,E.trans E2,o2.base E,by refine rwl (wh ..) ?_;exact .more D hG⟩
 ·refine gf hI ?_;clear hI;intro vS y2 u e12r0_3 E o D
  subst e12r0_3
  rw[aR] at D
  walk_at"ss"
  exact h _ _ _ E o D
theorem CS{p:Prop}{inst:Decidable p}(h:p): @decide p inst=true:=decide_eq_true h
theorem jV{u:List (List Int)}(i:Nat):(u.take i).flatten.length<=u.flatten.length:=by
 conv=>rhs;rw[<-Mj i u]
 refine rwl Mt (rwl Km ?_);exact Ej
theorem zT{α:Type}(l:List α):(l.map fun _=>true).all id=true:=by rw[List.all_map,KI];intros;rfl
theorem B6{i:Nat}{is:List Int}(hi:i<loc.length)(hv:cJ m v is)(hl:is.length<1000)(h:∀m',ax m m'->Q (.bool true) m'):
  dX .plain v (fun xs=>compLoop (cF (CN (n+1)) (b9 GS) X (.call 19 (.cons (.nm i) .nil)) (.one i) .nil loc) (stands .plain v m) xs [] (fun ys m'=>bf m' ys fun x m1=>gj .all x Q m1) m) m:=by
 refine ar hv.seq (by refine rwl (Ki ..) ?_;exact aa hl) ?_
 refine gX (g:=fun _=> .bool true) (bo.stands (k:= .plain) hv hv) (fun x hx P hP=>?_) ?_
 ·refine af (KL.mp hx:) fun z _ e13r0_2=>?_
  subst e13r0_2
  exact qP (lO (j8 (fX hi) (qk (vm hP))))
 refine av (by refine rwl (Ki ..) (rwl (Ki ..) ?_);exact aa hl) fun c hc=>?_
 refine rj (bs:=is.map fun _=>true) (by refine rwl bo.new.lst (rwl K0 (rwl K0 ?_));rfl) ?_
 refine rwl (zT ..) ?_
 exact h _ (ax.set hc)
theorem rn(O:Ok t u k){js:List Int}(hjs:js.Perm u.flatten)(hso:js.Pairwise (·<=·))(hl:u.flatten.length<64){f z:ae}(hN:t.length=N)(hf:bH m f u)(hz:cJ m z js)(h:∀m',ax m m'->Q (.bool true) m'):CN (n+2) 109 [f,.int (N:Nat),z] Q X m:=by
 (refine aw rfl rfl ?_;dsimp only[lh,aK,bh,KU,Kk,Ko,Kr,KG,Nat.reduceAdd,Nat.reduceSub])
 walk_at"ss"
 refine w3 hf ?_
 walk_at"ss"
 refine ba hf (aa O.ul) ?_
 walk_at"ss"
 refine b0 (decide_eq_false fun q=>q (by exact rwl O.len (rwl hN rfl))) ?_
 walk_at"ss"
 refine av (aa (by decide)) fun c hc=>?_
 have Ec:=ax.set (o:= .list []) hc
 walk_at"ss"
 dsimp only[ay]
 refine af (hf.ext Ec:) fun xs e1 e2=>?_
 refine ar e1.seq (by refine rwl e2.length ?_;exact aa O.ul) ?_
 refine bg (fun i l m'=>∃c y4,l= [some f,some (.int (N:Nat)),some z,some (.ref c),y4,none]/\ax (m.set c (.list [])) (m.set c (.list []))/\ax m m'/\bo m' f xs/\cn (cJ m') xs u/\m' c=some (.list ((u.take i).flatten.map .int))) ⟨c,none,rfl,.refl,Ec,e1,e2,ao⟩ (fun i x l m' hx hI P hP=>?_) fun l m' hI=>?_
 ·refine Gf hI ?_;clear hI;intro c y4 e15r0_2 _ E e1' e2' hcc
  subst e15r0_2
  refine af (e2'.get hx:) fun s hs hxs=>?_
  have hsm:=Kp hs
  have hsl:=O.sl hsm
  refine aU ?_
  dsimp only[ay]
  walk_at"ss"
  refine mn hxs ?_
  walk_at"ss"
  refine B6 (loc:=[_,_,_,_,_,_]) (by decide:5<6) hxs (sl1 hsl) fun m2 E2=>?_
  walk_at"ss"
  refine jL (hxs.ext E2) hsl fun ks hp hs'=>?_
  have hks:ks=s:=by
   refine fR hp hs' ?_
   have h:=O.share hsm
   simp only[dD,KW,decide_eq_true_eq] at h
   exact h.2
  subst hks
  refine av (by refine rwl (Ki ..) ?_;exact aa (sl1 hsl)) fun d hd=>?_
  have Ed:=ax.set (o:= .list (ks.map .int)) hd
  refine jw (a:=ks) (b:=ks) (hxs.ext (E2.trans Ed)) bo.new ?_
  refine rwl (decide_eq_false fun q=>q rfl:decide (ks≠ks)=false) ?_
  walk_at"ss"
  have E3:=E2.trans Ed
  refine af hxs ?_;clear hxs;intro b e17r0_1 hb
  subst e17r0_1
  refine bZ (xs:=(u.take i).flatten.map .int) (ys:=ks.map .int) (bo.lst ⟨c,rfl,E3 c _ hcc⟩) (bo.lst ⟨b,rfl,E3 b _ hb⟩) ?_
  have hflat:(u.take i).flatten.map ae.int++ks.map .int=(u.take (i+1)).flatten.map .int:=by
   refine rwl Lb (rwl hs (rwl Mt (rwl KT ?_)))
   simp
  refine rwl hflat ?_
  refine av (by refine rwl (Ki ..) ?_;exact aa (Kj (jV (i+1)) (by walk_at"o"))) fun d2 ti=>?_
  have E4:=E3.trans (ax.set (o:= .list ((u.take (i+1)).flatten.map .int)) ti)
  walk_at"ss"
  with_reducible refine au (hP _ _ ?_)
  exact⟨e1.stands (e1'.ext E4),d2,_,rfl,.refl,E.trans E4,e1'.ext E4,e2'.mono fun _ _ q=>q.ext E4,ao⟩
 ·refine Gf hI ?_;clear hI;intro c y4 e18r0_2 _ E e1' e2' hcc
  subst e18r0_2
  rw[e2.length,K9] at hcc
  walk_at"ss"
  refine jL (is:=u.flatten) ⟨c,rfl,hcc⟩ hl fun ks hp hs'=>?_
  have hks:ks=js:=fR (hp.trans hjs.symm) hs' hso
  subst hks
  refine av (by refine rwl (Ki ..) (rwl (hp.length_eq ..) ?_);exact aa (sl1 hl)) fun d hd=>?_
  have Ed:=ax.set (o:= .list (ks.map .int)) hd
  walk_at"ss"
  refine nT (a:=ks) (b:=ks) bo.new (hz.ext (E.trans Ed)) ?_
  refine rwl (CS rfl) ?_
  walk_at"ss"
  exact h _ (E.trans Ed)
end
section peels
variable{ps:List (Nat×Nat)}{N:Nat}{left:List Nat}
noncomputable def bO (ps:List (Nat×Nat)) (left:List Nat):List Nat:=(ps.filter fun p=>decide (p.1∈left)).map (·.2)
noncomputable def AZ (ps:List (Nat×Nat)) (left:List Nat):List Nat:=left.filter fun x=>decide (x∈bO ps left)
noncomputable def jX (ps:List (Nat×Nat)):Nat->List Nat->List Nat
 |0,left=>left
 |n+1,left=>AZ ps (jX ps n left)
theorem sW{x:Nat}:x∈bO ps left↔∃y∈left,(y,x)∈ps:=by
 unfold bO
 simp only[KL,K5,decide_eq_true_eq]
 constructor
 ·rintro ⟨⟨a,b⟩,⟨h1,h2⟩,rfl⟩;exact⟨a,h2,h1⟩
 ·rintro ⟨y,h1,h2⟩;exact⟨(y,x),⟨h2,h1⟩,rfl⟩
theorem wF(R:Rp ps N)(h:cY ps N)(hlt:∀y∈left,y<N)(hnd:left.Nodup):(AZ ps left).length<=left.length-1:=by
 by_cases q:left= []
 ·subst q;exact Lp _
 have ex:∃x∈left,¬decide (x∈bO ps left)=true:=by
  refine Classical.byContradiction fun hn=>?_
  have K:pf ps left:=⟨q,fun x hx=>sW.mp (of_decide_eq_true (Classical.byContradiction fun h'=>hn ⟨x,hx,h'⟩))⟩
  refine af (K.ring R hlt hnd:) fun ws W A=>?_
  exact h ws W A
 have:=List.length_filter_lt_length_iff_exists.mpr ex
 unfold AZ
 exact JL this
theorem gn(hlt:∀y∈left,y<N)(hnd:left.Nodup):∀n,(∀y∈jX ps n left,y<N)/\(jX ps n left).Nodup
 |0=>⟨hlt,hnd⟩
 |n+1=>⟨fun y hy=>(gn hlt hnd n).1 y (K5.mp hy).1,(gn hlt hnd n).2.filter _⟩
theorem j5(R:Rp ps N)(h:cY ps N)(hlt:∀y∈left,y<N)(hnd:left.Nodup):∀n,(jX ps n left).length<=left.length-n
 |0=>Lk _
 |n+1=>by
  have h1:=j5 R h hlt hnd n
  have h2:=wF R h (gn (ps:=ps) hlt hnd n).1 (gn (ps:=ps) hlt hnd n).2
  refine(?_:(AZ ps (jX ps n left)).length<=_)
  exact Kh h1 h2
theorem wB(R:Rp ps N)(h:cY ps N):jX ps N (Kt N)= []:=by
 have:=j5 R h (left:=Kt N) (fun y hy=>KS.mp hy) Mw N
 rw[Kz,Mq] at this
 exact List.eq_nil_of_length_eq_zero (Nat.le_zero.mp this)
noncomputable def lA (ps:List (Nat×Nat)) (N:Nat):List Nat:=(Kt N).filter fun j=>!decide (j∈ps.map (·.2))
theorem pN{j:Nat}(F:pd ps N j):(lA ps N)[0]? =some j:=by
 refine rwb (List.head?_eq_getElem?) ?_
 unfold lA
 rw[List.head?_filter,List.find?_range_eq_some]
 refine⟨?_,KS.mpr F.lt,fun j' hj'=>?_⟩
 ·rw[decide_eq_false fun q=>?_]
  ·rfl
  ·refine af (KL.mp q:) fun p hp e=>?_
   exact F.no p.1 (e▸hp)
 ·refine aO (F.least j' hj':) fun i hi=>?_
  refine rwl (decide_eq_true (KL.mpr ⟨(i,j'),hi,rfl⟩)) ?_
  rfl
end peels
section
variable{C:bb}{G:String->Option ae}{Q:ae->Mem->Prop}{X:Nat->Mem->Prop}{m:Mem}{n:Nat}{t u:List (List Int)}{k N:Nat}{v w:ae}{loc:aL}{x:Int}{ps:List (Nat×Nat)}{a:Addr}
theorem ke{elt ct:Ex}{i j:Nat}{ok:Mem->Prop}{Q':List ae->Mem->Prop}{g:Nat×Nat->ae}{c:Nat×Nat->Bool}(hok:ok m)
  (hcond:∀p∈ps,∀P:ae->Mem->Prop,P (.bool (c p)) m->bk C G X ct (ay (ay loc i (.int p.1)) j (.int p.2)) P m) (helt:∀p∈ps,∀P:ae->Mem->Prop,P (g p) m->bk C G X elt (ay (ay loc i (.int p.1)) j (.int p.2)) P m)
  (h:Q' ((ps.filter c).map g) m):compLoop (cF C G X elt (.two i j) (.cons ct .nil) loc) ok (ps.map fp) [] Q' m:=by
 refine dq (fun k acc m'=>m'=m/\acc=((ps.take k).filter c).map g) ⟨rfl,by simp⟩ (fun k x acc m' hx hI P hP=>?_) fun acc m' hI=>?_
 ·refine aq hI ?_;clear hI;intro e3r0_0 e3r0_1
  subst e3r0_0
  subst e3r0_1
  rw[KH] at hx
  refine af (KD.mp hx:) fun p hp e4r0_2=>?_
  subst e4r0_2
  have hm:=Kp hp
  refine KF _ ⟨KF (.int p.1) ⟨.int p.2,rfl,rfl⟩,eY (hcond p hm _ (cH (dR (bt (fun e=>?_) fun e=>?_))))⟩
  ·refine helt p hm _ (hP _ _ ⟨hok,rfl,?_⟩)
   refine rwl Lb (rwl hp ?_);simp [e]
  ·refine hP _ _ ⟨hok,rfl,?_⟩
   refine rwl Lb (rwl hp ?_);simp [e]
 ·refine aq hI ?_;clear hI;intro e5r0_0 e5r0_1
  subst e5r0_0
  subst e5r0_1
  refine rwl (Ki ..) (rwl (K9 ..) ?_);exact h
theorem mh{elt:Ex}{i j:Nat}{ok:Mem->Prop}{Q':List ae->Mem->Prop}{g:Nat×Nat->ae}(hok:ok m)
  (helt:∀p∈ps,∀P:ae->Mem->Prop,P (g p) m->bk C G X elt (ay (ay loc i (.int p.1)) j (.int p.2)) P m)
  (h:Q' (ps.map g) m):compLoop (cF C G X elt (.two i j) .nil loc) ok (ps.map fp) [] Q' m:=by
 refine dq (fun k acc m'=>m'=m/\acc=(ps.take k).map g) ⟨rfl,by simp⟩ (fun k x acc m' hx hI P hP=>?_) fun acc m' hI=>?_
 ·refine aq hI ?_;clear hI;intro e6r0_0 e6r0_1
  subst e6r0_0
  subst e6r0_1
  rw[KH] at hx
  refine af (KD.mp hx:) fun p hp e7r0_2=>?_
  subst e7r0_2
  refine KF _ ⟨KF (.int p.1) ⟨.int p.2,rfl,rfl⟩,fj (helt p (Kp hp) _ (hP _ _ ⟨hok,rfl,?_⟩))⟩
  refine rwl Lb (rwl hp ?_);simp
 ·refine aq hI ?_;clear hI;intro e8r0_0 e8r0_1
  subst e8r0_0
  subst e8r0_1
  refine rwl (Ki ..) (rwl (K9 ..) ?_);exact h
theorem lC(l:List Nat)(c:Nat->Bool)(c':ae->Bool)(h:∀x∈l,c' (.int (x:Nat))=c x):KU (fun y=>y) (Nb c' ((zs l).map .int))=(zs (l.filter c)).map .int:=by
 unfold zs
 refine rwl (NN ..) (rwl (K0 ..) (rwl (K0 ..) (rwl (MX ..) ?_)))
 congr 1
 exact MF fun x hx=>h x hx
theorem lp(l:List Nat)(c:Nat->Bool):(l.filter c).length<=l.length:=Lh _ _
theorem pA(O:Ok t u k)(hno:cY (aC t u) t.length)(hv:bH m v t)(hw:bH m w u)(h:∀m',ax m m'->Q (.bool false) m'):CN (n+3) 90 [v,w] Q X m:=by
 have h8:=O.t8
 (refine aw rfl rfl ?_;dsimp only[kv,aK,bh,KU,Kk,Ko,Kr,KG,Nat.reduceAdd,Nat.reduceSub])
 walk_at"ss"
 refine eE O hv hw fun a m1 E1 ha=>?_
 walk_at"ss"
 refine ba (hv.ext E1) (aa O.tl) ?_
 refine dC (gI h8) ?_
 refine rwl (dK ..) ?_
 refine av (by refine rwl (Ki ..) (rwl (aT ..) (rwl (Kz ..) ?_));exact aa O.tl) fun c hc=>?_
 have E2:=E1.trans (ax.set (o:= .list ((zs (Kt t.length)).map .int)) hc)
 walk_at"ss"
 dsimp only[ay]
 refine ba (hv.ext E2) (aa O.tl) ?_
 refine aV (gI h8) ?_
 refine bg (fun i l m'=>∃c y4 y5,l= [some v,some w,some (.ref a),some (.ref c),y4,y5,none,none,none]/\ax m m'/\m' a=some (.list ((aC t u).map fp))/\m' c=some (.list ((zs (jX (aC t u) i (Kt t.length))).map .int)))
  ⟨c,none,none,rfl,E2,ax.set hc a _ ha,ao⟩ (fun i x l m' hx hI P hP=>?_) fun l m' hI=>?_
 ·refine gf hI ?_;clear hI;intro c y4 y5 e9r0_3 E ha' hc'
  subst e9r0_3
  have hpl:=fv O
  have hll:(jX (aC t u) i (Kt t.length)).length<=8:=by
   have:=j5 fq hno (left:=Kt t.length) (fun y hy=>KS.mp hy) Mw i
   rw[Kz] at this
   exact Jp h8 this
  generalize hle:jX (aC t u) i (Kt t.length)=left at hc' hll
  have hcI:cJ m' (.ref c) (zs left):=⟨c,rfl,hc'⟩
  refine aU ?_
  dsimp only[ay]
  walk_at"ss"
  refine ar (bo.seq ⟨a,rfl,ha'⟩) (g9 O) ?_
  refine ke (g:=fun p=> .int (p.2:Nat)) (c:=fun p=>decide (p.1∈left)) rfl (fun p hp P hP=>?_) (fun p hp P hP=>?_) ?_
  ·walk_at"ss"
   refine en hcI ?_
   walk_at"ss"
   have e:decide ((p.1:Int)∈zs left)=decide (p.1∈left):=by
    by_cases q:p.1∈left
    ·exact rwl (decide_eq_true q) (rwl (decide_eq_true (eP.mpr q)) rfl)
    ·exact rwl (decide_eq_false q) (rwl (decide_eq_false fun q'=>q (eP.mp q')) rfl)
   refine rwl e ?_
   exact hP
  ·walk_at"ss"
   exact hP
  rw[show (KU (fun p:Nat×Nat=>ae.int (p.2:Nat)) ((aC t u).filter fun p=>decide (p.1∈left)))=(zs (bO (aC t u) left)).map .int by unfold zs bO;refine rwl K0 (rwl K0 ?_);rfl]
  refine av (by refine rwl (Ki ..) (rwl (aT ..) ?_);unfold bO;refine rwl (Ki ..) ?_;exact aa (Kj (Lh _ _) (by walk_at"o"))) fun d hd=>?_
  have Ed:=ax.set (o:= .list ((zs (bO (aC t u) left)).map .int)) hd
  walk_at"ss"
  dsimp only[ay]
  refine ar (hcI.ext Ed).seq (by refine rwl (Ki ..) (rwl (aT ..) ?_);exact aa (by walk_at"o")) ?_
  refine cS (g:=fun y=>y) (c:=fun y=>match y with| .int y=>decide (y∈zs (bO (aC t u) left))|_=>false) (bo.stands (k:= .plain) (hcI.ext Ed) (hcI.ext Ed)) (fun y hy P hP=>?_) (fun y hy P hP=>?_) ?_
  ·refine af (KL.mp hy:) fun y _ e10r0_2=>?_
   subst e10r0_2
   walk_at"ss"
   refine en (is:=zs (bO (aC t u) left)) bo.new ?_
   exact hP
  ·refine af (KL.mp hy:) fun y _ e11r0_2=>?_
   subst e11r0_2
   walk_at"ss"
   exact hP
  rw[lC left (fun x=>decide (x∈bO (aC t u) left)) _ fun x hx=>by
   refine(?_:decide (((x:Nat):Int)∈zs _)=_)
   by_cases q:x∈bO (aC t u) left
   ·exact rwl (decide_eq_true q) (rwl (decide_eq_true (eP.mpr q)) rfl)
   ·exact rwl (decide_eq_false q) (rwl (decide_eq_false fun q'=>q (eP.mp q')) rfl)]
  refine av (by refine rwl (Ki ..) (rwl (aT ..) ?_);exact aa (Kj (lp _ _) (by walk_at"o"))) fun e he=>?_
  have Ee:=Ed.trans (ax.set (o:= .list ((zs (left.filter fun x=>decide (x∈bO (aC t u) left))).map .int)) he)
  walk_at"ss"
  with_reducible refine au (hP _ _ ?_)
  exact⟨trivial,e,_,_,rfl,E.trans Ee,Ee a _ ha',by rw[show jX (aC t u) (i+1) (Kt t.length)=left.filter fun x=>decide (x∈bO (aC t u) left) by refine rwb hle ?_;rfl];exact ao⟩
 ·refine gf hI ?_;clear hI;intro c y4 y5 e12r0_3 E ha' hc'
  subst e12r0_3
  rw[aR,show ((t.length:Nat):Int).toNat=t.length from rfl,wB fq hno] at hc'
  walk_at"ss"
  refine av (aa (by decide)) fun d hd=>?_
  refine jw (a:=[]) (b:=[]) ⟨c,rfl,ax.set hd c _ hc'⟩ bo.new ?_
  refine rwl (decide_eq_false fun q=>q rfl:decide (([]:List Int)≠ [])=false) ?_
  walk_at"ss"
  exact h _ (E.trans (ax.set hd))
theorem frees{i:Nat}(hi:i<loc.length){jx:Nat}(hj:bS (ay loc i (.int 0)) jx≠none){b:Addr}(hb:m b=some (.list ((zs (ps.map (·.2))).map .int)))(hN:N<=8)(hgv:∀x,bS (ay loc i x) jx=some (.ref b))
  (h:∀c m',ax m m'->m' c=some (.list ((zs (lA ps N)).map .int))->Q (.ref c) m'):
  dX .range (.int (N:Nat)) (fun xs=>compLoop (cF C G X (.nm i) (.one i) (.cons (.cmp .notin (.nm i) (.nm jx)) .nil) loc) (stands .range (.int (N:Nat)) m) xs [] (fun ys m'=>bf m' ys Q) m) m:=by
 refine aV (gI hN) ?_
 refine rwl (dK ..) ?_
 refine cS (g:=fun y=>y) (c:=fun y=>match y with| .int y=>!decide (y∈zs (ps.map (·.2)))|_=>false) trivial (fun y hy P hP=>?_) (fun y hy P hP=>?_) ?_
 ·refine af (KL.mp hy:) fun y _ e13r0_2=>?_
  subst e13r0_2
  exact mF (j8 (fX hi) (j8 (hgv _) (iE ⟨b,rfl,hb⟩ hP)))
 ·refine af (KL.mp hy:) fun y _ e14r0_2=>?_
  subst e14r0_2
  exact j8 (fX hi) hP
 rw[lC (Kt N) (fun j=>!decide (j∈ps.map (·.2))) _ fun x hx=>by
  refine(?_:(!decide (((x:Nat):Int)∈zs _))=_)
  by_cases q:x∈ps.map (·.2)
  ·exact rwl (decide_eq_true q) (rwl (decide_eq_true (eP.mpr q)) rfl)
  ·exact rwl (decide_eq_false q) (rwl (decide_eq_false fun q'=>q (eP.mp q')) rfl)]
 refine av (by refine rwl (Ki ..) (rwl (aT ..) ?_);exact aa (Kj (lp _ _) (by refine rwl Kz ?_;walk_at"o"))) fun c hc=>?_
 exact h c _ (ax.set hc) ao
end
section
variable{Q:ae->Mem->Prop}{X:Nat->Mem->Prop}{m:Mem}{n:Nat}{t u w:List (List Int)}{k N:Nat}{v vF:ae}{loc:aL}{x:Int}{ps:List (Nat×Nat)}{a:Addr}
theorem iX.back(O:Ok t w k)(hn:x∉w.flatten)(g:iX t w x u):(Kt u.length).map (fun j=>(u.getD j []).filter fun y=>decide (y≠x))=w:=by
 obtain⟨j,F,s,hs,hso,rfl⟩:=g
 have hjw:j<w.length:=by refine rwl O.len ?_;exact F.lt
 refine Nc fun i=>?_
 refine rwl (KH) ?_
 by_cases hi:i<w.length
 ·rw[Ms (by refine rwl MC ?_;exact hi),eO hi]
  refine(?_:some _=some _)
  congr 1
  have hnx:∀l,l<w.length->x∉w.getD l []:=fun l hl q=>hn (List.mem_flatten.mpr ⟨_,aB hl,q⟩)
  refine(?_:((w.set j s).getD i []).filter (fun y=>decide (y≠x))=_)
  refine rwl (jj hjw) ?_
  by_cases e:j=i
  ·subst e
   refine rwl (if_pos rfl) ?_
   have h1:(s.filter fun y=>decide (y≠x)).Perm (w.getD j []):=by
    refine(hs.filter _).trans ?_
    rw[MY,show ([x].filter fun y=>decide (y≠x))= [] by simp,Ll,Nz.mpr fun y hy=>by simp;rintro rfl;exact hnx j hjw hy]
   have h2:=O.share (aB hjw)
   simp only[dD,KW,decide_eq_true_eq] at h2
   exact fR h1 (hso.filter _) h2.2
  ·exact rwl (if_neg e) (rwl (Nz.mpr fun y hy=>by simp;rintro rfl;exact hnx i hi hy) rfl)
 ·rw[Lu (by refine rwl Kz (rwl MC ?_);exact AP hi),Lu (by lia)];rfl
theorem l9(l:List Int)(c:Int->Bool)(c':ae->Bool)(h:∀x∈l,c' (.int x)=c x):KU (fun y=>y) (Nb c' (l.map .int))=(l.filter c).map .int:=by
 refine rwl (NN ..) (rwl (MX ..) ?_)
 congr 1
 exact MF fun x hx=>h x hx
theorem pd.len{j:Nat}(F:pd ps N j)(h8:N<=8):(zs (lA ps N)).length<br:=by
 refine rwl aT ?_
 exact aa (Kj (lp _ _) (by refine rwl Kz ?_;walk_at"o"))
theorem mL(Ow:Ok t w k)(O:Ok t u k)(hn:x∉w.flatten)(hno:cY (aC t w) t.length)(g:iX t w x u)(hv:bH m v t)(hF:bH m vF u)(h:∀m',ax m m'->Q (.bool true) m'):CN (n+4) 91 [v,vF,.int x] Q X m:=by
 have h8:=O.t8
 (refine aw rfl rfl ?_;dsimp only[jk,aK,bh,KU,Kk,Ko,Kr,KG,Nat.reduceAdd,Nat.reduceSub])
 walk_at"ss"
 refine af (id hF:) fun xs e1 e2=>?_
 refine ar e1.seq (by refine rwl e2.length ?_;exact aa O.ul) ?_
 refine dN (fun j=>(u.getD j []).filter fun y=>decide (y≠x)) (by refine rwl e2.length ?_;exact O.ul) (fun m' E=>e1.stands (e1.ext E)) (fun j y m' hy E P hP=>?_) fun vA m1 E1 oA=>?_
 ·refine af (e2.get hy:) fun s hs hys=>?_
  have hsl:=O.sl (Kp hs)
  have hjs:u.getD j []=s:=by refine rwl (Ku) (rwl hs ?_);rfl
  replace hys:=hys.ext E
  walk_at"ss"
  refine ar hys.seq (by refine rwl (Ki ..) ?_;exact aa (sl1 hsl)) ?_
  refine cS (g:=fun y=>y) (c:=fun y=>match y with| .int y=>decide (y≠x)|_=>false) (bo.stands (k:= .plain) hys hys) (fun y hy P hP=>?_) (fun y hy P hP=>?_) ?_
  ·refine af (KL.mp hy:) fun y _ e3r0_2=>?_
   subst e3r0_2
   walk_at"ss"
   exact hP
  ·refine af (KL.mp hy:) fun y _ e4r0_2=>?_
   subst e4r0_2
   walk_at"ss"
   exact hP
  refine rwl (l9 s (fun y=>decide (y≠x)) _ fun y _=>rfl) ?_
  refine av (by refine rwl (Ki ..) ?_;exact aa (Kj (Lh _ _) (sl1 hsl))) fun c hc=>?_
  have:=hP c m' .refl hc
  rw[hjs] at this
  exact this
 rw[e2.length,g.back Ow hn] at oA
 walk_at"ss"
 try dsimp only[ay]
 have hA:=oA.isT
 refine eE Ow (hv.ext E1) hA fun a m2 E2 ha=>?_
 refine ar (bo.seq ⟨a,rfl,ha⟩) (g9 Ow) ?_
 refine mh (g:=fun p=> .int (p.2:Nat)) rfl (fun p hp P hP=>?_) ?_
 ·walk_at"ss"
  exact hP
 rw[show (aC t w).map (fun p:Nat×Nat=>ae.int (p.2:Nat))=(zs ((aC t w).map (·.2))).map .int by unfold zs;refine rwl K0 (rwl K0 ?_);rfl]
 have hpl:=fv Ow
 refine av (by refine rwl (Ki ..) (rwl (aT ..) (rwl (Ki ..) ?_));exact aa (by walk_at"o")) fun b hb=>?_
 have E3:=E1.trans (E2.trans (ax.set (o:= .list ((zs ((aC t w).map (·.2))).map .int)) hb))
 have hb3:(m2.set b (.list ((zs ((aC t w).map (·.2))).map .int))) b=some (.list ((zs ((aC t w).map (·.2))).map .int)):=ao
 have hA3:=hA.ext (E2.trans (ax.set (o:= .list ((zs ((aC t w).map (·.2))).map .int)) hb))
 generalize m2.set b (.list ((zs ((aC t w).map (·.2))).map .int))=m3 at E3 hb3 hA3
 walk_at"ss"
 try dsimp only[ay]
 refine ba (hv.ext E3) (aa O.tl) ?_
 refine frees (loc:=[_,_,_,_,some (.ref b),_,_,_,_,_,_]) (by decide:10<11) (fun q=>nomatch q) hb3 h8 (fun _=>rfl) fun c m4 E4 hc=>?_
 walk_at"ss"
 try dsimp only[ay]
 have E5:=E3.trans E4
 refine pA Ow hno (hv.ext E5) (hA3.ext E4) fun m6 E6=>?_
 walk_at"ss"
 have E7:=E5.trans E6
 obtain⟨j,F,s,hs,hso,rfl⟩:=g
 have hjw:j<w.length:=by refine rwl Ow.len ?_;exact F.lt
 refine cz (is:=zs (lA (aC t w) t.length)) ⟨c,rfl,E6 c _ hc⟩ (by decide) (i4 (pN F)) (F.len h8) ?_
 refine eG (hF.ext E7) (nn j) (x:=s) (by exact rwl (rfl:((j:Nat):Int).toNat=j) (rwl (M7 hjw) rfl)) (aa O.ul) fun y hy=>?_
 refine en hy ?_
 refine rwl (decide_eq_true (hs.mem_iff.mpr (KO _ (.head _)))) ?_
 walk_at"ss"
 exact h _ E7
theorem sM(O:Ok t u k)(hk:k<=40)(hno:cY (aC t u) t.length)(hv:bH m v t)(hF:bH m vF u)(h:∀v' u' m',ax m m'->ic m m' v' u'->iX t u x u'->Q v' m'):CN (n+3) 97 [v,vF,.int x] Q X m:=by
 have h8:=O.t8
 have hpl:=fv O
 (refine aw rfl rfl ?_;dsimp only[pJ,aK,bh,KU,Kk,Ko,Kr,KG,Nat.reduceAdd,Nat.reduceSub])
 walk_at"ss"
 refine eE O hv hF fun a m2 E2 ha=>?_
 refine ar (bo.seq ⟨a,rfl,ha⟩) (g9 O) ?_
 refine mh (g:=fun p=> .int (p.2:Nat)) rfl (fun p hp P hP=>?_) ?_
 ·walk_at"ss"
  exact hP
 rw[show (aC t u).map (fun p:Nat×Nat=>ae.int (p.2:Nat))=(zs ((aC t u).map (·.2))).map .int by unfold zs;refine rwl K0 (rwl K0 ?_);rfl]
 refine av (by refine rwl (Ki ..) (rwl (aT ..) (rwl (Ki ..) ?_));exact aa (by walk_at"o")) fun b hb=>?_
 have E3:=E2.trans (ax.set (o:= .list ((zs ((aC t u).map (·.2))).map .int)) hb)
 have hb3:(m2.set b (.list ((zs ((aC t u).map (·.2))).map .int))) b=some (.list ((zs ((aC t u).map (·.2))).map .int)):=ao
 generalize m2.set b (.list ((zs ((aC t u).map (·.2))).map .int))=m3 at E3 hb3
 walk_at"ss"
 try dsimp only[ay]
 refine ba (hv.ext E3) (aa O.tl) ?_
 refine frees (loc:=[_,_,_,some (.ref b),_,_,_,_]) (by decide:7<8) (fun q=>nomatch q) hb3 h8 (fun _=>rfl) fun c m4 E4 hc=>?_
 walk_at"ss"
 obtain⟨j,F⟩:=hno.free fq (by obtain⟨r,t',e,_⟩:=O.row0;refine rwl e ?_;exact Mi _)
 refine cz (is:=zs (lA (aC t u) t.length)) ⟨c,rfl,hc⟩ (by decide) (i4 (pN F)) (F.len h8) ?_
 walk_at"ss"
 try dsimp only[ay]
 have E5:=E3.trans E4
 have hju:j<u.length:=by refine rwl O.len ?_;exact F.lt
 refine gY (hF.ext E5) O.ul (fun s hs=>sl1 (O.sl hs)) fun vN m6 E6 o6=>?_
 walk_at"ss"
 try dsimp only[ay]
 refine eG o6.isT (nn j) (eO hju) (aa O.ul) fun y hy=>?_
 walk_at"ss"
 refine av (aa (by decide:1<1000)) fun d hd=>?_
 have Ed:=ax.set (o:= .list [ae.int x]) hd
 refine af hy ?_;clear hy;intro b' e6r0_1 hb'
 subst e6r0_1
 refine bZ (xs:=(u.getD j []).map .int) (ys:=[.int x]) (bo.lst ⟨b',rfl,Ed b' _ hb'⟩) (bo.lst ⟨d,rfl,ao⟩) ?_
 rw[show (u.getD j []).map ae.int++ [.int x]=(u.getD j []++ [x]).map .int by refine rwl KT ?_;rfl]
 have hkw:(u.getD j []++ [x]).length<64:=by
  refine rwl Km (rwl KY ?_)
  have h1:=O.fit _ (aB hju)
  exact Fx hk h1
 refine av (by refine rwl (Ki ..) ?_;exact aa (sl1 hkw)) fun d2 ti=>?_
 have Ed2:=Ed.trans (ax.set (o:= .list ((u.getD j []++ [x]).map .int)) ti)
 refine jL (is:=u.getD j []++ [x]) bo.new hkw fun js hp hs=>?_
 refine av (by refine rwl (Ki ..) (rwl (hp.length_eq ..) ?_);exact aa (sl1 hkw)) fun e he=>?_
 walk_at"ss"
 refine(o6.ext Ed2).relist (E6.trans Ed2) hju O.ul he fun m7 E7 o7 _=>?_
 walk_at"ss"
 exact h _ _ _ (E5.trans E7) (o7.base E5) ⟨j,F,js,hp,hs,rfl⟩
end
section ways
variable{ps:List (Nat×Nat)}{N:Nat}{left w cs:List Nat}{S F:List (List Nat)}
structure kU(ps:List (Nat×Nat))(N:Nat)(cs:List Nat):Prop where
 way:eB cs N
 around:Around ps cs
 least:∀x∈cs,rg cs 0<=x
noncomputable def Holds (ps:List (Nat×Nat)) (N:Nat) (left:List Nat):Prop:=∀ws,eB ws N->Around ps ws->∀x∈ws,x∈left
noncomputable def dg (ps:List (Nat×Nat)) (left:List Nat):List Nat:=(ps.filter fun p=>decide (p.2∈left)).map (·.1)
theorem wW{x:Nat}:x∈dg ps left↔∃y∈left,(x,y)∈ps:=by
 unfold dg
 simp only[KL,K5,decide_eq_true_eq]
 constructor
 ·rintro ⟨⟨a,b⟩,⟨h1,h2⟩,rfl⟩;exact⟨b,h2,h1⟩
 ·rintro ⟨y,h1,h2⟩;exact⟨(x,y),⟨h2,h1⟩,rfl⟩
noncomputable def cored (ps:List (Nat×Nat)) (left:List Nat):List Nat:=left.filter fun x=>decide (x∈bO ps left)&&decide (x∈dg ps left)
theorem Holds.cored(h:Holds ps N left):Holds ps N (cored ps left):=fun ws W A x hx=>by
 have hl:=h ws W A
 refine aq (k6 W hx:) fun e hlt=>?_
 have h2:=W.two
 refine K5.mpr ⟨hl x hx,?_⟩
 refine rwl (KW ..) (rwl (decide_eq_true_eq ..) (rwl (decide_eq_true_eq ..) ?_))
 constructor
 ·have:=A (ws.idxOf x+(ws.length-1))
  rw[show ws.idxOf x+(ws.length-1)+1=ws.idxOf x+ws.length by exact Iw h2,fV (ws.idxOf x+ws.length) (ws.idxOf x) (L1 ..),e] at this
  exact sW.mpr ⟨_,hl _ (eS W _),this⟩
 ·have:=A (ws.idxOf x)
  rw[e] at this
  exact wW.mpr ⟨_,hl _ (eS W _),this⟩
structure tX(ps:List (Nat×Nat))(N:Nat)(w:List Nat):Prop where
 ne:w≠ []
 nd:w.Nodup
 lt:∀x∈w,x<N
 link:∀i x y,w[i]? =some x->w[i+1]? =some y->(x,y)∈ps
noncomputable def dt (w:List Nat):Nat:=w.getD (w.length-1) 0
noncomputable def cx (w:List Nat):Nat:=w.getD 0 0
theorem tX.first(P:tX ps N w):w[0]? =some (cx w):=by
 have h:0<w.length:=L2.mpr P.ne
 unfold cx;refine rwl (Ku) (rwl (KA h) ?_);rfl
theorem tX.last(P:tX ps N w):w[w.length-1]? =some (dt w):=by
 have h:0<w.length:=L2.mpr P.ne
 unfold dt;rw[Ku,KA (HO h)];rfl
theorem tX.len(P:tX ps N w):w.length<=N:=by
 have:=cA P.nd (l':=Kt N) fun x hx=>KS.mpr (P.lt x hx)
 rw[Kz] at this
 exact this
theorem tX.next(P:tX ps N w){y:Nat}(hp:(dt w,y)∈ps)(hy:y<N)(hn:y∉w):tX ps N (w++ [y]):=by
 refine⟨(fun e=>by have:=congrArg KG e;rw[Km] at this;exact Nat.noConfusion this),?_,fun x hx=>?_,fun i a b h1 h2=>?_⟩
 ·rw[KZ]
  refine⟨P.nd,KQ.mpr ⟨by simp,LH⟩,fun a ha b hb e=>?_⟩
  rw[Kq.mp hb] at e
  exact hn (e▸ha)
 ·rcases KM.mp hx with q|q
  ·exact P.lt x q
  ·refine rwl (Kq.mp q) ?_;exact hy
 ·have hl:i+1<(w++ [y]).length:=(Kn.mp h2).1
  rw[Km,KY] at hl
  rw[K8 (by with_reducible solve_by_elim (maxDepth:=3) only[*,Kj,Ks,Kl,KN,K6,Ls])] at h1
  by_cases q:i+1<w.length
  ·rw[K8 q] at h2
   exact P.link i a b h1 h2
  ·have e:i+1=w.length:=EX hl q
   rw[e,Lq (Lk _),Mq] at h2
   (injection h2 with h2;cases h2)
   have:=P.last
   rw[show w.length-1=i by exact JZ e,h1] at this
   refine rwl (Option.some.inj this) ?_;exact hp
theorem tX.ring(R:Rp ps N)(P:tX ps N w)(hp:(dt w,cx w)∈ps):eB w N/\Around ps w:=by
 have hpos:0<w.length:=L2.mpr P.ne
 have h2:2<=w.length:=by
  refine Nat.lt_of_not_le fun q=>?_
  have e:w.length=1:=DE hpos q
  have h1:=P.first
  have h3:=P.last
  rw[e] at h3
  rw[h1] at h3
  exact R.irr _ hp (Option.some.inj h3).symm
 have W:eB w N:=⟨h2,P.nd,P.lt⟩
 refine⟨W,fun i=>?_⟩
 have g1:=fG W i
 have g2:=fG W (i+1)
 have hm:=Nt i hpos
 by_cases q:i%w.length+1<w.length
 ·have e:(i+1)%w.length=i%w.length+1:=by
   exact rwl (Me ..) (rwl (Lf h2 ..) (rwl (Lf q ..) rfl))
  rw[e] at g2
  exact P.link _ _ _ g1 g2
 ·have e1:i%w.length=w.length-1:=I1 hm q
  have e:(i+1)%w.length=0:=by
   exact rwl (Me ..) (rwl (e1 ..) (rwl (Lf h2 ..) (rwl (by exact FD hm:w.length-1+1=w.length) (rwl (NB ..) rfl))))
  rw[e,P.first] at g2
  rw[e1,P.last] at g1
  refine rwb (Option.some.inj g1) (rwb (Option.some.inj g2) ?_)
  exact hp
noncomputable def x4 (S F:List (List Nat)) (cs:List Nat):Prop:=cs∈F\/∃i,0<i/\i<=cs.length/\cs.take i∈S
noncomputable def jO (w:List Nat) (p:Nat×Nat):List (List Nat):=if p.1=dt w/\p.2=cx w then [w] else []
noncomputable def iV (w:List Nat) (p:Nat×Nat):List (List Nat):=if p.1=dt w/\p.2>cx w/\p.2∉w then [w++ [p.2]] else []
theorem xE{i:Nat}(h0:0<i)(hi:i<=cs.length):dt (cs.take i)=cs.getD (i-1) 0:=by
 unfold dt
 exact rwl Le (rwl (LQ hi) (rwl (Ku) (rwl (L7 (HO h0)) (rwl (Ku) rfl))))
theorem n5{i:Nat}(h0:0<i):cx (cs.take i)=cs.getD 0 0:=by
 unfold cx
 exact rwl (Ku) (rwl (L7 h0) (rwl (Ku) rfl))
theorem ow{i:Nat}(h:i<cs.length):rg cs i=cs.getD i 0:=by unfold rg;exact rwl (Lf h) rfl
theorem kU.wanted(K:kU ps N cs){i:Nat}(h0:0<i)(hi:i<=cs.length):∃p∈ps,p.1∈cs/\p.2∈cs/\((i=cs.length/\jO (cs.take i) p= [cs])\/(i<cs.length/\iV (cs.take i) p= [cs.take (i+1)])):=by
 have W:=K.way
 have h2:=W.two
 have ha:=K.around (i-1)
 rw[show i-1+1=i by exact Jy h0] at ha
 refine⟨_,ha,eS W _,eS W _,?_⟩
 have e1:rg cs (i-1)=dt (cs.take i):=rwl (xE h0 hi) (rwl (ow (HQ hi h2)) rfl)
 rcases NC hi with q|q
 ·refine .inr ⟨q,?_⟩
  unfold iV
  have hget:cs[i]? =some (rg cs i):=by have:=fG W i;rw[Lf q] at this;exact this
  have hnot:rg cs i∉cs.take i:=fun hm=>by
   refine aO (LL.mp hm:) fun j hj=>?_
   have hjl:=(Kn.mp hj).1
   rw[Le] at hjl
   rw[L7 (DT hjl)] at hj
   have:=(Na q W.nd).mp (hget.trans hj.symm)
   exact Fi hjl this
  have hgt:rg cs i>cx (cs.take i):=by
   refine rwl (n5 h0) (rwb (ow (by walk_at"o")) ?_)
   refine MU (K.least _ (eS W _)) fun e=>?_
   have:=qM W e
   rw[Nat.zero_mod,Lf q] at this
   exact GR h0 this
  refine rwl (if_pos ⟨e1,hgt,hnot⟩) (rwl Lb (rwl hget ?_))
  rfl
 ·refine .inl ⟨q,?_⟩
  unfold jO
  have e2:rg cs i=cx (cs.take i):=by
   refine rwl (n5 h0) (rwb (ow (by walk_at"o")) ?_)
   refine fV _ _ ?_
   exact rwl (q ..) (rwl (NB ..) (rwl (Nat.zero_mod ..) rfl))
  exact rwl (if_pos ⟨e1,e2⟩) (rwl q (rwl K9 rfl))
end ways
section
variable{Q:ae->Mem->Prop}{X:Nat->Mem->Prop}{m:Mem}{n:Nat}{k N:Nat}{v:ae}{x:Int}{ps:List (Nat×Nat)}{a:Addr}
theorem j9{l:List Nat}{x:Nat}:decide (((x:Nat):Int)∈zs l)=decide (x∈l):=by
 by_cases q:x∈l
 ·exact rwl (decide_eq_true q) (rwl (decide_eq_true (eP.mpr q)) rfl)
 ·exact rwl (decide_eq_false q) (rwl (decide_eq_false fun q'=>q (eP.mp q')) rfl)
theorem wt(Rr:Rp ps N)(h8:N<=8)(hps:ps.length<100)(ha:m a=some (.list (ps.map fp)))(h:∀c left m',ax m m'->m' c=some (.list ((zs left).map .int))->Holds ps N left->(∀x∈left,x<N)->left.Nodup->Q (.ref c) m'):CN (n+1) 119 [.ref a,.int (N:Nat)] Q X m:=by
 (refine aw rfl rfl ?_;dsimp only[oB,aK,bh,KU,Kk,Ko,Kr,KG,Nat.reduceAdd,Nat.reduceSub])
 walk_at"ss"
 refine dC (gI h8) ?_
 refine rwl (dK ..) ?_
 refine av (by refine rwl (Ki ..) (rwl (aT ..) (rwl (Kz ..) ?_));exact aa (by walk_at"o")) fun c hc=>?_
 have Ec:=ax.set (o:= .list ((zs (Kt N)).map .int)) hc
 walk_at"ss"
 dsimp only[ay]
 refine aV (gI h8) ?_
 refine bg (fun i l m'=>∃c left y3 y4 y5,l= [some (.ref a),some (.int (N:Nat)),some (.ref c),y3,y4,y5,none,none,none,none,none]/\ax m m'/\m' c=some (.list ((zs left).map .int))/\Holds ps N left/\(∀x∈left,x<N)/\left.Nodup)
  ⟨c,Kt N,none,none,none,rfl,Ec,ao,fun ws W A x hx=>KS.mpr (W.lt x hx),fun x hx=>KS.mp hx,Mw⟩ (fun i x l m' hx hI P hP=>?_) fun l m' hI=>?_
 ·refine GQ hI ?_;clear hI;intro c left y3 y4 y5 e0r0_5 E hc' hH hlt hnd
  subst e0r0_5
  have hll:left.length<=8:=Kl (by have:=cA hnd (l':=Kt N) fun x hx=>KS.mpr (hlt x hx);rw[Kz] at this;exact this) h8
  have hcI:cJ m' (.ref c) (zs left):=⟨c,rfl,hc'⟩
  have ha':=E a _ ha
  refine aU ?_
  dsimp only[ay]
  walk_at"ss"
  refine ar (bo.seq ⟨a,rfl,ha'⟩) (by refine rwl (Ki ..) ?_;exact aa (by walk_at"o")) ?_
  refine ke (g:=fun p=> .int (p.2:Nat)) (c:=fun p=>decide (p.1∈left)) rfl (fun p hp P hP=>?_) (fun p hp P hP=>?_) ?_
  ·walk_at"ss"
   refine en hcI ?_
   refine rwl j9 ?_
   exact hP
  ·walk_at"ss"
   exact hP
  rw[show (KU (fun p:Nat×Nat=>ae.int (p.2:Nat)) (ps.filter fun p=>decide (p.1∈left)))=(zs (bO ps left)).map .int by unfold zs bO;refine rwl K0 (rwl K0 ?_);rfl]
  refine av (by refine rwl (Ki ..) (rwl (aT ..) ?_);unfold bO;refine rwl (Ki ..) ?_;exact aa (Kj (Lh _ _) (by walk_at"o"))) fun d hd=>?_
  have Ed:=ax.set (o:= .list ((zs (bO ps left)).map .int)) hd
  have hdI:cJ (m'.set d (.list ((zs (bO ps left)).map .int))) (.ref d) (zs (bO ps left)):=bo.new
  generalize m'.set d (.list ((zs (bO ps left)).map .int))=m2 at Ed hdI
  walk_at"ss"
  dsimp only[ay]
  refine ar (bo.seq ⟨a,rfl,Ed a _ ha'⟩) (by refine rwl (Ki ..) ?_;exact aa (by walk_at"o")) ?_
  refine ke (g:=fun p=> .int (p.1:Nat)) (c:=fun p=>decide (p.2∈left)) rfl (fun p hp P hP=>?_) (fun p hp P hP=>?_) ?_
  ·walk_at"ss"
   refine en (hcI.ext Ed) ?_
   refine rwl j9 ?_
   exact hP
  ·walk_at"ss"
   exact hP
  rw[show (KU (fun p:Nat×Nat=>ae.int (p.1:Nat)) (ps.filter fun p=>decide (p.2∈left)))=(zs (dg ps left)).map .int by unfold zs dg;refine rwl K0 (rwl K0 ?_);rfl]
  refine av (by refine rwl (Ki ..) (rwl (aT ..) ?_);unfold dg;refine rwl (Ki ..) ?_;exact aa (Kj (Lh _ _) (by walk_at"o"))) fun e he=>?_
  have Ee:=ax.set (o:= .list ((zs (dg ps left)).map .int)) he
  have heI:cJ (m2.set e (.list ((zs (dg ps left)).map .int))) (.ref e) (zs (dg ps left)):=bo.new
  generalize m2.set e (.list ((zs (dg ps left)).map .int))=m3 at Ee heI
  have hdI:=hdI.ext Ee
  have hcI:=hcI.ext (Ed.trans Ee)
  walk_at"ss"
  dsimp only[ay]
  refine ar hcI.seq (by refine rwl (Ki ..) (rwl (aT ..) ?_);exact aa (by walk_at"o")) ?_
  refine cS (g:=fun y=>y) (c:=fun y=>match y with| .int y=>decide (y∈zs (bO ps left))&&decide (y∈zs (dg ps left))|_=>false) (bo.stands (k:= .plain) hcI hcI) (fun y hy P hP=>?_) (fun y hy P hP=>?_) ?_
  ·refine af (KL.mp hy:) fun y _ e1r0_2=>?_
   subst e1r0_2
   walk_at"ss"
   refine en hdI ?_
   have hP':P (.bool (decide (y∈zs (bO ps left))&&decide (y∈zs (dg ps left)))) m3:=hP
   by_cases q:y∈zs (bO ps left)
   ·rw[decide_eq_true q] at hP'⊢
    walk_at"ss"
    refine en heI ?_
    rw[MI] at hP'
    walk_at"ss"
    exact hP'
   ·rw[decide_eq_false q] at hP'⊢
    walk_at"ss"
    exact hP'
  ·refine af (KL.mp hy:) fun y _ e2r0_2=>?_
   subst e2r0_2
   walk_at"ss"
   exact hP
  rw[lC left (fun x=>decide (x∈bO ps left)&&decide (x∈dg ps left)) _ fun x hx=>by
   refine(?_:(decide (((x:Nat):Int)∈zs _)&&decide (((x:Nat):Int)∈zs _))=_)
   exact rwl j9 (rwl j9 rfl)]
  refine av (by refine rwl (Ki ..) (rwl (aT ..) ?_);exact aa (Kj (lp _ _) (by walk_at"o"))) fun f hf=>?_
  have Ef:=(Ed.trans Ee).trans (ax.set (o:= .list ((zs (left.filter fun x=>decide (x∈bO ps left)&&decide (x∈dg ps left))).map .int)) hf)
  walk_at"ss"
  with_reducible refine au (hP _ _ ?_)
  exact⟨trivial,f,cored ps left,_,_,_,rfl,E.trans Ef,ao,hH.cored,fun x hx=>hlt x (K5.mp hx).1,hnd.filter _⟩
 ·refine GQ hI ?_;clear hI;intro c left y3 y4 y5 e3r0_5 E hc' hH hlt hnd
  subst e3r0_5
  walk_at"ss"
  exact h c left _ E hc' hH hlt hnd
noncomputable def Ac (m0 m:Mem) (v:ae) (r:List Int):Prop:=∃b,v= .ref b/\m0 b=none/\m b=some (.list (r.map .int))
theorem Ac.isI{m0 m:Mem}{v:ae}{r:List Int}(h:Ac m0 m v r):cJ m v r:=by
 obtain⟨b,rfl,_,hb⟩:=h;exact⟨b,rfl,hb⟩
theorem Ac.ext{m0 m m':Mem}{v:ae}{r:List Int}(h:Ac m0 m v r)(E:ax m m'):Ac m0 m' v r:=by
 obtain⟨b,rfl,h0,hb⟩:=h;exact⟨b,rfl,h0,E b _ hb⟩
structure mJ(m:Mem)(f4 f5:Addr)(S F:List (List Nat))(m':Mem):Prop where
 ex:∃mr xs ys,ax m mr/\mr f4=none/\mr f5=none/\m'=(mr.set f4 (.list xs)).set f5 (.list ys)/\cn (Ac m mr) xs (S.map zs)/\cn (Ac m mr) ys (F.map zs)
theorem mJ.ext{f4 f5:Addr}{S F:List (List Nat)}{m':Mem}(hne:f4≠f5)(H:mJ m f4 f5 S F m'):ax m m':=by
 refine wR H.ex fun mr xs ys E h4 h5 e4r0_6 _=>?_
 subst e4r0_6
 exact E.trans ((ax.set h4).trans (ax.set (by refine rwl (ak (Ne.symm hne)) ?_;exact h5)))
theorem mJ.grow{f4 f5:Addr}{S F:List (List Nat)}{m' m'':Mem}(hne:f4≠f5)(H:mJ m f4 f5 S F m')(E:ax m' m''):mJ m f4 f5 S F m'':=by
 refine je H.ex fun mr xs ys E0 h4 h5 e5r0_6 hx hy=>?_
 subst e5r0_6
 have g5:=E f5 _ ao
 have g4:=E f4 (.list xs) (by exact rwl (ak hne) (rwl ao rfl))
 have Er:ax mr ((m''.del f5).del f4):=fun b o e=>by
  have hb4:=fo h4 e
  have hb5:=fo h5 e
  refine rwl (cB hb4) (rwl (cB hb5) ?_)
  exact E b o (by refine rwl (ak hb5) (rwl (ak hb4) ?_);exact e)
 refine⟨(m''.del f5).del f4,xs,ys,E0.trans Er,dH,by refine rwl (cB (Ne.symm hne)) ?_;exact dH,?_,hx.mono fun _ _ q=>q.ext Er,hy.mono fun _ _ q=>q.ext Er⟩
 have e4:(m''.del f5) f4=some (.list xs):=by refine rwl (cB hne) ?_;exact g4
 exact rwl dS (rwl (dv e4) (rwl dS (rwl (dv g5) rfl)))
end
section
variable{C:bb}{G:String->Option ae}{Q:ae->Mem->Prop}{m:Mem}{N:Nat}{R:Flow->aL->Mem->Prop}{Y:Nat->aL->Mem->Prop}{x:Int}{ps qs:List (Nat×Nat)}{a:Addr}{S F:List (List Nat)}{f4 f5 b:Addr}{wy:List Nat}
theorem mJ.at4(hne:f4≠f5){m':Mem}(H:mJ m f4 f5 S F m'):∃xs,m' f4=some (.list xs)/\xs.length=S.length:=by
 refine je H.ex fun mr xs ys _ _ _ e0r0_6 hx _=>?_
 subst e0r0_6
 exact⟨xs,by exact rwl (ak hne) (rwl ao rfl),by exact rwl (hx.length ..) (rwl (Ki ..) rfl)⟩
theorem mJ.at5{m':Mem}(H:mJ m f4 f5 S F m'):∃ys,m' f5=some (.list ys)/\ys.length=F.length:=by
 refine je H.ex fun mr xs ys _ _ _ e1r0_6 _ hy=>?_
 subst e1r0_6
 exact⟨ys,ao,by exact rwl (hy.length ..) (rwl (Ki ..) rfl)⟩
theorem mJ.push4(hne:f4≠f5){m':Mem}(H:mJ m f4 f5 S F m'){xs:List ae}(hx:m' f4=some (.list xs))(h4:b≠f4)(h5:b≠f5)(hb0:m b=none)(hb:m' b=some (.list ((zs wy).map .int))):mJ m f4 f5 (S++ [wy]) F (m'.set f4 (.list (xs++ [.ref b]))):=by
 refine je H.ex fun mr xs' ys E h1 h2 e2r0_6 hx' hy=>?_
 subst e2r0_6
 rw[ak hne,ao] at hx
 cases hx
 rw[ak h5,ak h4] at hb
 refine⟨mr,xs++ [.ref b],ys,E,h1,h2,?_,?_,hy⟩
 ·exact rwl (i8 (Ne.symm hne)) (rwl fQ rfl)
 ·refine rwl KT ?_
  exact hx'.append (.cons ⟨b,rfl,hb0,hb⟩ .nil)
theorem mJ.push5{m':Mem}(H:mJ m f4 f5 S F m'){ys:List ae}(hy:m' f5=some (.list ys))(h4:b≠f4)(h5:b≠f5)(hb0:m b=none)(hb:m' b=some (.list ((zs wy).map .int))):mJ m f4 f5 S (F++ [wy]) (m'.set f5 (.list (ys++ [.ref b]))):=by
 refine je H.ex fun mr xs ys' E h1 h2 e3r0_6 hx hy'=>?_
 subst e3r0_6
 rw[ao] at hy
 cases hy
 rw[ak h5,ak h4] at hb
 refine⟨mr,xs,ys++ [.ref b],E,h1,h2,by exact rwl fQ rfl,hx,?_⟩
 refine rwl KT ?_
 exact hy'.append (.cons ⟨b,rfl,hb0,hb⟩ .nil)
theorem mJ.pop4(hne:f4≠f5){m':Mem}(H:mJ m f4 f5 (S++ [wy]) F m')(hl:S.length<100000){K:ae->Mem->Prop}
  (h:∀b m'',b≠f4->b≠f5->m b=none->m'' b=some (.list ((zs wy).map .int))->mJ m f4 f5 S F m''->K (.ref b) m''):AH K (.ref f4) [] m':=by
 refine je H.ex fun mr xs ys E h1 h2 e4r0_6 hx hy=>?_
 subst e4r0_6
 have hlen:xs.length=S.length+1:=by refine rwl (hx.length ..) (rwl (Ki ..) (rwl (Km ..) ?_));rfl
 obtain⟨y,hy1,b,rfl,hb0,hb⟩:=hx.get' (i:=S.length) (b:=zs wy) (by rw[KT,Lq (by refine rwl (Ki ..) ?_;exact Lk _),Ki,Mq];rfl)
 have hb4:=fo h1 hb
 have hb5:=fo h2 hb
 refine w8 (xs:=xs) (j:=S.length) (by exact rwl (ak hne) (rwl ao rfl)) (by refine rwl hlen ?_;unfold br;walk_at"o") ?_ hy1 ?_
 ·refine rwl hlen ?_
  unfold eh
  refine rwl (if_neg (by decide)) (rwl (if_pos (by refine(?_:1<=_);exact Bt)) ?_)
  rfl
 ·refine h b _ hb4 hb5 hb0 (by refine rwl (ak hb4) (rwl (ak hb5) (rwl (ak hb4) ?_));exact hb) ⟨mr,xs.eraseIdx S.length,ys,E,h1,h2,by exact rwl (i8 (Ne.symm hne)) (rwl fQ rfl),?_,hy⟩
  refine cn.of_get (by refine rwl (List.length_eraseIdx_of_lt (G8 hlen) ..) (rwl (hlen ..) (rwl (Ki ..) ?_));rfl) fun i y' r g1 g2=>?_
  have hi:i<S.length:=by have:=(Kn.mp g2).1;rw[Ki] at this;exact this
  rw[List.getElem?_eraseIdx_of_lt hi] at g1
  refine af (hx.get g1:) fun r' g3 hr=>?_
  rw[KT,K8 (by refine rwl (Ki ..) ?_;exact hi)] at g3
  rw[g2] at g3
  cases g3
  exact hr
theorem pT(P:tX ps N wy)(h8:N<=8)(hb:m b=some (.list ((zs wy).map .int)))(h:Q (.int (cx wy:Nat)) m):gm (.ref b) (.int 0) Q m:=by
 have:=P.len
 exact cz (is:=zs wy) ⟨b,rfl,hb⟩ (by decide) (i4 P.first) (by refine rwl aT ?_;exact aa (zf h8 this)) h
theorem tK(P:tX ps N wy)(h8:N<=8)(hb:m b=some (.list ((zs wy).map .int)))(h:Q (.int (dt wy:Nat)) m):gm (.ref b) (.int (-1)) Q m:=by
 have hl:=P.len
 have hpos:0<wy.length:=L2.mpr P.ne
 refine dG (bo.seq ⟨b,rfl,hb⟩) (j:=wy.length-1) ?_ (x:= .int (dt wy:Nat)) ?_ (by refine rwl (Ki ..) (rwl (aT ..) ?_);exact aa (zf h8 hl)) h
 ·refine rwl (Ki ..) (rwl (aT ..) ?_)
  unfold eh
  refine rwl (if_neg (by decide)) (rwl (if_pos (by refine(?_:1<=wy.length);walk_at"o")) ?_);rfl
 ·refine rwl (KH) (rwl (i4 P.last) ?_);rfl
theorem wG{cs:List Nat}(hK:x4 (S++ [wy]) F cs)(K:kU ps N cs)(hq:∀p∈ps,p.1∈cs->p.2∈cs->p∈qs):x4 (S++qs.flatMap (iV wy)) (F++qs.flatMap (jO wy)) cs:=by
 rcases hK with h|⟨i,h0,hi,h⟩
 ·exact .inl (KR _ h)
 ·rcases KM.mp h with h|h
  ·exact .inr ⟨i,h0,hi,KR _ h⟩
  ·obtain rfl:=Kq.mp h
   refine xm (K.wanted h0 hi:) fun p hp h1 h2 hc=>?_
   have hpq:=hq p hp h1 h2
   rcases hc with ⟨_,e⟩|⟨hlt,e⟩
   ·exact .inl (KO _ (MP.mpr ⟨p,hpq,by refine rwl e ?_;exact .head _⟩))
   ·exact .inr ⟨i+1,Mi _,hlt,KO _ (MP.mpr ⟨p,hpq,by refine rwl e ?_;exact .head _⟩)⟩
theorem kz{α β:Type}(f:α->List β){l:List α}{i:Nat}{x:α}(h:l[i]? =some x):(l.take (i+1)).flatMap f=(l.take i).flatMap f++f x:=by
 refine rwl Lb (rwl h (rwl List.flatMap_append ?_));simp
theorem gp{α β:Type}(f:α->List β)(hf:∀x,(f x).length<=1)(l:List α):(l.flatMap f).length<=l.length:=by
 induction l with
 |nil=>exact Lk _
 |cons a l ih=>
  refine rwl List.flatMap_cons (rwl Km (rwl Ni ?_))
  have:=hf a
  exact GW ih this
theorem tv(p:Nat×Nat):(jO wy p).length<=1:=by unfold jO;split<;>simp
theorem td(p:Nat×Nat):(iV wy p).length<=1:=by unfold iV;split<;>simp
noncomputable def vJ:St:= .ifs (.boolop true (.cons (.cmp .eq (.nm 8) (.sub (.nm 7) (.neg (.int 1)))) (.cons (.cmp .gt (.nm 9) (.sub (.nm 7) (.int 0))) (.cons (.cmp .notin (.nm 9) (.nm 7)) .nil)))) (aK [
     .expr (.append (.nm 4) (.bin .add (.nm 7) (.lst (.cons (.nm 9) .nil))))]) .nil
theorem n2{y0 y1 y2 y3 y6:Option ae}{p:Nat×Nat}{m':Mem}(hne:f4≠f5)(P:tX ps N wy)(h8:N<=8)(H:mJ m f4 f5 S F m')(hS:S.length<100000)(hb4:b≠f4)(hb5:b≠f5)(hb0:m b=none)(hb:m' b=some (.list ((zs wy).map .int)))
  (hR:∀m'',mJ m f4 f5 (S++iV wy p) F m''->ax (m'.del f4) (m''.del f4)->m'' b=some (.list ((zs wy).map .int))->R .next [y0,y1,y2,y3,some (.ref f4),some (.ref f5),y6,some (.ref b),some (.int (p.1:Nat)),some (.int (p.2:Nat)),none,none] m''):
  bJ C G (.cons vJ .nil) R Y [y0,y1,y2,y3,some (.ref f4),some (.ref f5),y6,some (.ref b),some (.int (p.1:Nat)),some (.int (p.2:Nat)),none,none] m':=by
 have same:iV wy p= []->R .next [y0,y1,y2,y3,some (.ref f4),some (.ref f5),y6,some (.ref b),some (.int (p.1:Nat)),some (.int (p.2:Nat)),none,none] m':=fun e=>hR m' (by refine rwl (e ..) (rwl (Ll ..) ?_);exact H) .refl hb
 dsimp only[vJ,aK]
 walk_at"ss"
 refine tK P h8 hb ?_
 walk_at"ss"
 by_cases q1:p.1=dt wy
 ·refine rwl (decide_eq_true (congrArg (fun(i:Nat)=>(i:Int)) q1)) ?_
  walk_at"ss"
  refine pT P h8 hb ?_
  walk_at"ss"
  by_cases q2:p.2>cx wy
  ·refine rwl (decide_eq_true (by exact GU q2:((p.2:Nat):Int)>(cx wy:Nat))) ?_
   walk_at"ss"
   refine iE (is:=zs wy) ⟨b,rfl,hb⟩ ?_
   refine rwl j9 ?_
   by_cases q3:p.2∈wy
   ·refine rwl (decide_eq_true q3) ?_
    walk_at"ss"
    exact same (by unfold iV;exact rwl (if_neg fun h=>h.2.2 q3) rfl)
   ·refine rwl (decide_eq_false q3) ?_
    walk_at"ss"
    have ea:iV wy p= [wy++ [p.2]]:=by unfold iV;exact rwl (if_pos ⟨q1,q2,q3⟩) rfl
    refine af (H.at4 hne:) fun xs hx hxl=>?_
    refine iW hx ?_
    walk_at"ss"
    refine av (aa (by decide:1<1000)) fun d hd=>?_
    have Ed:=ax.set (o:= .list [ae.int (p.2:Nat)]) hd
    refine bZ (xs:=(zs wy).map .int) (ys:=[.int (p.2:Nat)]) (bo.lst ⟨b,rfl,Ed b _ hb⟩) (bo.lst ⟨d,rfl,ao⟩) ?_
    rw[show (zs wy).map ae.int++ [.int (p.2:Nat)]=(zs (wy++ [p.2])).map .int by refine rwl (sf ..) (rwl (KT ..) ?_);rfl]
    have hwl:=P.len
    refine av (by refine rwl (Ki ..) (rwl (aT ..) (rwl (Km ..) ?_));exact aa (by refine(?_:_+1<1000);exact Gd h8 hwl)) fun e he=>?_
    have Ee:=Ed.trans (ax.set (o:= .list ((zs (wy++ [p.2])).map .int)) he)
    have H2:=H.grow hne Ee
    have he4:e≠f4:=fun q=>by subst q;rw[Ed e _ hx] at he;injection he
    have he5:e≠f5:=fun q=>by
     refine af H.at5 fun ys hy _=>?_
     subst q
     rw[Ed e _ hy] at he;injection he
    refine fK (Ee f4 _ hx) (by refine rwl hxl ?_;unfold br;walk_at"o") ?_
    walk_at"ss"
    refine hR _ (by refine rwl ea ?_;exact H2.push4 hne (Ee f4 _ hx) he4 he5 (aQ ((H.ext hne).trans Ed) he) ao) (fun c o hco=>?_) (by refine rwl (ak hb4) ?_;exact Ee b _ hb)
    have hc4:c≠f4:=fun q=>by subst q;rw[dH] at hco;injection hco
    rw[cB hc4] at hco⊢
    refine rwl (ak hc4) ?_
    exact Ee c o hco
  ·refine rwl (decide_eq_false (by exact GT q2:¬((p.2:Nat):Int)>(cx wy:Nat))) ?_
   walk_at"ss"
   exact same (by unfold iV;exact rwl (if_neg fun h=>q2 h.2.1) rfl)
 ·refine rwl (decide_eq_false (by exact AF q1:¬((p.1:Nat):Int)=(dt wy:Nat))) ?_
  walk_at"ss"
  exact same (by unfold iV;exact rwl (if_neg fun h=>q1 h.1) rfl)
noncomputable def BK:St:= .ifs (.boolop true (.cons (.cmp .eq (.nm 8) (.sub (.nm 7) (.neg (.int 1)))) (.cons (.cmp .eq (.nm 9) (.sub (.nm 7) (.int 0))) .nil))) (aK [
     .expr (.append (.nm 5) (.nm 7))]) .nil
theorem um{y0 y1 y2 y3 y6:Option ae}{p:Nat×Nat}{m':Mem}(hne:f4≠f5)(P:tX ps N wy)(h8:N<=8)(H:mJ m f4 f5 S F m')(hS:S.length<100000)(hF:F.length<100000)(hb4:b≠f4)(hb5:b≠f5)(hb0:m b=none)(hb:m' b=some (.list ((zs wy).map .int)))
  (hR:∀m'',mJ m f4 f5 (S++iV wy p) (F++jO wy p) m''->m'' b=some (.list ((zs wy).map .int))->R .next [y0,y1,y2,y3,some (.ref f4),some (.ref f5),y6,some (.ref b),some (.int (p.1:Nat)),some (.int (p.2:Nat)),none,none] m''):
  bJ C G (.cons BK (.cons vJ .nil)) R Y [y0,y1,y2,y3,some (.ref f4),some (.ref f5),y6,some (.ref b),some (.int (p.1:Nat)),some (.int (p.2:Nat)),none,none] m':=by
 have same:jO wy p= []->bJ C G (.cons vJ .nil) R Y [y0,y1,y2,y3,some (.ref f4),some (.ref f5),y6,some (.ref b),some (.int (p.1:Nat)),some (.int (p.2:Nat)),none,none] m':=fun e=>by
  rw[e,Ll] at hR
  exact n2 hne P h8 H hS hb4 hb5 hb0 hb fun m2 H2 _ hb2=>hR m2 H2 hb2
 refine lQ ?_
 dsimp only[BK,aK]
 refine Bq (jl (eY (mF (fk _ (by with_unfolding_all rfl) (sU (fk _ (by with_unfolding_all rfl) (vb ?_)))))))
 refine tK P h8 hb ?_
 refine mZ ?_
 by_cases q1:p.1=dt wy
 ·refine rwl (decide_eq_true (congrArg (fun(i:Nat)=>(i:Int)) q1)) ?_
  refine cH (kS (eY (mF (fk _ (by with_unfolding_all rfl) (sU (fk _ (by with_unfolding_all rfl) (fk _ (by with_unfolding_all rfl) ?_)))))))
  refine pT P h8 hb ?_
  refine mZ (cH (dR (cH ?_)))
  by_cases q2:p.2=cx wy
  ·refine rwl (decide_eq_true (congrArg (fun(i:Nat)=>(i:Int)) q2)) ?_
   have ea:jO wy p= [wy]:=by unfold jO;exact rwl (if_pos ⟨q1,q2⟩) rfl
   refine af H.at5 fun ys hy hyl=>?_
   refine fj (lQ (rk (kQ (fk _ (by with_unfolding_all rfl) (iW hy (fk _ (by with_unfolding_all rfl) (fK hy (by refine rwl hyl ?_;unfold br;walk_at"o") (ik (d9 (qC (d9 ?_)))))))))))
   have H2:=H.push5 hy hb4 hb5 hb0 hb
   rw[ea] at hR
   exact n2 hne P h8 H2 hS hb4 hb5 hb0 (by refine rwl (ak hb5) ?_;exact hb) fun m2 H2 _ hb2=>hR m2 H2 hb2
  ·refine rwl (decide_eq_false (by exact AF q2:¬((p.2:Nat):Int)=(cx wy:Nat))) ?_
   exact dB (qC (d9 (same (by unfold jO;exact rwl (if_neg fun h=>q2 h.2) rfl))))
 ·refine rwl (decide_eq_false (by exact AF q1:¬((p.1:Nat):Int)=(dt wy:Nat))) ?_
  refine cH (gJ (cH (dB (qC (d9 (same (by unfold jO;exact rwl (if_neg fun h=>q1 h.1) rfl)))))))
end
section
variable{Q:ae->Mem->Prop}{X:Nat->Mem->Prop}{m:Mem}{n:Nat}{t u:List (List Int)}{k N:Nat}{v w:ae}{x:Int}{ps qs:List (Nat×Nat)}{a:Addr}{S F:List (List Nat)}{f4 f5 b:Addr}{wy:List Nat}
theorem ic.split{m0:Mem}(h:ic m0 m v t):∃a xs,v= .ref a/\m0 a=none/\m a=some (.list xs)/\cn (Ac m0 (m.del a)) xs t:=by
 refine mU h ?_;clear h;intro a bs e0r0_2 ha hn hl h0 hb hr
 subst e0r0_2
 refine⟨a,bs.map .ref,rfl,h0,ha,cn.of_get (by refine rwl (Ki ..) ?_;exact hl) fun j x r h1 h2=>?_⟩
 rw[KH] at h1
 refine af (KD.mp h1:) fun b hb' e1r0_2=>?_
 subst e1r0_2
 exact⟨b,rfl,(hb b (Kp hb')).1,by refine rwl (cB (hb b (Kp hb')).2) ?_;exact hr j b r hb' h2⟩
structure oJ(ps:List (Nat×Nat))(N:Nat)(S F:List (List Nat)):Prop where
 on:∀w∈S,tX ps N w
 rings:∀w∈F,eB w N/\Around ps w
 all:∀cs,kU ps N cs->x4 S F cs
theorem oJ.next(Rr:Rp ps N)(hq:∀p∈qs,p∈ps)(hq':∀cs,kU ps N cs->∀p∈ps,p.1∈cs->p.2∈cs->p∈qs)(W:oJ ps N (S++ [wy]) F):oJ ps N (S++qs.flatMap (iV wy)) (F++qs.flatMap (jO wy)):=by
 have P:=W.on wy (KO _ (.head _))
 refine⟨fun w hw=>?_,fun w hw=>?_,fun cs K=>wG (W.all cs K) K (hq' cs K)⟩
 ·rcases KM.mp hw with h|h
  ·exact W.on w (KR _ h)
  ·refine af (MP.mp h:) ?_;clear h;intro p hp h
   unfold iV at h
   by_cases q:p.1=dt wy/\p.2>cx wy/\p.2∉wy
   ·rw[if_pos q] at h
    obtain rfl:=Kq.mp h
    exact P.next (by refine rwb q.1 ?_;exact hq p hp) (Rr.lt p (hq p hp)).2 q.2.2
   ·rw[if_neg q] at h;cases h
 ·rcases KM.mp hw with h|h
  ·exact W.rings w h
  ·refine af (MP.mp h:) ?_;clear h;intro p hp h
   unfold jO at h
   by_cases q:p.1=dt wy/\p.2=cx wy
   ·rw[if_pos q] at h
    obtain rfl:=Kq.mp h
    exact P.ring Rr (by refine rwb q.1 (rwb q.2 ?_);exact hq p hp)
   ·rw[if_neg q] at h;cases h
theorem u9(O:Ok t u k)(hv:bH m v t)(hw:bH m w u)(h0:∀m',ax m m'->Q .none m')
  (h1:∀(f:Addr) (F:List (List Nat)) ys m',ax m m'->m f=none->m' f=some (.list ys)->cn (Ac m m') ys (F.map zs)->F.length<100000->(∀w∈F,eB w t.length/\Around (aC t u) w)->(∀cs,kU (aC t u) t.length cs->cs∈F)->Q (.ref f) m'):CN (n+3) 95 [v,w] Q X m:=by
 have h8:=O.t8
 have hpl:=fv O
 have Rr:Rp (aC t u) t.length:=fq
 (refine aw rfl rfl ?_;dsimp only[p9,aK,bh,KU,Kk,Ko,Kr,KG,Nat.reduceAdd,Nat.reduceSub])
 walk_at"ss"
 refine eE O hv hw fun a m1 E1 ha=>?_
 walk_at"ss"
 try dsimp only[ay]
 refine ba (hv.ext E1) (aa O.tl) ?_
 walk_at"ss"
 refine wt Rr h8 hpl ha fun c left m2 E2 hc hH hlt hnd=>?_
 have hll:left.length<=8:=Kl (by have:=cA hnd (l':=Kt t.length) fun x hx=>KS.mpr (hlt x hx);rw[Kz] at this;exact this) h8
 have hcI:cJ m2 (.ref c) (zs left):=⟨c,rfl,hc⟩
 walk_at"ss"
 try dsimp only[ay]
 refine ar (bo.seq ⟨a,rfl,E2 a _ ha⟩) (g9 O) ?_
 refine cS (g:=fun y=>y) (c:=fun y=>match y with| .tup [.int i,.int j]=>decide (i∈zs left)&&decide (j∈zs left)|_=>false) rfl (fun y hy P hP=>?_) (fun y hy P hP=>?_) ?_
 ·refine af (KL.mp hy:) fun p _ e4r0_2=>?_
  subst e4r0_2
  walk_at"ss"
  refine uj ?_
  walk_at"ss"
  refine en hcI ?_
  have hP':P (.bool (decide ((p.1:Int)∈zs left)&&decide ((p.2:Int)∈zs left))) m2:=hP
  by_cases q:(p.1:Int)∈zs left
  ·rw[decide_eq_true q] at hP'⊢
   walk_at"ss"
   refine yE ?_
   walk_at"ss"
   refine en hcI ?_
   rw[MI] at hP'
   walk_at"ss"
   exact hP'
  ·rw[decide_eq_false q] at hP'⊢
   walk_at"ss"
   exact hP'
 ·refine af (KL.mp hy:) fun p _ e5r0_2=>?_
  subst e5r0_2
  walk_at"ss"
  exact hP
 have hfe:KU (fun y=>y) (Nb (fun y=>match y with|ae.tup [.int i,.int j]=>decide (i∈zs left)&&decide (j∈zs left)|_=>false) ((aC t u).map fp))=((aC t u).filter fun p=>decide (p.1∈left)&&decide (p.2∈left)).map fp:=by
  refine rwl (NN ..) (rwl (MX ..) ?_)
  congr 1
  refine MF fun p _=>?_
  refine(?_:(decide ((p.1:Int)∈zs left)&&decide ((p.2:Int)∈zs left))=_)
  exact rwl j9 (rwl j9 rfl)
 refine rwl hfe ?_
 generalize hqs:((aC t u).filter fun p=>decide (p.1∈left)&&decide (p.2∈left))=qs
 have hql:qs.length<100:=by refine rwb hqs ?_;exact Kj (Lh _ _) hpl
 have hqp:∀p∈qs,p∈aC t u:=fun p hp=>by rw[<-hqs] at hp;exact(K5.mp hp).1
 have hqc:∀cs,kU (aC t u) t.length cs->∀p∈aC t u,p.1∈cs->p.2∈cs->p∈qs:=fun cs K p hp i1 i2=>by
  refine rwb hqs ?_
  refine K5.mpr ⟨hp,?_⟩
  refine rwl (decide_eq_true (hH cs K.way K.around _ i1)) (rwl (decide_eq_true (hH cs K.way K.around _ i2)) ?_);rfl
 refine av (by refine rwl (Ki ..) ?_;exact aa (by walk_at"o")) fun d hd=>?_
 have Ed:=ax.set (o:= .list (qs.map fp)) hd
 have hd3:(m2.set d (.list (qs.map fp))) d=some (.list (qs.map fp)):=ao
 have E3:=E1.trans (E2.trans Ed)
 have hcI3:=hcI.ext Ed
 generalize m2.set d (.list (qs.map fp))=m3 at hd3 E3 hcI3
 walk_at"ss"
 try dsimp only[ay]
 refine ar hcI3.seq (by refine rwl (Ki ..) (rwl (aT ..) ?_);exact aa (by walk_at"o")) ?_
 refine dN (fun j=>zs [left.getD j 0]) (by refine rwl (Ki ..) (rwl (aT ..) ?_);walk_at"o") (fun m' E=>bo.stands (k:= .plain) hcI3 (hcI3.ext E)) (fun j y m' hy E P hP=>?_) fun v4 m4 E4 o4=>?_
 ·unfold zs at hy
  rw[K0,KH] at hy
  refine af (KD.mp hy:) fun z hz e6r0_2=>?_
  subst e6r0_2
  walk_at"ss"
  refine av (aa (by decide:1<1000)) fun e he=>?_
  have:=hP e m' .refl he
  rw[show left.getD j 0=z by refine rwl (Ku) (rwl hz ?_);rfl] at this
  exact this
 rw[Ki,aT,show (Kt left.length).map (fun j=>zs [left.getD j 0])=(left.map fun x=>[x]).map zs by
  refine rwl K0 ?_
  refine Nc fun j=>?_
  refine rwl (KH) (rwl (KH) ?_)
  by_cases hj:j<left.length
  ·refine rwl (Ms hj) (rwl (KA hj) ?_)
   refine(?_:some (zs [left.getD j 0])=some (zs [left[j]]))
   refine rwl (Ku) (rwl (KA hj) ?_);rfl
  ·rw[Lu (by refine rwl Kz ?_;exact AP hj),Lu (by lia)];rfl] at o4
 refine dJ o4.split fun f4 xs4 e7r0_2 hf40 hf4 hx4=>?_
 subst e7r0_2
 walk_at"ss"
 try dsimp only[ay]
 refine av (aa (by decide)) fun f5 hf5=>?_
 have hne:f4≠f5:=fo hf5 hf4
 have S0:mJ m3 f4 f5 (left.map fun x=>[x]) [] (m4.set f5 (.list [])):=by
  refine⟨m4.del f4,xs4,[],E4.less hf40,dH,by refine rwl (cB (Ne.symm hne)) ?_;exact hf5,?_,hx4,.nil⟩
  exact rwl dS (rwl (dv hf4) rfl)
 have W0:oJ (aC t u) t.length (left.map fun x=>[x]) []:=by
  refine⟨fun w hw=>?_,fun w hw=>(by cases hw),fun cs K=> .inr ⟨1,by decide,by have:=K.way.two;walk_at"o",?_⟩⟩
  ·refine af (KL.mp hw:) fun x hx e8r0_2=>?_
   subst e8r0_2
   exact⟨(fun e=>by injection e),KQ.mpr ⟨by simp,LH⟩,fun y hy=>by refine rwl (Kq.mp hy) ?_;exact hlt x hx,(fun i a b h1 h2=>by cases i<;>injection h2)⟩
  ·have h2:=K.way.two
   refine KL.mpr ⟨rg cs 0,hH cs K.way K.around _ (eS K.way 0),?_⟩
   have:=fG K.way 0
   rw[Nat.zero_mod] at this
   cases cs with
   |nil=>injection this
   |cons z r=>(injection this with this;cases this);rfl
 generalize m4.set f5 (.list [])=m5 at S0
 walk_at"ss"
 try dsimp only[ay]
 refine aV (n:=60) ⟨by decide,by decide⟩ ?_
 refine bg (fun i l m'=>∃y6 y7 y8 y9 S F,l= [some v,some w,some (.ref d),some (.ref c),some (.ref f4),some (.ref f5),y6,y7,y8,y9,none,none]/\mJ m3 f4 f5 S F m'/\oJ (aC t u) t.length S F/\S.length<=8+100*i/\F.length<=100*i)
  ⟨none,none,none,none,_,_,rfl,S0,W0,by refine rwl (Ki ..) ?_;walk_at"o",Lp _⟩ (fun i x l m' hx hI P hP=>?_) fun l m' hI=>?_
 ·refine Gz hI ?_;clear hI;intro y6 y7 y8 y9 S F e9r0_6 H WO hSl hFl
  subst e9r0_6
  have hi60:i<60:=(cq hx).1
  refine aU ?_
  dsimp only[ay]
  walk_at"ss"
  refine av (aa (by decide)) fun e he=>?_
  have Ee:=ax.set (o:= .list []) he
  have H1:=H.grow hne Ee
  have he1:(m'.set e (.list [])) e=some (.list []):=ao
  generalize m'.set e (.list [])=m6 at H1 he1
  refine af (H1.at4 hne:) fun xs hx6 hxl=>?_
  have hread:bH m6 (.ref f4) (S.map zs):=by
   refine je H1.ex fun mr xs' ys Er g1 g2 e11r0_6 hx' hy'=>?_
   subst e11r0_6
   have Em:ax mr ((mr.set f4 (.list xs')).set f5 (.list ys)):=(ax.set g1).trans (ax.set (by refine rwl (ak (Ne.symm hne)) ?_;exact g2))
   exact⟨xs',⟨f4,rfl,by exact rwl (ak hne) (rwl ao rfl)⟩,hx'.mono fun _ _ q=>(q.ext Em).isI⟩
  refine gO (a:=S.map zs) (b:=[]) hread ⟨[],⟨e,rfl,he1⟩,.nil⟩ ?_
  by_cases hS:S= []
  ·subst hS
   refine rwl (decide_eq_true rfl:decide ((([]:List (List Nat)).map zs)= [])=true) ?_
   walk_at"ss"
   with_reducible refine d8 ?_
   walk_at"ss"
   refine je (id H1.ex:) fun mr xs' ys Er g1 g2 e6 hx' hy'=>?_
   have Em:ax mr m6:=by refine rwl e6 ?_;exact(ax.set g1).trans (ax.set (by refine rwl (ak (Ne.symm hne)) ?_;exact g2))
   refine h1 f5 F ys _ (E3.trans (H1.ext hne)) (aQ (E3.trans Er) g2) (by refine rwl e6 ?_;exact ao) (hy'.mono fun _ _ q=>?_) (Eu hFl hi60) WO.rings fun cs K=>?_
   ·refine bq q ?_;clear q;intro b e13r0_1 hb0 hb
    subst e13r0_1
    exact⟨b,rfl,aQ E3 hb0,Em b _ hb⟩
   ·rcases WO.all cs K with q|⟨_,_,_,q⟩
    ·exact q
    ·cases q
  ·refine rwl (decide_eq_false fun q=>hS (Mr.mp q):decide ((S.map zs)= [])=false) ?_
   obtain⟨S',wy,rfl⟩:∃S' wy,S=S'++ [wy]:=by
    rcases List.eq_nil_or_concat S with q|⟨l,y,q⟩
    ·exact absurd q hS
    ·exact⟨l,y,by exact rwl q (rwl List.concat_eq_append rfl)⟩
   have P:=WO.on wy (KO _ (.head _))
   rw[Km,KY] at hSl
   walk_at"ss"
   refine iW hx6 ?_
   walk_at"ss"
   refine H1.pop4 hne (EI hi60 hSl) fun b m7 hb4 hb5 hb0 hb H7=>?_
   walk_at"ss"
   dsimp only[ay]
   have hd7:=H7.ext hne d _ hd3
   refine ar (bo.seq ⟨d,rfl,hd7⟩) (by refine rwl (Ki ..) ?_;exact aa (by walk_at"o")) ?_
   refine bg (fun j l m'=>∃y8 y9,l= [some v,some w,some (.ref d),some (.ref c),some (.ref f4),some (.ref f5),some x,some (.ref b),y8,y9,none,none]/\mJ m3 f4 f5 (S'++(qs.take j).flatMap (iV wy)) (F++(qs.take j).flatMap (jO wy)) m'/\m' b=some (.list ((zs wy).map .int)))
    ⟨_,_,rfl,by simpa using H7,hb⟩ (fun j y l m8 hy hI P2 hP2=>?_) fun l m8 hI=>?_
   ·refine bB hI ?_;clear hI;intro y8 y9 e14r0_2 H8 hb8
    subst e14r0_2
    rw[KH] at hy
    refine af (KD.mp hy:) fun p hp e15r0_2=>?_
    subst e15r0_2
    have hfl1:((qs.take j).flatMap (iV wy)).length<=100:=Kl (gp _ (fun p=>td p) _) (by refine rwl Le ?_;exact IE hql)
    have hfl2:((qs.take j).flatMap (jO wy)).length<=100:=Kl (gp _ (fun p=>tv p) _) (by refine rwl Le ?_;lia)
    refine lZ ?_
    dsimp only[ay]
    refine um hne P h8 H8 (by refine rwl Km ?_;exact Hy hi60 hSl hfl1) (by refine rwl Km ?_;exact JD hFl hi60 hfl2) hb4 hb5 hb0 hb8 fun m10 H10 hb10=>?_
    refine au (hP2 _ _ ?_)
    refine⟨bo.stands (k:= .plain) ⟨d,rfl,hd7⟩ ⟨d,rfl,H10.ext hne d _ hd3⟩,_,_,rfl,?_,hb10⟩
    refine rwl (kz _ hp ..) (rwl (kz _ hp ..) (rwb (K7 ..) (rwb (K7 ..) ?_)))
    exact H10
   ·refine bB hI ?_;clear hI;intro y8 y9 e16r0_2 H8 hb8
    subst e16r0_2
    rw[Ki,K9] at H8
    have hfl1:(qs.flatMap (iV wy)).length<=99:=Kl (gp _ (fun p=>td p) _) (by with_reducible solve_by_elim (maxDepth:=3) only[*,Kj,Ks,Kl,KN,K6,Ls])
    have hfl2:(qs.flatMap (jO wy)).length<=99:=Kl (gp _ (fun p=>tv p) _) (by with_reducible solve_by_elim (maxDepth:=3) only[*,Kj,Ks,Kl,KN,K6,Ls])
    walk_at"ss"
    with_reducible refine au (hP _ _ ?_)
    exact⟨trivial,_,_,_,_,_,_,rfl,H8,WO.next Rr hqp hqc,by refine rwl Km ?_;exact G4 hSl hfl1,by refine rwl Km ?_;exact Dv hFl hfl2⟩
 ·refine Gz hI ?_;clear hI;intro y6 y7 y8 y9 S F e17r0_6 H WO hSl hFl
  subst e17r0_6
  walk_at"ss"
  exact h0 _ (E3.trans (H.ext hne))
end
section
variable{C:bb}{G:String->Option ae}{Q:ae->Mem->Prop}{X:Nat->Mem->Prop}{m:Mem}{n:Nat}{t u s:List (List Int)}{k N:Nat}{v w:ae}{loc:aL}{R:Flow->aL->Mem->Prop}{Y:Nat->aL->Mem->Prop}{x:Int}{ps:List (Nat×Nat)}{a:Addr}{T D:List (List (List Int))}{f0 f2 f3:Addr}{ws:List Nat}
theorem zQ{l:List Nat}(h:l≠ []):∃a∈l,∀x∈l,a<=x:=by
 induction l with
 |nil=>exact absurd rfl h
 |cons y r ih=>
  by_cases q:r= []
  ·subst q
   exact⟨y,.head _,fun x hx=>by refine rwl (Kq.mp hx) ?_;exact Lk _⟩
  ·refine af (ih q:) fun a ha hle=>?_
   by_cases e:y<=a
   ·exact⟨y,.head _,fun x hx=>by rcases Kw.mp hx with rfl|hx;(·exact Lk _);(·exact Kl e (hle x hx))⟩
   ·exact⟨a,.tail _ ha,fun x hx=>by rcases Kw.mp hx with rfl|hx;(·exact Dy e);(·exact hle x hx)⟩
theorem tu(W:eB ws N)(A:Around ps ws):∃i,i<ws.length/\kU ps N (ws.drop i++ws.take i):=by
 obtain⟨a,ha,hle⟩:=zQ (l:=ws) fun e=>by have:=W.two;rw[e] at this;exact absurd this (by decide)
 refine aq (k6 W ha:) fun e hi=>?_
 refine⟨ws.idxOf a,hi,W.rot hi,fun i=>?_,fun x hx=>?_⟩
 ·refine rwl (nw W hi ..) (rwl (nw W hi ..) ?_)
  exact A (ws.idxOf a+i)
 ·refine rwl (nw W hi ..) (rwl (Nat.add_zero ..) (rwl (e ..) ?_))
  refine hle x ?_
  rcases KM.mp hx with q|q
  ·exact ML q
  ·exact MK q
theorem ax.part{m:Mem}{f:Addr}:ax (m.del f) m:=fun b o e=>by
 have hb:b≠f:=fun q=>by subst q;rw[dH] at e;injection e
 rw[cB hb] at e;exact e
theorem ax.both{m m':Mem}(E:ax m m')(f:Addr):ax (m.del f) (m'.del f):=fun b o e=>by
 have hb:b≠f:=fun q=>by subst q;rw[dH] at e;injection e
 rw[cB hb] at e⊢;exact E b o e
structure nU(m:Mem)(f0 f2 f3:Addr)(T D:List (List (List Int)))(m':Mem):Prop where
 ex:∃mr xs ys,ax m mr/\mr f2=none/\mr f3=none/\m'=(mr.set f2 (.list xs)).set f3 (.list ys)/\cn (bH (mr.del f0)) xs T/\cn (bH (mr.del f0)) ys D
theorem Cp{mr:Mem}(hne:f2≠f3)(h2:mr f2=none)(h3:mr f3=none)(o o':cU):ax mr ((mr.set f2 o).set f3 o'):=(ax.set h2).trans (ax.set (by refine rwl (ak (Ne.symm hne)) ?_;exact h3))
theorem nU.ext{m':Mem}(hne:f2≠f3)(H:nU m f0 f2 f3 T D m'):ax m m':=by
 refine wR H.ex fun mr xs ys E h2 h3 e2r0_6 _=>?_
 subst e2r0_6
 exact E.trans (Cp hne h2 h3 _ _)
theorem nU.grow{m' m'':Mem}(hne:f2≠f3)(H:nU m f0 f2 f3 T D m')(E:ax m' m''):nU m f0 f2 f3 T D m'':=by
 refine je H.ex fun mr xs ys E0 h2 h3 e3r0_6 hx hy=>?_
 subst e3r0_6
 have g3:=E f3 _ ao
 have g2:=E f2 (.list xs) (by exact rwl (ak hne) (rwl ao rfl))
 have Er:ax mr ((m''.del f3).del f2):=fun b o e=>by
  have hb2:=fo h2 e
  have hb3:=fo h3 e
  refine rwl (cB hb2) (rwl (cB hb3) ?_)
  exact E b o (by refine rwl (ak hb3) (rwl (ak hb2) ?_);exact e)
 refine⟨(m''.del f3).del f2,xs,ys,E0.trans Er,dH,by refine rwl (cB (Ne.symm hne)) ?_;exact dH,?_,hx.mono fun _ _ q=>q.ext (Er.both f0),hy.mono fun _ _ q=>q.ext (Er.both f0)⟩
 have e2:(m''.del f3) f2=some (.list xs):=by refine rwl (cB hne) ?_;exact g2
 exact rwl dS (rwl (dv e2) (rwl dS (rwl (dv g3) rfl)))
theorem nU.read{m':Mem}(hne:f2≠f3)(H:nU m f0 f2 f3 T D m'):cP bH m' (.ref f2) T/\cP bH m' (.ref f3) D:=by
 refine je H.ex fun mr xs ys E0 h2 h3 e4r0_6 hx hy=>?_
 subst e4r0_6
 have Em:=Cp hne h2 h3 (.list xs) (.list ys)
 exact⟨⟨xs,⟨f2,rfl,by exact rwl (ak hne) (rwl ao rfl)⟩,hx.mono fun _ _ q=>q.ext (ax.part.trans Em)⟩,⟨ys,⟨f3,rfl,ao⟩,hy.mono fun _ _ q=>q.ext (ax.part.trans Em)⟩⟩
theorem nU.readD{m':Mem}(hne:f2≠f3)(h30:f3≠f0)(H:nU m f0 f2 f3 T D m'):cP bH (m'.del f0) (.ref f3) D:=by
 refine je H.ex fun mr xs ys E0 h2 h3 e5r0_6 hx hy=>?_
 subst e5r0_6
 have Em:=Cp hne h2 h3 (.list xs) (.list ys)
 exact⟨ys,⟨f3,rfl,by refine rwl (cB h30) ?_;exact ao⟩,hy.mono fun _ _ q=>q.ext (Em.both f0)⟩
theorem nU.at{m':Mem}(hne:f2≠f3)(H:nU m f0 f2 f3 T D m')(hT:T.length<br){i:Nat}(hi:T[i]? =some s)(h:∀y,bH m' y s->Q y m'):gm (.ref f2) (.int (i:Nat)) Q m':=eG (H.read hne).1 (nn i) hi hT h
theorem nU.push3{m':Mem}(hne:f2≠f3)(H:nU m f0 f2 f3 T D m')(hD:D.length<br)(hT:T.length<br){i:Nat}(hi:T[i]? =some s){P:ae->Mem->Prop}(h:∀m'',nU m f0 f2 f3 T (D++ [s]) m''->(∀b o,b≠f3->m' b=some o->m'' b=some o)->P .none m''):gm (.ref f2) (.int (i:Nat)) (fun y m1=>wJ P (.ref f3) y m1) m':=by
 refine je H.ex fun mr xs ys E0 h2 h3 e6r0_6 hx hy=>?_
 subst e6r0_6
 refine af (hx.get' hi:) fun y hy1 hys=>?_
 refine dG (xs:=xs) (bo.seq ⟨f2,rfl,by exact rwl (ak hne) (rwl ao rfl)⟩) (cX (nn i) (by refine rwl hx.length ?_;exact(Kn.mp hi).1)) hy1 (by refine rwl hx.length ?_;exact hT) ?_
 refine fK ao (by refine rwl hy.length ?_;exact hD) (h _ ⟨mr,xs,ys++ [y],E0,h2,h3,by exact rwl fQ rfl,hx,hy.append (.cons hys .nil)⟩ fun b o hb ho=>by refine rwl (ak hb) ?_;exact ho)
theorem nU.push2{m' m1:Mem}(hne:f2≠f3)(H:nU m f0 f2 f3 T D m')(hT:T.length<br)(hf0:m f0≠none)(E:ax m' m1)(o:ic m' m1 v s){P:ae->Mem->Prop}(h:∀m'',nU m f0 f2 f3 (T++ [s]) D m''->(∀b o,b≠f2->m1 b=some o->m'' b=some o)->P .none m''):wJ P (.ref f2) v m1:=by
 obtain⟨xs0,hx0⟩:∃xs0,m' f2=some (.list xs0):=by
  refine wR H.ex fun mr xs ys _ _ _ e8r0_6 _=>?_
  subst e8r0_6
  exact⟨xs,by exact rwl (ak hne) (rwl ao rfl)⟩
 obtain⟨ys0,hy0⟩:∃ys0,m' f3=some (.list ys0):=by
  refine wR H.ex fun mr xs ys _ _ _ e9r0_6 _=>?_
  subst e9r0_6
  exact⟨ys,ao⟩
 obtain⟨o0,ho0⟩:∃o0,m' f0=some o0:=by
  cases q:m f0 with
  |none=>exact absurd q hf0
  |some o0=>exact⟨o0,(H.ext hne) f0 _ q⟩
 refine je ((H.grow hne E).ex:) fun mr xs ys E0 h2 h3 e10r0_6 hx hy=>?_
 subst e10r0_6
 have o2:=(o.less hy0).less hx0
 have e:(((mr.set f2 (.list xs)).set f3 (.list ys)).del f3).del f2=mr:=by
  funext c
  unfold Mem.del Mem.set
  by_cases q2:c=f2
  ·subst q2;simp [h2]
  ·by_cases q3:c=f3
   ·subst q3;simp [q2,h3]
   ·simp [q2,q3]
 rw[e] at o2
 exact fK (xs:=xs) (by exact rwl (ak hne) (rwl ao rfl)) (by refine rwl hx.length ?_;exact hT) (h _ ⟨mr,xs++ [v],ys,E0,h2,h3,by exact rwl (i8 (Ne.symm hne)) (rwl fQ rfl),hx.append (.cons (o2.less ho0).isT .nil),hy⟩ fun b o hb ho=>by refine rwl (ak hb) ?_;exact ho)
theorem gh{z:ae}{P:Bool->Mem->Prop}(hv:bH m v s)(hz:cP bH m z T)(h:P (!decide (s∈T)) m):cE .notin v z P m:=by
 refine af hz ?_;clear hz;intro xs e1 e2
 refine KF (jT s) ⟨T.map jT,xs,e1.seq,hv.reads,p8 (fun _ _ q=>bH.reads q) e2,ip s,?_,?_⟩
 ·rw[KI]
  intro d hd
  refine af (KL.mp hd:) fun y _ e12r0_2=>?_
  subst e12r0_2
  exact ip y
 ·rw[show ((T.map jT).any fun e=>ef.beq e (jT s))=decide (s∈T) by
   refine rwl List.any_map ?_
   by_cases hx:s∈T
   ·rw[decide_eq_true hx,Nk];exact⟨s,hx,by refine(?_:ef.beq (jT s) (jT s)=true);refine rwl (ll ..) ?_;exact decide_eq_true rfl⟩
   ·rw[decide_eq_false hx,MG];intro y hy e;exact hx (by have:ef.beq (jT y) (jT s)=true:=e;rw[ll] at this;exact of_decide_eq_true this▸hy)]
  exact h
structure uP(t u:List (List Int))(T D:List (List (List Int)))(p:Nat):Prop where
 base:u∈T
 reach:∀s∈T,da t u s
 goal:∀s∈D,da t u s/\cY (aC t s) t.length
 next:∀i s,i<p->T[i]? =some s->∀ws v,eB ws t.length->Around (aC t s) ws->ec s ws v->v∈T
 done:∀i s,i<p->T[i]? =some s->cY (aC t s) t.length->s∈D
theorem uP.all(S:uP t u T D T.length){v:List (List Int)}(h:da t u v)(hno:cY (aC t v) t.length):v∈D:=by
 have go:∀a b,da t a b->a∈T->b∈T:=fun a b r=>by
  induction r with
  |refl=>exact fun h=>h
  |step W A Tn _ ih=>
   intro ha
   refine aO (LL.mp ha:) fun i hi=>?_
   exact ih (S.next i _ (Kn.mp hi).1 hi _ _ W A Tn)
 refine aO (LL.mp (go u v h S.base):) fun i hi=>?_
 exact S.done i v (Kn.mp hi).1 hi hno
end
section
variable{C:bb}{G:String->Option ae}{Q:ae->Mem->Prop}{X:Nat->Mem->Prop}{m:Mem}{n:Nat}{t u s:List (List Int)}{k N:Nat}{v w:ae}{loc:aL}{R:Flow->aL->Mem->Prop}{Y:Nat->aL->Mem->Prop}{x:Int}{ps:List (Nat×Nat)}{a:Addr}{T D:List (List (List Int))}{f0 f2 f3:Addr}{ws:List Nat}
theorem uP.step{T2 D2:List (List (List Int))}{p:Nat}{F:List (List Nat)}(O:Ok t u k)(S:uP t u T D p)(hs:T[p]? =some s)(hF:∀w∈F,eB w t.length/\Around (aC t s) w)(hall:∀cs,kU (aC t s) t.length cs->cs∈F)
  (hT:∀y∈T2,∃w∈F,ec s w y) (hgo:∀w∈F,∃g∈T++T2,ec s w g) (hD:D2=D++(if F= [] then [s] else [])):uP t u (T++T2) D2 (p+1):=by
 have hsm:=Kp hs
 have hR:=S.reach s hsm
 have Os:=hR.ok O
 have hlt:=(Kn.mp hs).1
 have no:F= []->cY (aC t s) t.length:=fun e ws W A=>by
  refine af (tu W A:) fun i hi K=>?_
  have:=hall _ K
  rw[e] at this
  cases this
 refine⟨KR _ S.base,fun y hy=>?_,fun y hy=>?_,fun i y hi hy ws g W A Tn=>?_,fun i y hi hy hno=>?_⟩
 ·rcases KM.mp hy with q|q
  ·exact S.reach y q
  ·refine af (hT y q:) fun w hw Tn=>?_
   exact hR.trans (.step (hF w hw).1 (hF w hw).2 Tn (.refl _))
 ·rw[hD] at hy
  rcases KM.mp hy with q|q
  ·exact S.goal y q
  ·by_cases e:F= []
   ·rw[if_pos e] at q
    refine rwl (Kq.mp q) ?_
    exact⟨hR,no e⟩
   ·rw[if_neg e] at q;cases q
 ·have hiT:i<T.length:=by walk_at"o"
  rw[K8 hiT] at hy
  by_cases e:i=p
  ·subst e
   rw[hs] at hy
   cases hy
   refine af (tu W A:) fun j hj K=>?_
   refine af (hgo _ (hall _ K):) fun g' hg' Tg=>?_
   have Wu:eB ws s.length:=by refine rwl Os.len ?_;exact W
   refine rwl (Tn.unique Wu (Tg.rot Wu hj)) ?_
   exact hg'
  ·exact KR _ (S.next i y (Da hi e) hy ws g W A Tn)
 ·have hiT:i<T.length:=by walk_at"o"
  rw[K8 hiT] at hy
  refine rwl hD ?_
  by_cases e:i=p
  ·subst e
   rw[hs] at hy
   cases hy
   refine KO _ ?_
   have:F= []:=by
    cases F with
    |nil=>rfl
    |cons w r=>exact(hno w (hF w (.head _)).1 (hF w (.head _)).2).elim
   refine rwl (if_pos this) ?_;exact .head _
  ·exact KR _ (S.done i y (by lia) hy hno)
noncomputable def vz:St:= .fors (.one 6) .plain (.nm 5) (aK [
    .asg 7 (.call 18 (.cons (.sub (.nm 2) (.nm 4)) .nil)),
    .fors (.one 8) .range (.b1 .len (.nm 6)) (aK [
     .asgSub (.nm 7) (.sub (.nm 6) (.bin .sub (.nm 8) (.int 1))) (.b1 .list (.sub (.sub (.nm 2) (.nm 4)) (.sub (.nm 6) (.nm 8))))]),
    .ifs (.cmp .notin (.nm 7) (.nm 2)) (aK [
     .expr (.append (.nm 2) (.nm 7))]) .nil])
theorem pL{mb m2:Mem}{p:Nat}{f:Addr}{F:List (List Nat)}{ys:List ae}{y6 y7 y8:Option ae}(O:Ok t s k)(hne:f2≠f3)(hf00:m f0≠none)(H:nU m f0 f2 f3 T D m2)(hb2:mb f2≠none)(hb3:mb f3≠none)(hf0:mb f=none)(hf:m2 f=some (.list ys))(hys:cn (Ac mb m2) ys (F.map zs))(hp:T[p]? =some s)(hT:T.length<=12)(hFl:F.length<100000)
  (hF:∀w∈F,eB w t.length/\Around (aC t s) w)
  (hR:∀T2 m'' y6 y7 y8,nU m f0 f2 f3 (T++T2) D m''->(∀y∈T2,∃w∈F,ec s w y)->(∀w∈F,∃g∈T++T2,ec s w g)->T2.length<=F.length->R .next [some v,some w,some (.ref f2),some (.ref f3),some (.int ((p:Nat)+1)),some (.ref f),y6,y7,y8] m''):
  bJ (CN (n+1)) (b9 GS) (.cons vz (.cons (.asg 4 (.bin .add (.nm 4) (.int 1))) .nil)) R Y [some v,some w,some (.ref f2),some (.ref f3),some (.int (p:Nat)),some (.ref f),y6,y7,y8] m2:=by
 have h8:=O.t8
 have sl:s.length=t.length:=O.len
 have apart:∀{b:Addr},mb b=none->b≠f2/\b≠f3:=fun hb=>⟨fun e=>by subst e;exact hb2 hb,fun e=>by subst e;exact hb3 hb⟩
 have hff:=apart hf0
 dsimp only[vz,aK]
 walk_at"ss"
 refine ar (bo.seq ⟨f,rfl,hf⟩) (by refine rwl (hys.length ..) (rwl (Ki ..) ?_);unfold br;walk_at"o") ?_
 refine bg (fun i l m'=>∃y6 y7 y8 T2,l= [some v,some w,some (.ref f2),some (.ref f3),some (.int (p:Nat)),some (.ref f),y6,y7,y8]/\nU m f0 f2 f3 (T++T2) D m'/\m' f=some (.list ys)/\cn (Ac mb m') ys (F.map zs)/\(∀y∈T2,∃w∈F,ec s w y)/\(∀w∈F.take i,∃g∈T++T2,ec s w g)/\T2.length<=i)
  ⟨_,_,_,[],rfl,by refine rwl (Ll ..) ?_;exact H,hf,hys,(fun y hy=>by cases hy),(fun w hw=>by cases hw),Lk _⟩ (fun i x l m' hx hI P hP=>?_) fun l m' hI=>?_
 ·refine F9 hI ?_;clear hI;intro y6 y7 y8 T2 e4r0_4 H' hf' hys' hT2 hgo hl2
  subst e4r0_4
  refine af (hys'.get hx:) fun r hr hxr=>?_
  rw[KH] at hr
  refine af (KD.mp hr:) fun wy hwy e6r0_2=>?_
  subst e6r0_2
  have hil:i<F.length:=(Kn.mp hwy).1
  have hwm:=Kp hwy
  refine aq (hF wy hwm:) fun W A=>?_
  have Ws:eB wy s.length:=by refine rwl sl ?_;exact W
  have h2:=W.two
  have hTl:(T++T2).length<br:=by refine rwl Km ?_;unfold br;exact Jr hT hFl hl2 hil
  have hp':(T++T2)[p]? =some s:=by refine rwl (K8 (Kn.mp hp).1) ?_;exact hp
  refine aU ?_
  dsimp only[ay]
  walk_at"ss"
  refine H'.at hne hTl hp' fun y hy=>?_
  walk_at"ss"
  refine gY hy O.ul (fun s hs=>sl1 (O.sl hs)) fun vO m3 E3 o3=>?_
  walk_at"ss"
  dsimp only[ay]
  have hxI:=hxr.isI
  refine rS (hxI.ext E3) Ws (by refine rwl sl ?_;exact h8) ?_
  refine aV (gI (Kl W.len h8)) ?_
  refine bg (fun j l m4=>∃y8 g,l= [some v,some w,some (.ref f2),some (.ref f3),some (.int (p:Nat)),some (.ref f),some x,some vO,y8]/\ax m' m4/\ic m' m4 vO g/\iC s wy (wy.length-1) j g) ⟨_,s,rfl,E3,o3,.start _⟩ (fun j z l m4 hz hI P2 hP2=>?_) fun l m4 hI=>?_
  ·refine dJ hI ?_;clear hI;intro y8 g e8r0_2 E4 o4 Tn
   subst e8r0_2
   refine aq (cq hz:) fun hj e9r0_1=>?_
   subst e9r0_1
   have hj:j<wy.length:=hj
   refine aU ?_
   dsimp only[ay]
   walk_at"ss"
   refine(H'.grow hne E4).at hne hTl hp' fun y hy=>?_
   walk_at"ss"
   refine ui Ws (by refine rwl sl ?_;exact h8) (hxI.ext E4) hj ?_
   refine eG hy (nn _) (eO (lq Ws j)) (aa O.ul) fun q hq=>?_
   refine iD hq.seq (av (by refine rwl (Ki ..) ?_;exact aa (sl1 (O.sl (aB (lq Ws j))))) fun e he=>?_)
   walk_at"ss"
   refine zb Ws (by refine rwl sl ?_;exact h8) (hxI.ext (E4.trans (ax.set he))) hj ?_
   refine o4.relist E4 (by refine rwl Tn.len ?_;exact lq Ws _) (by refine rwl Tn.len ?_;exact O.ul) he fun m5 E5 o5 _=>?_
   walk_at"ss"
   with_reducible refine au (hP2 _ _ ?_)
   have T3:=Tn.next Ws hj
   rw[show wy.length-1+j+1=j+wy.length by exact Ii hj,fV (j+wy.length) j (L1 ..),Nd (wy.length-1) j] at T3
   exact⟨trivial,_,_,rfl,E5,o5,T3⟩
  refine dJ hI ?_;clear hI;intro y8 g e10r0_2 E4 o4 Tn
  subst e10r0_2
  rw[aR] at Tn
  have Tg:=Tn.done Ws
  have H4:=H'.grow hne E4
  walk_at"ss"
  refine gh o4.isT (H4.read hne).1 ?_
  by_cases hin:g∈T++T2
  ·refine rwl (decide_eq_true hin) ?_
   walk_at"ss"
   with_reducible refine au (hP _ _ ?_)
   exact⟨bo.stands (k:= .plain) ⟨f,rfl,hf⟩ ⟨f,rfl,E4 f _ hf'⟩,_,_,_,T2,rfl,H4,E4 f _ hf',hys'.mono fun _ _ q=>q.ext E4,hT2,d7 hgo hwy ⟨g,hin,Tg⟩,D9 hl2⟩
  ·refine rwl (decide_eq_false hin) ?_
   walk_at"ss"
   obtain⟨xs2,hx2⟩:∃xs2,m4 f2=some (.list xs2):=by
    refine af ((H4.read hne).1:) fun xs w11r0_1 _=>?_
    refine af w11r0_1 ?_;clear w11r0_1;intro c e hc
    cases e
    exact⟨xs,hc⟩
   refine iW hx2 ?_
   walk_at"ss"
   refine H'.push2 hne hTl hf00 E4 o4 fun m6 H6 keep6=>?_
   walk_at"ss"
   with_reducible refine au (hP _ _ ?_)
   have hf6:=keep6 f _ hff.1 (E4 f _ hf')
   refine⟨bo.stands (k:= .plain) ⟨f,rfl,hf⟩ ⟨f,rfl,hf6⟩,_,_,_,T2++ [g],rfl,by refine rwb (K7 ..) ?_;exact H6,hf6,hys'.mono fun _ _ q=>?_,fun y hy=>?_,?_,by refine rwl Km (rwl KY ?_);with_reducible solve_by_elim (maxDepth:=3) only[*,Kj,Ks,Kl,KN,K6,Ls]⟩
   ·refine bq q ?_;clear q;intro b e12r0_1 hb0 hb
    subst e12r0_1
    exact⟨b,rfl,hb0,keep6 b _ (apart hb0).1 (E4 b _ hb)⟩
   ·rcases KM.mp hy with q|q
    ·exact hT2 y q
    ·refine rwl (Kq.mp q) ?_;exact⟨wy,hwm,Tg⟩
   ·refine d7 (fun w' hw'=>?_) hwy ⟨g,by refine rwb (K7 ..) ?_;exact KO _ (.head _),Tg⟩
    refine af (hgo w' hw':) fun g' h1 h2=>?_
    exact⟨g',by refine rwb (K7 ..) ?_;exact KR _ h1,h2⟩
 ·refine F9 hI ?_;clear hI;intro y6 y7 y8 T2 e14r0_4 H' hf' hys' hT2 hgo hl2
  subst e14r0_4
  rw[hys.length,Ki,K9] at hgo
  walk_at"ss"
  exact hR T2 _ _ _ _ H' hT2 hgo (by rw[hys.length,Ki] at hl2;exact hl2)
theorem qN(O:Ok t u k)(hf00:m f0≠none)(hv:bH m v t)(hw:bH (m.del f0) w u)(h0:∀m',ax m m'->Q .none m')
  (h1:∀(f:Addr) (D:List (List (List Int))) m',ax m m'->cP bH (m'.del f0) (.ref f) D->D.length<1000->(∀s∈D,da t u s/\cY (aC t s) t.length)->(∀s,da t u s->cY (aC t s) t.length->s∈D)->Q (.ref f) m'):CN (n+4) 96 [v,w] Q X m:=by
 (refine aw rfl rfl ?_;dsimp only[mw,aK,bh,KU,Kk,Ko,Kr,KG,Nat.reduceAdd,Nat.reduceSub])
 walk_at"ss"
 refine av (aa (by decide:1<1000)) fun f2 hf2=>?_
 walk_at"ss"
 refine av (aa (by decide)) fun f3 hf3=>?_
 have hne:f2≠f3:=fo hf3 ao
 have hf3m:m f3=none:=by rw[ak (Ne.symm hne)] at hf3;exact hf3
 have h30:f3≠f0:=fun e=>by subst e;exact hf00 hf3m
 walk_at"ss"
 dsimp only[ay]
 have S0:nU m f0 f2 f3 [u] [] ((m.set f2 (.list [w])).set f3 (.list [])):=⟨m,[w],[],.refl,hf2,hf3m,rfl,.cons hw .nil,.nil⟩
 have P0:uP t u [u] [] 0:=⟨.head _,fun s hs=>by refine rwl (Kq.mp hs) ?_;exact .refl _,(fun s hs=>by cases hs),fun i s hi=>absurd hi (L5 _),fun i s hi=>absurd hi (L5 _)⟩
 refine kA _ (jH (fun r l m'=>∃p y5 y6 y7 y8 T D,l= [some v,some w,some (.ref f2),some (.ref f3),some (.int (p:Nat)),y5,y6,y7,y8]/\nU m f0 f2 f3 T D m'/\uP t u T D p/\p<=T.length/\D.length<=p/\p+r=20/\T.length<200000) (fun r l m' hI P hP=>?_) 20 _ _ ⟨0,none,none,none,none,_,_,rfl,S0,P0,Lp _,Lp _,rfl,by refine(?_:1<200000);decide⟩)
 refine JA hI ?_;clear hI;intro p y5 y6 y7 y8 T D e15r0_7 H PS hpT hDl hpr hTl
 subst e15r0_7
 have hTlid:T.length<br:=by unfold br;walk_at"o"
 walk_at"ss"
 refine ba (H.read hne).1 hTlid ?_
 refine n7 (cH ?_)
 by_cases hp:p<T.length
 rotate_left
 ·refine b0 (decide_eq_false (Dk hp)) ?_
  walk_at"ss"
  obtain rfl:p=T.length:=yR hpT hp
  exact h1 f3 D _ (H.ext hne) (H.readD hne h30) (GF hDl hpr) PS.goal fun s hs hno=>PS.all hs hno
 refine ej (decide_eq_true (Dz hp)) ?_
 have hget:=KA hp
 generalize T[p]=s at hget
 have hsT:=Kp hget
 have hR:=PS.reach s hsT
 have Os:=hR.ok O
 walk_at"ss"
 refine H.at hne hTlid hget fun y hy=>?_
 walk_at"ss"
 have E0:=H.ext hne
 refine u9 Os (hv.ext E0) hy (fun m1 E1=>?_) fun f F ys m1 E1 hf0 hf hys hFl hFr hFa=>?_
 ·walk_at"ss"
  dsimp only[ay]
  refine yG rfl ?_
  refine cH (ej rfl ?_)
  walk_at"ss"
  with_reducible refine d8 ?_
  walk_at"ss"
  exact h0 _ (E0.trans E1)
 have H1:=H.grow hne E1
 walk_at"ss"
 dsimp only[ay]
 refine Ca rfl ?_
 walk_at"ss"
 refine ba (H1.read hne).1 hTlid ?_
 walk_at"ss"
 by_cases h12:T.length>12
 ·refine ej (decide_eq_true (En h12)) ?_
  walk_at"ss"
  with_reducible refine d8 ?_
  walk_at"ss"
  exact h0 _ (E0.trans E1)
 refine b0 (decide_eq_false (Fu h12)) ?_
 have hFT:bH m1 (.ref f) (F.map zs):=⟨ys,⟨f,rfl,hf⟩,hys.mono fun _ _ q=>q.isI⟩
 obtain⟨r',rfl⟩:∃r',r=r'+1:=⟨r-1,Jx hpr hp h12⟩
 have h2':m' f2≠none:=by
  refine af ((H.read hne).1:) fun xs w16r0_1 _=>?_
  refine af w16r0_1 ?_;clear w16r0_1;intro c e hc
  cases e
  refine rwl hc ?_;exact fun q=>nomatch q
 have h3':m' f3≠none:=by
  refine af ((H.read hne).2:) fun xs w17r0_1 _=>?_
  refine af w17r0_1 ?_;clear w17r0_1;intro c e hc
  cases e
  refine rwl hc ?_;exact fun q=>nomatch q
 have apart:∀{b:Addr},m' b=none->b≠f2/\b≠f3:=fun hb=>⟨fun e=>by subst e;exact h2' hb,fun e=>by subst e;exact h3' hb⟩
 have fin:∀(T2:List (List (List Int))) D2 m'' y6 y7 y8,D2=D++(if F= [] then [s] else [])->nU m f0 f2 f3 (T++T2) D2 m''->(∀y∈T2,∃w∈F,ec s w y)->(∀w∈F,∃g∈T++T2,ec s w g)->T2.length<=F.length->P [some v,some w,some (.ref f2),some (.ref f3),some (.int ((p:Nat)+1)),some (.ref f),y6,y7,y8] m'':=fun T2 D2 m'' y6 y7 y8 hD H2 g1 g2 g3=>by
  refine hP r' rfl _ _ ⟨p+1,_,_,_,_,T++T2,D2,rfl,H2,PS.step O hget hFr hFa g1 g2 hD,by refine rwl Km ?_;exact EM hp,?_,Dj hpr,by refine rwl Km ?_;exact HE hFl h12 g3⟩
  refine rwl hD (rwl Km ?_)
  have:(if F= [] then [s] else []).length<=1:=by split<;>simp
  exact Dr hDl this
 refine jz (mF (fk _ (by with_unfolding_all rfl) (vx (qk ?_))))
 refine av (aa (by decide)) fun e he=>?_
 have Ee:=ax.set (o:= .list []) he
 have H2:=H1.grow hne Ee
 refine gO (a:=F.map zs) (b:=[]) (hFT.ext Ee) ⟨[],⟨e,rfl,ao⟩,.nil⟩ (cH ?_)
 have hf2e:=Ee f _ hf
 have hyse:=hys.mono fun _ _ q=>q.ext Ee
 generalize m1.set e (.list [])=m2 at H2 hf2e hyse
 by_cases hF0:F= []
 ·refine ej (decide_eq_true (by refine rwl hF0 ?_;rfl)) ?_
  refine lQ (rk (kQ (fk _ (by with_unfolding_all rfl) ?_)))
  obtain⟨ysd,hyd⟩:∃ysd,m2 f3=some (.list ysd):=by
   refine af ((H2.read hne).2:) fun xs w18r0_1 _=>?_
   refine af w18r0_1 ?_;clear w18r0_1;intro c e hc
   cases e
   exact⟨xs,hc⟩
  refine iW hyd (sU (fk _ (by with_unfolding_all rfl) (fk _ (by with_unfolding_all rfl) ?_)))
  refine H2.push3 hne (by unfold br;exact Dd hDl hpr) hTlid hget fun m3 H3 keep3=>?_
  refine ik (d9 (qC (d9 ?_)))
  refine pL (mb:=m') Os hne hf00 H3 h2' h3' hf0 (keep3 f _ (apart hf0).2 hf2e) (hyse.mono fun _ _ q=>?_) hget (Gw h12) hFl hFr fun T2 m'' y6 y7 y8 g0 g1 g2 g3=>au (fin T2 _ m'' y6 y7 y8 (by exact rwl (if_pos hF0) rfl) g0 g1 g2 g3)
  refine bq q ?_;clear q;intro b e19r0_1 hb0 hb
  subst e19r0_1
  exact⟨b,rfl,hb0,keep3 b _ (apart hb0).2 hb⟩
 ·refine b0 (decide_eq_false fun q=>hF0 (Mr.mp q)) ?_
  exact pL (mb:=m') Os hne hf00 H2 h2' h3' hf0 hf2e hyse hget (by lia) hFl hFr fun T2 m'' y6 y7 y8 g0 g1 g2 g3=>au (fin T2 _ m'' y6 y7 y8 (by exact rwl (if_neg hF0 ..) (rwl (Ll ..) rfl)) g0 g1 g2 g3)
end
section hide
variable{m m':Mem}{L:List Addr}{v:ae}{t:List (List Int)}{xs:List Int}
noncomputable def hide (L:List Addr) (m:Mem):Mem:=fun b=>if b∈L then none else m b
theorem aE{b:Addr}(h:b∉L):hide L m b=m b:=if_neg h
theorem mV{b:Addr}(h:b∈L):hide L m b=none:=if_pos h
theorem bj{b:Addr}{o:cU}(h:hide L m b=some o):b∉L/\m b=some o:=by
 by_cases q:b∈L
 ·rw[mV q] at h;injection h
 ·rw[aE q] at h;exact⟨q,h⟩
theorem z6:hide [] m=m:=funext fun _=>aE (fun h=>nomatch h)
theorem ai:ax (hide L m) m:=fun _ _ e=>(bj e).2
theorem ag(E:ax m m'):ax (hide L m) (hide L m'):=fun b o e=>by
 refine aq (bj e:) fun h1 h2=>?_
 refine rwl (aE h1) ?_;exact E b o h2
theorem fw{b:Addr}{o:cU}(h:b∈L):hide L (m.set b o)=hide L m:=by
 funext c
 by_cases q:c∈L
 ·exact rwl (mV q) (rwl (mV q) rfl)
 ·rw[aE q,aE q,ak];rintro rfl;exact q h
theorem dc(hl:∀b∈L,m b≠none)(o:ic m m' v t):bH (hide L m') v t:=by
 refine mU o ?_;clear o;intro a bs e1r0_2 ha hn hbl h0 hb hr
 subst e1r0_2
 have out:∀{c},m c=none->c∉L:=fun h q=>hl _ q h
 refine⟨bs.map .ref,⟨a,rfl,by refine rwl (aE (out h0)) ?_;exact ha⟩,cn.of_get (by refine rwl (Ki ..) ?_;exact hbl) fun i x r h1 h2=>?_⟩
 rw[KH] at h1
 refine af (KD.mp h1:) fun b hb' e2r0_2=>?_
 subst e2r0_2
 exact⟨b,rfl,by refine rwl (aE (out (hb b (Kp hb')).1)) ?_;exact hr i b r hb' h2⟩
theorem bo.hid{xs:List ae}{c:Addr}(h:m c=some (.list xs))(hc:c∉L):bo (hide L m) (.ref c) xs:=⟨c,rfl,by refine rwl (aE hc) ?_;exact h⟩
end hide
section
variable{L:List Addr}{C:bb}{G:String->Option ae}{Q:ae->Mem->Prop}{X:Nat->Mem->Prop}{m:Mem}{n:Nat}{t u u0 s:List (List Int)}{k N:Nat}{v w z:ae}{loc:aL}{R:Flow->aL->Mem->Prop}{Y:Nat->aL->Mem->Prop}{x:Int}{xs:List Int}{a:Addr}{T D St:List (List (List Int))}{f:Addr}
structure u6(L:List Addr)(m:Mem)(f:Addr)(T:List (List (List Int)))(m':Mem):Prop where
 ex:∃mr ys,ax m mr/\mr f=none/\m'=mr.set f (.list ys)/\cn (bH (hide L mr)) ys T
theorem u6.ext{m':Mem}(H:u6 L m f T m'):ax m m':=by
 refine dJ H.ex fun mr ys E h e3r0_4 _=>?_
 subst e3r0_4
 exact E.trans (ax.set h)
theorem u6.grow{m' m'':Mem}(H:u6 L m f T m')(E:ax m' m''):u6 L m f T m'':=by
 refine dJ H.ex fun mr ys E0 h e4r0_4 hy=>?_
 subst e4r0_4
 exact⟨m''.del f,ys,E0.trans (ax.del h E),dH,by exact rwl dS (rwl (dv (E f _ ao)) rfl),hy.mono fun _ _ q=>q.ext (ag (ax.del h E))⟩
theorem u6.read{m':Mem}(H:u6 L m f T m')(hL:∀b∈L,m b≠none):cP bH (hide L m') (.ref f) T:=by
 refine dJ H.ex fun mr ys E0 h e5r0_4 hy=>?_
 subst e5r0_4
 exact⟨ys,bo.hid ao fun q=>hL f q (aQ E0 h),hy.mono fun _ _ q=>q.ext (ag (ax.set h))⟩
theorem u6.here{m':Mem}(H:u6 L m f T m'):∃ys,m' f=some (.list ys):=by
 refine dJ H.ex fun mr ys E0 h e6r0_4 hy=>?_
 subst e6r0_4
 exact⟨ys,ao⟩
theorem u6.push{m' m1:Mem}(H:u6 L m f T m')(hL:∀b∈L,m b≠none)(hT:T.length<br)(E:ax m' m1)(o:ic m' m1 v s){P:ae->Mem->Prop}(h:∀m'',u6 L m f (T++ [s]) m''->ax (m1.del f) (m''.del f)->P .none m''):wJ P (.ref f) v m1:=by
 refine aO H.here fun ys0 hy0=>?_
 refine dJ ((H.grow E).ex:) fun mr ys E0 h2 e8r0_4 hy=>?_
 subst e8r0_4
 have o2:=o.less hy0
 have e:(mr.set f (.list ys)).del f=mr:=by
  funext c
  unfold Mem.del Mem.set
  by_cases q:c=f
  ·subst q;simp [h2]
  ·simp [q]
 rw[e] at o2
 exact fK (xs:=ys) ao (by refine rwl hy.length ?_;exact hT) (h _ ⟨mr,ys++ [v],E0,h2,by exact rwl fQ rfl,hy.append (.cons (dc (fun b hb e=>hL b hb (aQ H.ext e)) o2) .nil)⟩ fun b o hbo=>by
  have hb:b≠f:=fun q=>by subst q;rw[dH] at hbo;injection hbo
  rw[cB hb] at hbo⊢
  refine rwl (ak hb) ?_;exact hbo)
theorem cP.extT{m':Mem}(E:ax m m')(h:cP bH m v T):cP bH m' v T:=cP.ext E (fun _ _ q=>bH.ext E q) h
structure vM(t u0:List (List Int))(k:Nat)(xs:List Int)(St:List (List (List Int))):Prop where
 ok:∀s∈St,Ok t s k/\s.flatten.Perm (u0.flatten++xs)
 all:∀u,ck t u0 xs u->u∈St
theorem ck.inv{l:List Int}(D:ck t u0 (l++ [x]) u):∃u1,ck t u0 l u1/\nC t u1 x u:=by
 generalize hl:l++ [x]=l2 at D
 cases D with
 |nil=>exact absurd hl (by simp)
 | @more l' x' u1 _ D G=>
  refine aq (List.append_inj' hl rfl:) fun h1 h2=>?_
  cases h2
  subst h1
  exact⟨u1,D,G⟩
theorem ck.inv0(D:ck t u0 [] u):u=u0:=by
 generalize hl:([]:List Int)=l2 at D
 cases D with
 |nil=>rfl
 |more D G=>exact absurd hl (by simp)
theorem uf(O:Ok t u0 k)(hL:∀b∈L,m b≠none)(hx:∀x∈xs,0<=x/\x.toNat<k)(hn:(u0.flatten++xs).Nodup)(hl:xs.length<1000)(hv:bH m v t)(hw:bH (hide L m) w u0)(hz:cJ m z xs)(h0:∀m',ax m m'->Q .none m')
  (h1:∀(f:Addr) (St:List (List (List Int))) m',ax m m'->cP bH (hide L m') (.ref f) St->vM t u0 k xs St->St.length<=4->Q (.ref f) m'):CN (n+5) 120 [v,w,z] Q X m:=by
 have hk:=O.k40
 (refine aw rfl rfl ?_;dsimp only[mf,aK,bh,KU,Kk,Ko,Kr,KG,Nat.reduceAdd,Nat.reduceSub])
 walk_at"ss"
 refine av (aa (by decide:1<1000)) fun a3 ha3=>?_
 have E3:=ax.set (o:= .list [w]) ha3
 have hS0:cP bH (hide L (m.set a3 (.list [w]))) (.ref a3) [u0]:=⟨[w],bo.hid ao fun q=>hL _ q ha3,.cons (hw.ext (ag E3)) .nil⟩
 have F0:vM t u0 k [] [u0]:=⟨fun s hs=>by refine rwl (Kq.mp hs) ?_;exact⟨O,by rw[Ll]⟩,fun u D=>by refine rwl D.inv0 ?_;exact .head _⟩
 generalize m.set a3 (.list [w])=m3 at E3 hS0
 walk_at"ss"
 dsimp only[ay]
 refine ar (hz.ext E3).seq (by refine rwl (Ki ..) ?_;exact aa hl) ?_
 refine bg (fun i l m'=>∃a3 y4 y5 y6 y7 y8 y9 St,l= [some v,some w,some z,some (.ref a3),y4,y5,y6,y7,y8,y9]/\ax m m'/\cP bH (hide L m') (.ref a3) St/\vM t u0 k (xs.take i) St/\St.length<=4) ⟨a3,none,none,none,none,none,none,[u0],rfl,E3,hS0,F0,by refine(?_:1<=4);decide⟩ (fun i y l m' hy hI P hP=>?_) fun l m' hI=>?_
 ·refine Dh hI ?_;clear hI;intro a3 y4 y5 y6 y7 y8 y9 St e10r0_8 E hSt FS hSl
  subst e10r0_8
  rw[KH] at hy
  refine af (KD.mp hy:) fun x hxi e11r0_2=>?_
  subst e11r0_2
  have hxm:=Kp hxi
  have htake:xs.take (i+1)=xs.take i++ [x]:=by refine rwl Lb (rwl hxi ?_);rfl
  have hxno:x∉u0.flatten++xs.take i:=fun q=>by
   have h2:(u0.flatten++(xs.take i++ [x])).Nodup:=by
    refine rwb htake ?_
    exact hn.sublist (List.Sublist.append (List.Sublist.refl _) (List.take_sublist _ _))
   rw[<-K7] at h2
   exact(KZ.mp h2).2.2 x q x (.head _) rfl
  refine aU ?_
  dsimp only[ay]
  walk_at"ss"
  refine av (aa (by decide)) fun f hf=>?_
  have Ff:u6 L m' f [] (m'.set f (.list [])):=⟨m',[],.refl,hf,rfl,.nil⟩
  have Ef:=ax.set (o:= .list []) hf
  walk_at"ss"
  dsimp only[ay]
  refine af (id hSt:) fun ys q1 s2=>?_
  have q1:=q1.ext ai
  have s1:=q1.ext Ef
  have hL':∀b∈L,m' b≠none:=fun b hb e=>hL b hb (aQ E e)
  refine ar s1.seq (by refine rwl s2.length ?_;exact aa (by walk_at"o")) ?_
  refine bg (fun j l m2=>∃y6 y7 y8 y9 T,l= [some v,some w,some z,some (.ref a3),some (.int x),some (.ref f),y6,y7,y8,y9]/\u6 L m' f T m2/\(∀g∈T,Ok t g k/\g.flatten.Perm (u0.flatten++(xs.take i++ [x])))/\(∀s∈St.take j,∀v,da t s v->cY (aC t v) t.length->∀g,iX t v x g->g∈T)/\T.length<=1000*j) ⟨_,_,_,_,[],rfl,Ff,(fun g hg=>by cases hg),(fun s hs=>by cases hs),Lp _⟩ (fun j y l m2 hy hI P2 hP2=>?_) fun l m2 hI=>?_
  ·refine CO hI ?_;clear hI;intro y6 y7 y8 y9 T e13r0_5 H hTok hTall hTl
   subst e13r0_5
   refine af (s2.get hy:) fun s hs hys=>?_
   have hsm:=Kp hs
   have hjl:j<4:=Ks (Kn.mp hs).1 hSl
   refine aq (FS.ok s hsm:) fun Os hsp=>?_
   have E2:=E.trans H.ext
   have hys2:bH (m2.del f) y s:=(hys.ext ai).ext (H.ext.less hf)
   have hfn:m2 f≠none:=by obtain⟨ys,e⟩:=H.here;refine rwl e ?_;exact fun q=>nomatch q
   refine aU ?_
   dsimp only[ay]
   walk_at"ss"
   refine qN (f0:=f) Os hfn (hv.ext E2) hys2 (fun m4 E4=>?_) fun g7 D m4 E4 hD hDl hDr hDa=>?_
   ·walk_at"ss"
    dsimp only[ay]
    refine ej rfl ?_
    walk_at"ss"
    with_reducible refine d8 ?_
    with_reducible refine sF ?_
    with_reducible refine d8 ?_
    walk_at"ss"
    exact h0 _ (E2.trans E4)
   have H4:=H.grow E4
   walk_at"ss"
   dsimp only[ay]
   refine b0 rfl ?_
   walk_at"ss"
   refine af (id hD:) fun ds d1 d2=>?_
   have d1':=d1.ext (ax.part (m:=m4) (f:=f))
   refine ar d1'.seq (by refine rwl d2.length ?_;exact aa hDl) ?_
   refine bg (fun q l m5=>∃y8 y9 T2,l= [some v,some w,some z,some (.ref a3),some (.int x),some (.ref f),some y,some (.ref g7),y8,y9]/\u6 L m' f T2 m5/\ax (m4.del f) (m5.del f)/\(∀g∈T2,Ok t g k/\g.flatten.Perm (u0.flatten++(xs.take i++ [x])))/\(∀g∈T,g∈T2)/\(∀d∈D.take q,∀g,iX t d x g->g∈T2)/\T2.length<=1000*j+q)
    ⟨_,_,T,rfl,H4,.refl,hTok,fun g hg=>hg,(fun d hd=>by cases hd),hTl⟩ (fun q yd l m5 hyd hI P3 hP3=>?_) fun l m5 hI=>?_
   ·refine Ae hI ?_;clear hI;intro y8 y9 T2 e17r0_3 H5 E5 hok2 hsub2 hall2 hl2
    subst e17r0_3
    refine af (d2.get hyd:) fun d hd hyd'=>?_
    have hdm:=Kp hd
    have hql:q<D.length:=(Kn.mp hd).1
    refine aq (hDr d hdm:) fun hdR hdN=>?_
    have Od:=hdR.ok Os
    have hdp:=(hdR.perm Os).flatten.trans hsp
    have E05:=E.trans H5.ext
    refine aU ?_
    dsimp only[ay]
    walk_at"ss"
    refine sM (x:=x) Od hk hdN (hv.ext E05) (hyd'.ext (E5.trans ax.part)) fun v9 g m6 E6 o6 hG=>?_
    walk_at"ss"
    dsimp only[ay]
    have H6:=H5.grow E6
    have hgok:=hG.ok Od (hx x hxm) (fun q'=>hxno (hdp.mem_iff.mp q'))
    have hgp:=(hG.flat Od).trans (List.Perm.append_right [x] hdp)
    rw[K7] at hgp
    have E56:=E5.trans (E6.both f)
    refine gh o6.isT ((H6.read hL').extT ai) ?_
    have hstd:∀m7,ax (m4.del f) (m7.del f)->stands .plain (.ref g7) m4 m7:=fun m7 E7=>bo.stands (k:= .plain) d1' (d1.ext (E7.trans ax.part))
    by_cases hin:g∈T2
    ·refine rwl (decide_eq_true hin) ?_
     walk_at"ss"
     with_reducible refine au (hP3 _ _ ?_)
     exact⟨hstd _ E56,_,_,T2,rfl,H6,E56,hok2,hsub2,d7 hall2 hd fun g' hG'=>(hG.unique hG')▸hin,DI hl2⟩
    ·refine rwl (decide_eq_false hin) ?_
     walk_at"ss"
     refine aO H6.here fun ys6 hy6=>?_
     refine iW hy6 ?_
     walk_at"ss"
     refine H5.push hL' (by unfold br;exact JH hjl hDl hl2 hql) E6 o6 fun m7 H7 E7=>?_
     walk_at"ss"
     with_reducible refine au (hP3 _ _ ?_)
     refine⟨hstd _ (E56.trans E7),_,_,T2++ [g],rfl,H7,E56.trans E7,fun g' hg'=>?_,fun g' hg'=>KR _ (hsub2 g' hg'),d7 (fun d' hd' g' hG'=>KR _ (hall2 d' hd' g' hG')) hd fun g' hG'=>by refine rwl (hG'.unique hG) ?_;exact KO _ (.head _),by refine rwl Km (rwl KY ?_);with_reducible solve_by_elim (maxDepth:=3) only[*,Kj,Ks,Kl,KN,K6,Ls]⟩
     rcases KM.mp hg' with q'|q'
     ·exact hok2 g' q'
     ·refine rwl (Kq.mp q') ?_;exact⟨hgok,hgp⟩
   ·refine Ae hI ?_;clear hI;intro y8 y9 T2 e21r0_3 H5 E5 hok2 hsub2 hall2 hl2
    subst e21r0_3
    rw[d2.length,K9] at hall2
    rw[d2.length] at hl2
    walk_at"ss"
    with_reducible refine au (hP2 _ _ ?_)
    refine⟨?_,_,_,_,_,T2,rfl,H5,hok2,d7 (fun s' hs' v' hR hN g hG=>hsub2 g (hTall s' hs' v' hR hN g hG)) hs fun v' hR hN g hG=>hall2 v' (hDa v' hR hN) g hG,FC hDl hl2⟩
    exact bo.stands (k:= .plain) s1 (q1.ext H5.ext)
  ·refine CO hI ?_;clear hI;intro y6 y7 y8 y9 T e22r0_5 H hTok hTall hTl
   subst e22r0_5
   rw[s2.length,K9] at hTall
   rw[s2.length] at hTl
   walk_at"ss"
   dsimp only[ay]
   refine ba ((H.read hL').extT ai) (by unfold br;exact D0 hSl hTl) ?_
   have hnew:vM t u0 k (xs.take (i+1)) T:=by
    refine rwl htake ?_
    refine⟨hTok,fun u D=>?_⟩
    obtain⟨u1,D1,v',hR,hN,hG⟩:=D.inv
    exact hTall u1 (FS.all u1 D1) v' hR hN u hG
   walk_at"ss"
   with_reducible refine bt (fun q=>?_) (fun q=>?_)
   ·walk_at"ss"
    with_reducible refine d8 ?_
    walk_at"ss"
    exact h0 _ (E.trans H.ext)
   ·have q:=of_decide_eq_false q
    walk_at"ss"
    with_reducible refine au (hP _ _ ?_)
    exact⟨bo.stands (k:= .plain) (hz.ext E3) (hz.ext (E.trans H.ext)),f,_,_,_,_,_,_,T,rfl,E.trans H.ext,H.read hL',hnew,Gi q⟩
 ·refine Dh hI ?_;clear hI;intro a3 y4 y5 y6 y7 y8 y9 St e24r0_8 E hSt FS hSl
  subst e24r0_8
  rw[Ki,K9] at FS
  walk_at"ss"
  exact h1 a3 St _ E hSt FS hSl
end
section hide
variable{m m':Mem}{F:List Addr}{T:List (List Int)}{xs:List Int}
noncomputable def gT (T:List (List Int)) (j:Nat):List Int:=T.getD j []
theorem Cv:(Kt T.length).map (gT T)=T:=hU T
noncomputable def eR (T:List (List Int)) (xs:List Int):List (List Int):=(Kt T.length).map fun j=>gT T j++ [xs.getD j 0]
theorem bD:(eR T xs).length=T.length:=by unfold eR;exact rwl (Ki ..) (rwl (Kz ..) rfl)
theorem kD{j:Nat}(h:j<T.length):gT (eR T xs) j=gT T j++ [xs.getD j 0]:=by
 refine(?_:(eR T xs).getD j []=_)
 refine rwl (Ku) ?_
 unfold eR
 refine rwl (KH) (rwl (Ms h) ?_);rfl
structure cZ(F:List Addr)(m:Mem)(a d ra:Addr)(bs:List Addr)(hv:ae)(g:Nat->List Int)(H:List (List Int)):Prop where
 at_:m a=some (.inst d)
 fl:m d=some (.flds [some (.ref ra),some hv])
 ls:m ra=some (.list (bs.map .ref))
 nd:(d::ra::bs).Nodup
 rows:∀(j:Nat) b,bs[j]? =some b->m b=some (.list ((g j).map .int))
 held:bH (hide (d::ra::(bs++F)) m) hv H
 far:∀b∈F,(b≠a/\b∉d::ra::bs)/\m b≠none
variable{a d ra:Addr}{bs:List Addr}{hv:ae}{g:Nat->List Int}{H:List (List Int)}
theorem cZ.live(S:cZ F m a d ra bs hv g H):∀b∈d::ra::(bs++F),m b≠none:=fun b hb e=>by
 rcases Kw.mp hb with rfl|hb
 ·rw[S.fl] at e;injection e
 rcases Kw.mp hb with rfl|hb
 ·rw[S.ls] at e;injection e
 rcases KM.mp hb with hb|hb
 ·refine aO (Mp hb:) fun j hj=>?_
  rw[S.rows j b hj] at e;injection e
 ·exact(S.far b hb).2 e
theorem cZ.live'(S:cZ F m a d ra bs hv g H):∀b∈d::ra::bs,m b≠none:=fun b hb=>S.live b (by
 rcases Kw.mp hb with rfl|hb
 ·exact .head _
 rcases Kw.mp hb with rfl|hb
 ·exact .tail _ (.head _)
 ·exact .tail _ (.tail _ (KR _ hb)))
theorem cZ.ext(S:cZ F m a d ra bs hv g H)(E:ax m m'):cZ F m' a d ra bs hv g H:=
 ⟨E _ _ S.at_,E _ _ S.fl,E _ _ S.ls,S.nd,fun j b hb=>E _ _ (S.rows j b hb),S.held.ext (ag E),fun b hb=>⟨(S.far b hb).1,fun e=>(S.far b hb).2 (aQ E e)⟩⟩
theorem cZ.isT(S:cZ F m a d ra bs hv g H):bH m (.ref ra) ((Kt bs.length).map g):=by
 refine⟨bs.map .ref,⟨ra,rfl,S.ls⟩,cn.of_get (by exact rwl (Ki ..) (rwl (Ki ..) (rwl (Kz ..) rfl))) fun i x r h1 h2=>?_⟩
 rw[KH] at h1 h2
 refine af (KD.mp h1:) fun b hb' e1r0_2=>?_
 subst e1r0_2
 refine af (KD.mp h2:) fun j hj e2r0_2=>?_
 subst e2r0_2
 obtain⟨_,hj⟩:=Kn.mp hj
 rw[MV] at hj
 subst hj
 exact⟨b,rfl,S.rows _ b hb'⟩
theorem cZ.tab(S:cZ F m a d ra bs hv (gT T) H)(hl:bs.length=T.length):bH m (.ref ra) T:=by
 have:=S.isT
 rw[hl,Cv] at this
 exact this
theorem cZ.heldT(S:cZ F m a d ra bs hv g H):bH m hv H:=S.held.ext ai
theorem cZ.ne_d(S:cZ F m a d ra bs hv g H):a≠d:=fun e=>by have h1:=S.at_;rw[e,S.fl] at h1;cases h1
theorem cZ.ne_ra(S:cZ F m a d ra bs hv g H):a≠ra:=fun e=>by have h1:=S.at_;rw[e,S.ls] at h1;cases h1
theorem cZ.ne_b(S:cZ F m a d ra bs hv g H){b:Addr}(hb:b∈bs):a≠b:=fun e=>by
 refine aO (Mp hb:) fun j hj=>?_
 have h1:=S.at_;rw[e,S.rows j b hj] at h1;cases h1
theorem cZ.d_b(S:cZ F m a d ra bs hv g H){b:Addr}(hb:b∈bs):b≠d/\b≠ra:=by
 have h:=S.nd
 rw[KQ,KQ] at h
 exact⟨fun e=>h.1 (.tail _ (e▸hb)),fun e=>h.2.1 (e▸hb)⟩
theorem cZ.d_ra(S:cZ F m a d ra bs hv g H):ra≠d:=fun e=>by
 have h:=S.nd
 rw[KQ] at h
 exact h.1 (e▸ .head _)
theorem cZ.bnd(S:cZ F m a d ra bs hv g H):bs.Nodup:=by
 have h:=S.nd
 rw[KQ,KQ] at h
 exact h.2.2
theorem ng{F:List Addr}{P:Addr->Prop}(h:∀b∈F,P b/\m b≠none){c:Addr}{o:cU}:∀b∈F,P b/\(m.set c o) b≠none:=fun b hb=>⟨(h b hb).1,fun e=>by
 by_cases q:b=c
 ·rw[q,ao] at e;injection e
 ·rw[ak q] at e;exact(h b hb).2 e⟩
theorem cZ.setHeld(S:cZ F m a d ra bs hv g H){hv':ae}{H':List (List Int)}(h:bH (hide (d::ra::(bs++F)) m) hv' H'):cZ F (m.set d (.flds [some (.ref ra),some hv'])) a d ra bs hv' g H':=
 ⟨by refine rwl (ak S.ne_d) ?_;exact S.at_,ao,by refine rwl (ak S.d_ra) ?_;exact S.ls,S.nd,fun j b hb=>by refine rwl (ak (S.d_b (Kp hb)).1) ?_;exact S.rows j b hb,by refine rwl (fw (.head _)) ?_;exact h,ng S.far⟩
theorem cZ.setRow(S:cZ F m a d ra bs hv g H){i:Nat}{b:Addr}(hi:bs[i]? =some b)(r:List Int):cZ F (m.set b (.list (r.map .int))) a d ra bs hv (fun j=>if j=i then r else g j) H:=by
 have hb:=Kp hi
 refine⟨by refine rwl (ak (S.ne_b hb)) ?_;exact S.at_,by refine rwl (ak (Ne.symm (S.d_b hb).1)) ?_;exact S.fl,by refine rwl (ak (Ne.symm (S.d_b hb).2)) ?_;exact S.ls,S.nd,fun j c hc=>?_,by refine rwl (fw (.tail _ (.tail _ (KR _ hb)))) ?_;exact S.held,ng S.far⟩
 by_cases q:j=i
 ·subst q
  rw[hi] at hc;cases hc
  exact rwl ao (rwl (if_pos rfl) rfl)
 ·have hne:c≠b:=fun e=>by
   subst e
   exact q ((Na (Kn.mp hc).1 S.bnd).mp (hc.trans hi.symm))
  refine rwl (ak hne) (rwl (if_neg q) ?_)
  exact S.rows j c hc
theorem cZ.congr(S:cZ F m a d ra bs hv g H){g':Nat->List Int}(h:∀j,j<bs.length->g j=g' j):cZ F m a d ra bs hv g' H:=
 ⟨S.at_,S.fl,S.ls,S.nd,fun j b hb=>by refine rwb (h j (Kn.mp hb).1) ?_;exact S.rows j b hb,S.held,S.far⟩
theorem cZ.alone(S:cZ F m a d ra bs hv g H):cZ [] (hide F m) a d ra bs hv g H:=by
 have out:∀{b},b∈d::ra::bs->b∉F:=fun h q=>(S.far _ q).1.2 h
 refine⟨by refine rwl (aE fun q=>(S.far _ q).1.1 rfl) ?_;exact S.at_,by refine rwl (aE (out (.head _))) ?_;exact S.fl,by refine rwl (aE (out (.tail _ (.head _)))) ?_;exact S.ls,S.nd,fun j b hb=>by refine rwl (aE (out (.tail _ (.tail _ (Kp hb))))) ?_;exact S.rows j b hb,?_,fun b hb=>nomatch hb⟩
 refine S.held.ext fun b o e=>?_
 refine aq (bj e:) fun h1 h2=>?_
 rw[aE,aE fun q=>h1 (.tail _ (.tail _ (KO _ q)))]
 ·exact h2
 ·refine rwl (Ll ..) ?_
  intro q
  rcases Kw.mp q with rfl|q
  ·exact h1 (.head _)
  rcases Kw.mp q with rfl|q
  ·exact h1 (.tail _ (.head _))
  ·exact h1 (.tail _ (.tail _ (KR _ q)))
end hide
section
variable{Q:ae->Mem->Prop}{X:Nat->Mem->Prop}{m:Mem}{n:Nat}{T H:List (List Int)}{k:Nat}{v w z hv:ae}{x:Int}{xs:List Int}{a d ra:Addr}{bs F:List Addr}{g:Nat->List Int}
theorem kR(S:cZ F m a d ra bs hv g H)(hl:H.length<1000)(hr:∀r∈H,r.length<1000)(h:∀v m',ax m m'->ic m m' v H->Q v m'):CN (n+1) 63 [.ref a] Q X m:=by
 (refine aw rfl rfl ?_;dsimp only[iS,aK,bh,KU,Kk,Ko,Kr,KG,Nat.reduceAdd,Nat.reduceSub])
 walk_at"ss"
 refine bE S.at_ S.fl (by decide) rfl ?_
 refine rM (by refine(?_:1<2);decide) S.heldT hl hr fun v m1 E1 o1=>?_
 walk_at"ss"
 exact h _ _ E1 o1
theorem tL(S:cZ F m a d ra bs hv (gT T) H)(hl:bs.length=T.length)(h8:T.length<1000)(hr:∀r∈T,r.length<1000)(h:∀v m',ax m m'->ic m m' v T->Q v m'):CN (n+1) 64 [.ref a] Q X m:=by
 (refine aw rfl rfl ?_;dsimp only[ji,aK,bh,KU,Kk,Ko,Kr,KG,Nat.reduceAdd,Nat.reduceSub])
 walk_at"ss"
 refine bE S.at_ S.fl (by decide) rfl ?_
 refine rM (by refine(?_:1<2);decide) (S.tab hl) h8 hr fun v m1 E1 o1=>?_
 walk_at"ss"
 exact h _ _ E1 o1
theorem xG(S:cZ F m a d ra bs hv (gT T) H)(hl:bs.length=T.length)(O:Ok (eR T xs) H (k+1))(hT:∀r∈T,r.length=k)(hx:∀x∈xs,cV x=true)(hxl:xs.length=T.length)(hk:k<40)(hn:(k:Int)∉H.flatten)(hw:cJ (hide (d::ra::bs) m) w xs)
  (h:∀hv' H' m',cZ F m' a d ra bs hv' (gT (eR T xs)) H'->ax (hide (d::ra::bs) m) (hide (d::ra::bs) m')->nC (eR T xs) H k H'->Q (.int k) m'):CN (n+6) 105 [.ref a,w] Q X m:=by
 have hN8:T.length<=8:=by have:=O.t8;rw[bD] at this;exact this
 have hN1:0<T.length:=by obtain⟨r,t',e,_⟩:=O.row0;have:=bD (T:=T) (xs:=xs);rw[e] at this;refine rwb this ?_;exact Mi _
 have hTl:T.length<br:=aa (by walk_at"o")
 (refine aw rfl rfl ?_;dsimp only[dU,aK,bh,KU,Kk,Ko,Kr,KG,Nat.reduceAdd,Nat.reduceSub])
 walk_at"ss"
 refine bE S.at_ S.fl (by decide) rfl ?_
 refine ba (S.tab hl) hTl ?_
 walk_at"ss"
 refine gE (hw.ext ai) (Hm hxl hN8) fun m1 E1=>?_
 rw[show (decide ((xs.length:Int)=T.length)&&xs.all cV)=true by rw[hxl,decide_eq_true rfl,MI,KI];exact hx]
 walk_at"ss"
 have S1:=S.ext E1
 have E1':ax (hide (d::ra::bs) m) (hide (d::ra::bs) m1):=ag E1
 refine bE S1.at_ S1.fl (by decide) rfl ?_
 refine eG (S1.tab hl) (by decide) (x:=T.getD 0 []) (eO hN1) hTl fun y hy=>?_
 have h0:=hT _ (aB hN1)
 refine gb hy (aa (DL hk h0)) ?_
 refine rwl h0 ?_
 walk_at"ss"
 with_reducible refine b0 (fM (FY hk)) ?_
 walk_at"ss"
 refine gb (hw.ext (E1'.trans ai)) (aa (by lia)) ?_
 refine rwl hxl ?_
 refine aV (gI hN8) ?_
 dsimp only[ay]
 refine bg (fun i l m'=>∃y,l= [some (.ref a),some w,some (.int k),y]/\cZ F m' a d ra bs hv (fun j=>if j<i then gT (eR T xs) j else gT T j) H/\ax (hide (d::ra::bs) m) (hide (d::ra::bs) m'))
  ⟨none,rfl,S1.congr fun j _=>(if_neg (L5 j)).symm,E1'⟩ (fun i y l m' hy hI P hP=>?_) fun l m' hI=>?_
 ·refine bq hI ?_;clear hI;intro z e6r0_1 S' E'
  subst e6r0_1
  refine aq (cq hy:) fun hi e7r0_1=>?_
  subst e7r0_1
  have hi:i<T.length:=hi
  have hib:i<bs.length:=DA hl hi
  have hb:=KA hib
  have hr:=S'.rows i _ hb
  have hbl:(bs.map ae.ref).length<br:=by refine rwl (Ki ..) ?_;exact aa (Hm hl hN8)
  rw[if_neg (Lj i)] at hr
  refine aU ?_
  dsimp only[ay]
  walk_at"ss"
  refine bE S'.at_ S'.fl (by decide) rfl ?_
  walk_at"ss"
  refine dG (xs:=bs.map .ref) (bo.seq ⟨ra,rfl,S'.ls⟩) (cX (nn i) (by refine rwl (Ki ..) ?_;exact hib)) (zo hb) hbl ?_
  refine iW hr ?_
  walk_at"ss"
  refine cz (x:=xs.getD i 0) (hw.ext (E'.trans ai)) (nn i) (cu (by refine(?_:i<_);exact DA hxl hi)) (aa (by lia)) ?_
  refine fK hr (by refine rwl (Ki ..) (rwl (hT _ (aB hi):(gT T i).length=k) ?_);exact aa (by walk_at"o")) ?_
  walk_at"ss"
  with_reducible refine au (hP _ _ ?_)
  have S2:=S'.setRow hb (gT T i++ [xs.getD i 0])
  rw[KT] at S2
  refine⟨trivial,_,rfl,S2.congr fun j hj=>?_,?_⟩
  ·by_cases q:j=i
   ·subst q;exact rwl (if_pos rfl) (rwl (if_pos (LW j)) (rwl (kD hi) rfl))
   ·refine rwl (if_neg q) ?_
    by_cases q':j<i
    ·exact rwl (if_pos q') (rwl (if_pos (Ek q')) rfl)
    ·exact rwl (if_neg q') (rwl (if_neg (Dt q q')) rfl)
  ·refine rwl (fw (.tail _ (.tail _ (Kp hb)))) ?_;exact E'
 ·refine bq hI ?_;clear hI;intro z e8r0_1 S' E'
  subst e8r0_1
  rw[aR] at S'
  have S':cZ F m' a d ra bs hv (gT (eR T xs)) H:=S'.congr fun j hj=>if_pos (by refine(?_:j<_);exact HB hl hj)
  have hl':bs.length=(eR T xs).length:=by refine rwl bD ?_;exact hl
  walk_at"ss"
  refine bE S'.at_ S'.fl (by decide) rfl ?_
  walk_at"ss"
  refine bE S'.at_ S'.fl (by decide) rfl ?_
  walk_at"ss"
  refine kn O ⟨nn _,by refine rwl (L4 ..) ?_;exact Fe⟩ hn (S'.tab hl') S'.heldT fun f L vN u' m2 E2 _ hf o2 hG=>?_
  refine dG (xs:=[.ref f,vN]) rfl rfl rfl (aa (by decide:2<1000)) ?_
  walk_at"ss"
  have S2:=S'.ext E2
  refine nX S2.at_ S2.fl (by decide) rfl ?_
  walk_at"ss"
  refine h vN u' _ (S2.setHeld (dc S'.live o2)) ?_ hG
  refine rwl (fw (.head _)) ?_
  exact E'.trans (ag E2)
end
section plain
variable{u H T:List (List Int)}{k i:Nat}{x:Int}{row:List Int}
structure Tb(T:List (List Int))(k:Nat):Prop where
 l1:0<T.length
 l8:T.length<=8
 k40:k<=40
 row:∀r∈T,r.length=k
 w:∀r∈T,∀x∈r,cV x=true
theorem Tb.tab(B:Tb T k):pW T=true:=by
 cases e:T with
 |nil=>have:=B.l1;rw[e] at this;exact absurd this (Lj 0)
 |cons r T'=>
  have h8:=B.l8
  have hr:=B.row
  have hw:=B.w
  rw[e] at h8 hr hw
  have h0:=hr r (.head _)
  simp only[pW,KW,decide_eq_true_eq,KI]
  refine⟨h8,by refine rwl h0 ?_;exact B.k40,fun x hx=>?_⟩
  simp only[yi,KW,decide_eq_true_eq,KI]
  exact⟨by exact rwl (hr x hx) (rwl h0 rfl),hw x hx⟩
theorem Ok.tb(O:Ok T H k):Tb T k:=by
 refine cG O.row0 fun r t' e _=>?_
 exact⟨by refine rwl e ?_;exact Mi _,O.t8,O.k40,O.row,fun r hr x hx=>decide_eq_true (O.worth hr x hx)⟩
theorem Ok.of(B:Tb T k)(hl:H.length=T.length)(hf:∀s∈H,s.length<=k/\dD k s=true)(hn:H.flatten.Nodup):Ok T H k:=
 ⟨B.tab,B.row,B.k40,hl,fun s hs=>(hf s hs).1,KI.mpr fun s hs=>(hf s hs).2,hn⟩
noncomputable def cutAt {α:Type} (i:Nat) (l:List α):List α:=l.take i++l.drop (i+1)
theorem cg{α:Type}{i:Nat}{l:List α}(h:i<l.length):(cutAt i l).length+1=l.length:=by
 unfold cutAt;refine rwl Km (rwl Le (rwl Li ?_));exact Ih h
theorem lF{α:Type}{i:Nat}{l:List α}:(cutAt i l).Sublist l:=by
 unfold cutAt
 have h1:(l.take i++l.drop (i+1)).Sublist (l.take i++l.drop i):=List.Sublist.append_left (by refine rwb List.drop_drop ?_;exact List.drop_sublist _ _) _
 rw[Mj] at h1
 exact h1
theorem kg{i:Nat}{u:List (List Int)}(h:i<u.length):((cutAt i u).flatten++u.getD i []).Perm u.flatten:=by
 have e:u=u.take i++(u.getD i []::u.drop (i+1)):=by
  have h2:u.getD i []=u[i]:=by refine rwl (Ku) (rwl (KA h) ?_);rfl
  exact rwl (h2 ..) (rwb (Mo h ..) (rwl (Mj ..) rfl))
 have e2:u.flatten=(u.take i).flatten++(u.getD i []++(u.drop (i+1)).flatten):=by
  conv=>lhs;rw[e]
  exact rwl Mt (rwl L3 rfl)
 refine rwl e2 ?_
 unfold cutAt
 refine rwl (Mt ..) (rwl (K7 ..) ?_)
 exact List.Perm.append_left _ Nf
theorem lH{α:Type}{i j:Nat}{l:List α}(h:i<=l.length):(cutAt i l)[j]? =if j<i then l[j]? else l[j+1]? :=by
 unfold cutAt
 refine rwl (MM) (rwl Le (rwl (LQ h) ?_))
 by_cases q:j<i
 ·exact rwl (if_pos q) (rwl (if_pos q) (rwl (List.getElem?_take) (rwl (if_pos q) rfl)))
 ·refine rwl (if_neg q) (rwl (if_neg q) (rwl (ND) ?_))
  congr 1;exact Jg q
theorem cN{α:Type}{i:Nat}{l:List α}{y:α}(h:y∈cutAt i l):y∈l:=lF.subset h
theorem Tb.cut(B:Tb T k)(h2:1<T.length)(hi:i<T.length):Tb (cutAt i T) k:=by
 have:=cg hi
 have:=B.l8
 exact⟨Dw h2 (by assumption),GM (by assumption) this,B.k40,fun r hr=>B.row r (cN hr),fun r hr=>B.w r (cN hr)⟩
theorem Ok.cut(O:Ok T H k)(h2:1<T.length)(hi:i<T.length):Ok (cutAt i T) (cutAt i H) k:=by
 have hl:=O.len
 have h1:=cg hi
 have hc:=cg (l:=H) (i:=i) (Ct hi hl)
 refine Ok.of (O.tb.cut h2 hi) (BE hl h1 hc) (fun s hs=>⟨O.fit s (cN hs),O.share (cN hs)⟩) ?_
 exact(KZ.mp ((kg (u:=H) (i:=i) (by lia)).nodup_iff.mpr O.nd)).1
theorem zg{j:Nat}(hi:i<T.length):gT (cutAt i T) j=if j<i then gT T j else gT T (j+1):=by
 refine(?_:(cutAt i T).getD j []=_)
 refine rwl (Ku) (rwl (lH (KN hi)) ?_)
 by_cases q:j<i
 ·refine rwl (if_pos q) (rwl (if_pos q) ?_);exact Ku.symm
 ·refine rwl (if_neg q) (rwl (if_neg q) ?_);exact Ku.symm
end plain
section
variable{Q:ae->Mem->Prop}{X:Nat->Mem->Prop}{m m':Mem}{n:Nat}{t T H:List (List Int)}{k N i:Nat}{z hv:ae}{x:Int}{xs:List Int}{a d ra:Addr}{bs F:List Addr}
theorem sR(i N:Nat):eN (i:Int) N=i:=by unfold eN;refine rwl (if_pos (nn i)) ?_;rfl
theorem dZ{xs:List ae}:uY false xs (i:Int)=xs.take i:=by refine(?_:xs.take (eN _ _)=_);exact rwl (sR ..) rfl
theorem d6{xs:List ae}:uY true xs ((i:Int)+1)=xs.drop (i+1):=by
 refine(?_:xs.drop (eN _ _)=_)
 exact rwl (rfl:(i:Int)+1=((i+1:Nat):Int)) (rwl (sR ..) rfl)
theorem cn.cutAt{α β:Type}{S:α->β->Prop}{as:List α}{us:List β}(h:cn S as us)(i:Nat):cn S (cutAt i as) (cutAt i us):=by
 have tk:∀{as:List α} {us:List β} (i:Nat),cn S as us->cn S (as.take i) (us.take i)/\cn S (as.drop i) (us.drop i):=fun{as us} i h=>by
  induction h generalizing i with
  |nil=>refine rwl NK (rwl NK (rwl MZ (rwl MZ ?_)));exact⟨.nil,.nil⟩
  |cons a r ih=>
   cases i with
   |zero=>exact⟨.nil,.cons a r⟩
   |succ i=>exact⟨.cons a (ih i).1,(ih i).2⟩
 exact(tk i h).1.append (tk (i+1) h).2
theorem dO{L L':List Addr}(h:∀b∈L',b∈L):ax (hide L m) (hide L' m):=fun b o e=>by
 refine aq (bj e:) fun h1 h2=>?_
 refine rwl (aE fun q=>h1 (h b q)) ?_;exact h2
theorem Dp:ax (hide (d::ra::(bs++F)) m) (hide (d::ra::bs) m):=dO fun b hb=>by
 rcases Kw.mp hb with rfl|hb
 ·exact .head _
 rcases Kw.mp hb with rfl|hb
 ·exact .tail _ (.head _)
 ·exact .tail _ (.tail _ (KR _ hb))
theorem cZ.cutRows(S:cZ F m a d ra bs hv (gT T) H)(hl:bs.length=T.length)(hi:i<T.length)(E:ax m m'){c:Addr}(hc:m c=none)(hc':m' c=some (.list ((cutAt i bs).map .ref))):
  cZ F (m'.set d (.flds [some (.ref c),some hv])) a d c (cutAt i bs) hv (gT (cutAt i T)) H/\ax (hide (d::ra::bs) m) (hide (d::c::cutAt i bs) (m'.set d (.flds [some (.ref c),some hv])))/\ax (hide (d::ra::(bs++F)) m) (hide (d::c::(cutAt i bs++F)) (m'.set d (.flds [some (.ref c),some hv]))):=by
 have nec:∀{b:Addr},m b≠none->b≠c:=fun h e=>h (e▸hc)
 have hcd:c≠d:=fun e=>nec (S.live' d (.head _)) e.symm
 have Eh:ax (hide (d::ra::bs) m) (hide (d::c::cutAt i bs) (m'.set d (.flds [some (.ref c),some hv]))):=fun b o e=>by
  refine aq (bj e:) fun h1 h2=>?_
  have h3:b∉d::c::cutAt i bs:=fun q=>by
   rcases Kw.mp q with rfl|q
   ·exact h1 (.head _)
   rcases Kw.mp q with rfl|q
   ·rw[hc] at h2;injection h2
   ·exact h1 (.tail _ (.tail _ (cN q)))
  rw[aE h3,ak (fun e:b=d=>h3 (by refine rwl e ?_;exact .head _))]
  exact E b o h2
 have EF:ax (hide (d::ra::(bs++F)) m) (hide (d::c::(cutAt i bs++F)) (m'.set d (.flds [some (.ref c),some hv]))):=fun b o e=>by
  refine aq (bj e:) fun h1 h2=>?_
  have h3:b∉d::c::(cutAt i bs++F):=fun q=>by
   rcases Kw.mp q with rfl|q
   ·exact h1 (.head _)
   rcases Kw.mp q with rfl|q
   ·rw[hc] at h2;injection h2
   rcases KM.mp q with q|q
   ·exact h1 (.tail _ (.tail _ (KR _ (cN q))))
   ·exact h1 (.tail _ (.tail _ (KO _ q)))
  rw[aE h3,ak (fun e:b=d=>h3 (by refine rwl e ?_;exact .head _))]
  exact E b o h2
 refine⟨⟨by refine rwl (ak S.ne_d) ?_;exact E _ _ S.at_,ao,by refine rwl (ak hcd) ?_;exact hc',?_,fun j b hb=>?_,?_,?_⟩,Eh,EF⟩
 ·rw[KQ,KQ]
  refine⟨fun q=>?_,fun q=>?_,S.bnd.sublist lF⟩
  ·rcases Kw.mp q with q|q
   ·exact hcd q.symm
   ·exact(S.d_b (cN q)).1 rfl
  ·exact nec (S.live' c (.tail _ (.tail _ (cN q)))) rfl
 ·have hm:=cN (Kp hb)
  refine rwl (ak (S.d_b hm).1) (rwl (zg hi) ?_)
  rw[lH (Ez hl hi)] at hb
  by_cases q:j<i
  ·rw[if_pos q] at hb⊢;exact E _ _ (S.rows j b hb)
  ·rw[if_neg q] at hb⊢;exact E _ _ (S.rows (j+1) b hb)
 ·exact S.held.ext EF
 ·refine ng fun b hb=>⟨⟨(S.far b hb).1.1,fun q=>?_⟩,fun e=>(S.far b hb).2 (aQ E e)⟩
  rcases Kw.mp q with q|q
  ·exact(S.far b hb).1.2 (by refine rwl q ?_;exact .head _)
  rcases Kw.mp q with rfl|q
  ·exact(S.far _ hb).2 hc
  ·exact(S.far b hb).1.2 (.tail _ (.tail _ (cN q)))
theorem Bh(S:cZ F m a d ra bs hv (gT T) H)(hl:bs.length=T.length)(O:Ok T H k)(h2:1<T.length)(hi:i<T.length)
  (h:∀ra' bs' hv' H' m',bs'.length=(cutAt i T).length->cZ F m' a d ra' bs' hv' (gT (cutAt i T)) H'->ax (hide (d::ra::bs) m) (hide (d::ra'::bs') m')->ck (cutAt i T) (cutAt i H) (H.getD i []) H'->Q .none m'):CN (n+6) 106 [.ref a,.int (i:Nat)] Q X m:=by
 have hN8:=O.t8
 have hHl:=O.len
 have hbl:(bs.map ae.ref).length<br:=by refine rwl (Ki ..) ?_;exact aa (Hm hl hN8)
 have hil:(cutAt i bs).length+1=bs.length:=cg (DA hl hi)
 have hiT:=cg hi
 (refine aw rfl rfl ?_;dsimp only[fi,aK,bh,KU,Kk,Ko,Kr,KG,Nat.reduceAdd,Nat.reduceSub])
 walk_at"ss"
 refine bE S.at_ S.fl (by decide) rfl ?_
 walk_at"ss"
 refine jv (S.tab hl) O.tl ⟨nn i,Dz hi⟩ ?_
 walk_at"ss"
 refine bE S.at_ S.fl (by decide) rfl ?_
 refine ba (S.tab hl) (aa (by walk_at"o")) ?_
 walk_at"ss"
 with_reducible refine b0 (fM (GB h2)) ?_
 walk_at"ss"
 refine bE S.at_ S.fl (by decide) rfl ?_
 refine af (id S.held:) fun ys e1 e2=>?_
 refine af (e2.get' (eO (t:=H) (i:=i) (Ct hi hHl)):) fun y hy hyI=>?_
 have hyI:=hyI.ext Dp
 have hyl:ys.length<br:=by refine rwl e2.length ?_;exact aa (F3 hN8 hHl)
 walk_at"ss"
 refine dG (e1.ext ai).seq (cX (nn i) (by refine rwl e2.length ?_;refine(?_:i<_);lia)) hy hyl ?_
 walk_at"ss"
 dsimp only[ay]
 refine bE S.at_ S.fl (by decide) rfl ?_
 walk_at"ss"
 refine pE S.ls hbl (ah (by refine rwl dZ ?_;exact Kj (by refine rwl Le ?_;exact Mh _ _) hbl) fun c1 m1 hc1 E1 he1=>?_)
 have S1:=S.ext E1
 walk_at"ss"
 refine bE S1.at_ S1.fl (by decide) rfl ?_
 walk_at"ss"
 refine pE S1.ls hbl (ah (by refine rwl d6 ?_;exact Kj (by refine rwl Li ?_;exact M9 _ _) hbl) fun c2 m2 hc2 E2 he2=>?_)
 rw[dZ] at he1
 rw[d6] at he2
 refine bZ (bo.lst ⟨c1,rfl,E2 _ _ he1⟩) (bo.lst ⟨c2,rfl,he2⟩) ?_
 refine rwb NL (rwb Nq (rwb KT ?_))
 refine ah (by refine rwl (Ki ..) ?_;exact aa (by refine(?_:(cutAt i bs).length<1000);exact DN hl hN8 hil)) fun c m3 hc E3 he3=>?_
 walk_at"ss"
 have E13:=(E1.trans E2).trans E3
 have S3:=S.ext E13
 refine nX S3.at_ S3.fl (by decide) rfl ?_
 refine cI (S.cutRows hl hi E13 (aQ (E1.trans E2) hc) he3:) fun S4 E4 EF=>?_
 have hcutl:(cutAt i H).length+1=H.length:=cg (by lia)
 change lK _ _ _ _ (m3.set d (.flds [some (.ref c),some hv]))
 generalize (m3.set d (.flds [some (.ref c),some hv]))=m4 at S4 E4 EF⊢
 refine af e1 ?_;clear e1;intro ha e7r0_1 hha
 subst e7r0_1
 have hh4:=(EF.trans ai) _ _ hha
 walk_at"ss"
 refine bE S4.at_ S4.fl (by decide) rfl ?_
 walk_at"ss"
 refine pE hh4 hyl (ah (by refine rwl dZ ?_;exact Kj (by refine rwl Le ?_;exact Mh _ _) hyl) fun c4 m5 hc4 E5 he4=>?_)
 have S5:=S4.ext E5
 walk_at"ss"
 refine bE S5.at_ S5.fl (by decide) rfl ?_
 walk_at"ss"
 refine pE (E5 _ _ hh4) hyl (ah (by refine rwl d6 ?_;exact Kj (by refine rwl Li ?_;exact M9 _ _) hyl) fun c5 m6 hc5 E6 he5=>?_)
 rw[dZ] at he4
 rw[d6] at he5
 refine bZ (bo.lst ⟨c4,rfl,E6 _ _ he4⟩) (bo.lst ⟨c5,rfl,he5⟩) ?_
 refine ah (aa (by have:=cg (l:=ys) (i:=i) (by refine rwl e2.length ?_;lia);have:=e2.length;refine(?_:(cutAt i ys).length<1000);exact ED hN8 hHl (by assumption) this)) fun c6 m7 hc6 E7 he6=>?_
 walk_at"ss"
 have E57:=(E5.trans E6).trans E7
 have S7:=S4.ext E57
 refine nX S7.at_ S7.fl (by decide) rfl ?_
 have hc6':m4 c6=none:=aQ (E5.trans E6) hc6
 have E07:ax (hide (d::ra::bs) m) (hide (d::c::cutAt i bs) m7):=E4.trans (ag E57)
 have hT7:bH (hide (d::c::(cutAt i bs++F)) m7) (.ref c6) (cutAt i H):=
  ⟨cutAt i ys,⟨c6,rfl,by refine rwl (aE fun q=>S4.live _ q hc6') ?_;exact he6⟩,(e2.mono fun _ _ q=>q.ext (EF.trans (ag E57))).cutAt i⟩
 have S8:=S7.setHeld hT7
 have E08:ax (hide (d::ra::bs) m) (hide (d::c::cutAt i bs) (m7.set d (.flds [some (.ref c),some (.ref c6)]))):=by refine rwl (fw (.head _)) ?_;exact E07
 change lK _ _ _ _ (m7.set d (.flds [some (.ref c),some (.ref c6)]))
 generalize (m7.set d (.flds [some (.ref c),some (.ref c6)]))=m8 at S8 E08⊢
 have hlc:(cutAt i bs).length=(cutAt i T).length:=F8 hl hil hiT
 have Oc:Ok (cutAt i T) (cutAt i H) k:=O.cut h2 hi
 have hnd:((cutAt i H).flatten++H.getD i []).Nodup:=(kg (by lia)).nodup_iff.mpr O.nd
 have hth:∀x∈H.getD i [],0<=x/\x.toNat<k:=O.thing (aB (by lia))
 have hTn:(H.getD i []).length<64:=O.sl (aB (by lia))
 walk_at"ss"
 refine ar (hyI.ext (E08.trans ai)).seq (by refine rwl (Ki ..) ?_;exact aa (sl1 hTn)) ?_
 refine bg (fun j l m'=>∃y3 hv' H',l= [some (.ref a),some (.int (i:Nat)),some y,y3]/\cZ F m' a d c (cutAt i bs) hv' (gT (cutAt i T)) H'/\ax (hide (d::ra::bs) m) (hide (d::c::cutAt i bs) m')/\ck (cutAt i T) (cutAt i H) ((H.getD i []).take j) H')
  ⟨none,_,_,rfl,S8,E08,.nil⟩ (fun j x' l m' hx' hI P hP=>?_) fun l m' hI=>?_
 ·refine gf hI ?_;clear hI;intro y3 hv' H' e8r0_3 S' E' D
  subst e8r0_3
  rw[KH] at hx'
  refine af (KD.mp hx':) fun x hxj e9r0_2=>?_
  subst e9r0_2
  have hni:((cutAt i H).flatten++((H.getD i []).take j++ [x])).Nodup:=by
   have:(H.getD i []).take j++ [x]=(H.getD i []).take (j+1):=by refine rwl Lb (rwl hxj ?_);rfl
   refine rwl this ?_
   exact hnd.sublist (List.Sublist.append_left (List.take_sublist _ _) _)
  rw[<-K7] at hni
  have hni':=KZ.mp hni
  refine cI (D.ok Oc (fun z hz=>hth z (MK hz)) hni'.1:) fun Oj hfl _=>?_
  refine aU ?_
  dsimp only[ay]
  walk_at"ss"
  refine bE S'.at_ S'.fl (by decide) rfl ?_
  walk_at"ss"
  refine bE S'.at_ S'.fl (by decide) rfl ?_
  walk_at"ss"
  refine kn Oj (hth x (Kp hxj)) (fun q=>hni'.2.2 x (hfl.mem_iff.mp q) x (.head _) rfl) (S'.tab hlc) S'.heldT fun f L vN u' m2 E2 _ hf o2 hG=>?_
  refine dG (xs:=[.ref f,vN]) rfl rfl rfl (aa (by decide:2<1000)) ?_
  walk_at"ss"
  have S2:=S'.ext E2
  refine nX S2.at_ S2.fl (by decide) rfl ?_
  walk_at"ss"
  with_reducible refine au (hP _ _ ?_)
  have Eo:ax (hide (d::ra::bs) m) (hide (d::c::cutAt i bs) (m2.set d (.flds [some (.ref c),some vN]))):=by refine rwl (fw (.head _)) ?_;exact E'.trans (ag E2)
  refine⟨(hyI.ext (E08.trans ai)).stands (hyI.ext (Eo.trans ai)),_,vN,u',rfl,S2.setHeld (dc S'.live o2),Eo,?_⟩
  refine rwl Lb (rwl hxj ?_)
  exact .more D hG
 ·refine gf hI ?_;clear hI;intro y3 hv' H' e11r0_3 S' E' D
  subst e11r0_3
  rw[Ki,K9] at D
  walk_at"ss"
  exact h _ _ _ _ _ hlc S' E' D
end
section
variable{Q:ae->Mem->Prop}{X:Nat->Mem->Prop}{m m':Mem}{n:Nat}{T H:List (List Int)}{k N:Nat}{w z hv:ae}{x:Int}{row:List Int}{a d ra:Addr}{bs F:List Addr}
theorem cZ.addRow(S:cZ F m a d ra bs hv (gT T) H)(hl:bs.length=T.length)(E:ax m m'){c:Addr}(hc:m c=none)(hc':m' c=some (.list (row.map .int))):
  cZ F (m'.set ra (.list ((bs++ [c]).map .ref))) a d ra (bs++ [c]) hv (gT (T++ [row])) H/\ax (hide (d::ra::bs) m) (hide (d::ra::(bs++ [c])) (m'.set ra (.list ((bs++ [c]).map .ref)))):=by
 have nec:∀{b:Addr},m b≠none->b≠c:=fun h e=>h (e▸hc)
 have hcr:c≠ra:=fun e=>nec (S.live' ra (.tail _ (.head _))) e.symm
 have hcd:c≠d:=fun e=>nec (S.live' d (.head _)) e.symm
 have Eh:ax (hide (d::ra::bs) m) (hide (d::ra::(bs++ [c])) (m'.set ra (.list ((bs++ [c]).map .ref)))):=fun b o e=>by
  refine aq (bj e:) fun h1 h2=>?_
  have h3:b∉d::ra::(bs++ [c]):=fun q=>by
   rcases Kw.mp q with rfl|q
   ·exact h1 (.head _)
   rcases Kw.mp q with rfl|q
   ·exact h1 (.tail _ (.head _))
   rcases KM.mp q with q|q
   ·exact h1 (.tail _ (.tail _ q))
   ·rw[Kq.mp q,hc] at h2;injection h2
  rw[aE h3,ak (fun e:b=ra=>h3 (by refine rwl e ?_;exact .tail _ (.head _)))]
  exact E b o h2
 refine⟨⟨by refine rwl (ak S.ne_ra) ?_;exact E _ _ S.at_,by refine rwl (ak (Ne.symm S.d_ra)) ?_;exact E _ _ S.fl,ao,?_,fun j b hb=>?_,S.held.ext fun b o e=>?_,?_⟩,Eh⟩
 ·rw[KQ,KQ]
  refine⟨fun q=>?_,fun q=>?_,?_⟩
  ·rcases Kw.mp q with q|q
   ·exact S.d_ra q.symm
   rcases KM.mp q with q|q
   ·exact(S.d_b q).1 rfl
   ·exact hcd (Kq.mp q).symm
  ·rcases KM.mp q with q|q
   ·exact(S.d_b q).2 rfl
   ·exact hcr (Kq.mp q).symm
  ·rw[KZ]
   refine⟨S.bnd,KQ.mpr ⟨LX,LH⟩,fun y hy z hz e=>?_⟩
   rw[Kq.mp hz] at e
   exact nec (S.live' y (.tail _ (.tail _ hy))) e
 ·refine(?_:_=some (cU.list (((T++ [row]).getD j []).map ae.int)))
  refine rwl (Ku) (rwl (MM) ?_)
  rw[MM] at hb
  by_cases q:j<bs.length
  ·rw[if_pos q] at hb
   refine rwl (if_pos (A5 hl q)) (rwl (ak (S.d_b (Kp hb)).2) (rwb (Ku) ?_))
   exact E _ _ (S.rows j b hb)
  ·rw[if_neg q] at hb
   have hj:=(Kn.mp hb).1
   have hj:j=bs.length:=by simp at hj;exact IZ q hj
   subst hj
   rw[Mq] at hb
   cases hb
   refine rwl (if_neg (Fw hl) ..) (rwl (hl ..) (rwl (Mq ..) (rwl (ak hcr ..) ?_)))
   exact hc'
 ·refine aq (bj e:) fun h1 h2=>?_
  have h3:b∉d::ra::(bs++ [c]++F):=fun q=>by
   rcases Kw.mp q with rfl|q
   ·exact h1 (.head _)
   rcases Kw.mp q with rfl|q
   ·exact h1 (.tail _ (.head _))
   rcases KM.mp q with q|q
   ·rcases KM.mp q with q|q
    ·exact h1 (.tail _ (.tail _ (KR _ q)))
    ·rw[Kq.mp q,hc] at h2;injection h2
   ·exact h1 (.tail _ (.tail _ (KO _ q)))
  rw[aE h3,ak (fun e:b=ra=>h3 (by refine rwl e ?_;exact .tail _ (.head _)))]
  exact E b o h2
 ·refine ng fun b hb=>⟨⟨(S.far b hb).1.1,fun q=>?_⟩,fun e=>(S.far b hb).2 (aQ E e)⟩
  rcases Kw.mp q with q|q
  ·exact(S.far b hb).1.2 (by refine rwl q ?_;exact .head _)
  rcases Kw.mp q with rfl|q
  ·exact(S.far _ hb).1.2 (.tail _ (.head _))
  rcases KM.mp q with q|q
  ·exact(S.far b hb).1.2 (.tail _ (.tail _ q))
  ·exact(S.far b hb).2 (by refine rwl (Kq.mp q) ?_;exact hc)
theorem w1(S:cZ F m a d ra bs hv (gT T) H)(hl:bs.length=T.length)(B:Tb (T++ [row]) k)(hN:0<T.length)(hw:cJ (hide (d::ra::bs) m) w row)
  (h:∀bs' hv' H' m',bs'.length=(T++ [row]).length->cZ F m' a d ra bs' hv' (gT (T++ [row])) H'->ax (hide (d::ra::bs) m) (hide (d::ra::bs') m')->ck (T++ [row]) (bA (T++ [row]).length) (zs (Kt k)) H'->Q (.int T.length) m'):CN (n+7) 107 [.ref a,w] Q X m:=by
 have h8:=B.l8
 have hll:(T++ [row]).length=T.length+1:=by refine rwl Km ?_;rfl
 have hTl:T.length<br:=aa (FE h8 hll)
 have hk:=B.k40
 have hr:row.length=k:=B.row row (KO _ (.head _))
 have h0:=B.row _ (KR [row] (aB hN))
 (refine aw rfl rfl ?_;dsimp only[dT,aK,bh,KU,Kk,Ko,Kr,KG,Nat.reduceAdd,Nat.reduceSub])
 walk_at"ss"
 refine bE S.at_ S.fl (by decide) rfl ?_
 refine eG (S.tab hl) (by decide) (x:=T.getD 0 []) (eO hN) hTl fun y hy=>?_
 refine gb hy (aa (DG hk h0)) ?_
 refine rwl h0 (rwb hr ?_)
 walk_at"ss"
 refine gE (hw.ext ai) (DG hk hr) fun m1 E1=>?_
 have hrow:(decide ((row.length:Int)=row.length)&&row.all cV)=true:=by
  rw[decide_eq_true rfl,MI,KI]
  intro y hy
  exact B.w row (KO _ (.head _)) y hy
 refine rwl hrow ?_
 walk_at"ss"
 have S1:=S.ext E1
 have E1':ax (hide (d::ra::bs) m) (hide (d::ra::bs) m1):=ag E1
 refine bE S1.at_ S1.fl (by decide) rfl ?_
 refine ba (S1.tab hl) hTl ?_
 walk_at"ss"
 with_reducible refine b0 (fM (EY h8 hll)) ?_
 walk_at"ss"
 refine bE S1.at_ S1.fl (by decide) rfl ?_
 refine iW S1.ls ?_
 walk_at"ss"
 refine iD (hw.ext (E1'.trans ai)).seq (ah (by refine rwl (Ki ..) ?_;exact aa (by lia)) fun c m2 hc E2 he=>?_)
 have S2:=S1.ext E2
 refine fK S2.ls (by refine rwl (Ki ..) ?_;exact aa (GD hl h8 hll)) ?_
 refine aq (S1.addRow hl E2 hc he:) fun S3 E3=>?_
 rw[show bs.map ae.ref++ [.ref c]=(bs++ [c]).map .ref by refine rwl KT ?_;rfl]
 generalize (m2.set ra (.list ((bs++ [c]).map .ref)))=m3 at S3 E3⊢
 have hl':(bs++ [c]).length=bs.length+1:=by refine rwl Km ?_;rfl
 have hl3:(bs++ [c]).length=(T++ [row]).length:=FJ hl hll hl'
 have O3:Ok (T++ [row]) (bA (T++ [row]).length) k:=rP B.tab B.row hk
 walk_at"ss"
 refine bE S3.at_ S3.fl (by decide) rfl ?_
 walk_at"ss"
 refine pD O3 (S3.tab hl3) fun vD uD m4 E4 o4 D=>?_
 walk_at"ss"
 have S4:=S3.ext E4
 refine nX S4.at_ S4.fl (by decide) rfl ?_
 have S5:=S4.setHeld (dc S3.live o4)
 have E5:ax (hide (d::ra::bs) m) (hide (d::ra::(bs++ [c])) (m4.set d (.flds [some (.ref ra),some vD]))):=by refine rwl (fw (.head _)) ?_;exact(E1'.trans E3).trans (ag E4)
 change lK _ _ _ _ (m4.set d (.flds [some (.ref ra),some vD]))
 generalize (m4.set d (.flds [some (.ref ra),some vD]))=m5 at S5 E5⊢
 walk_at"ss"
 refine bE S5.at_ S5.fl (by decide) rfl ?_
 refine ba (S5.tab hl3) (aa (by walk_at"o")) ?_
 walk_at"ss"
 have:=h _ _ _ _ hl3 S5 E5 D
 refine rwl (by exact Fp hll:((T++ [row]).length:Int)-1=T.length) ?_
 exact this
theorem xB(ha:m a=some (.inst d))(hd:m d=some (.flds [none,none]))(hF:∀b∈F,(b≠a/\b≠d)/\m b≠none)(h1:1<=N)(h8:N<=8)
  (h:∀ra bs hv m',bs.length=(bA N).length->cZ F m' a d ra bs hv (gT (bA N)) (bA N)->ax (hide [d] m) (hide (d::ra::bs) m')->Q .none m'):CN (n+2) 59 [.ref a,.int (N:Nat)] Q X m:=by
 have had:a≠d:=fun e=>by rw[e,hd] at ha;cases ha
 (refine aw rfl rfl ?_;dsimp only[ew,aK,bh,KU,Kk,Ko,Kr,KG,Nat.reduceAdd,Nat.reduceSub])
 walk_at"ss"
 refine fh ?_
 refine rwl (decide_eq_true (by exact Dx h1 h8:(1:Int)<=N/\(N:Int)<=8)) ?_
 walk_at"ss"
 refine aV (gI h8) ?_
 refine dN (fun _=>[]) (by refine rwl (aR ..) ?_;refine(?_:N<1000);walk_at"o") (fun _ _=>trivial) (fun j x m' hx E P hP=>?_) fun v1 m1 E1 o1=>?_
 ·walk_at"ss"
  exact av (aa (by decide)) fun c hc=>hP c m' .refl hc
 rw[aR] at o1
 refine mU o1 ?_;clear o1;intro ra bs e3r0_2 hra hnd hbl h0 hb hr
 subst e3r0_2
 have hbl:bs.length=N:=by refine rwl (hbl ..) (rwl (Ki ..) (rwl (Kz ..) ?_));rfl
 have ned:∀{b:Addr},m b=none->b≠d:=fun q e=>by rw[e,hd] at q;injection q
 have hrows:∀(j:Nat) b,bs[j]? =some b->m1 b=some (.list (([]:List Int).map .int)):=fun j b q=>by
  refine hr j b [] q ?_
  have hj:j<N:=by have:=(Kn.mp q).1;exact A5 hbl this
  refine rwl (KH) (rwl (Ms hj:(Kt (Int.toNat N))[j]? =some j) ?_)
  rfl
 walk_at"ss"
 refine nX (E1 _ _ ha) (E1 _ _ hd) (by decide) rfl ?_
 have F2:(m1.set d (.flds [some (.ref ra),none])) a=some (.inst d):=by refine rwl (ak had) ?_;exact E1 _ _ ha
 have G2:(m1.set d (.flds [some (.ref ra),none])) d=some (.flds [some (.ref ra),none]):=ao
 have H2:(m1.set d (.flds [some (.ref ra),none])) ra=some (.list (bs.map .ref)):=by refine rwl (ak (ned h0)) ?_;exact hra
 have I2:∀(j:Nat) b,bs[j]? =some b->(m1.set d (.flds [some (.ref ra),none])) b=some (.list (([]:List Int).map .int)):=fun j b q=>by refine rwl (ak (ned (hb b (Kp q)).1)) ?_;exact hrows j b q
 have J2:∀b o,b≠d->m b=some o->(m1.set d (.flds [some (.ref ra),none])) b=some o:=fun b o hbd e=>by refine rwl (ak hbd) ?_;exact E1 _ _ e
 change lK _ _ _ _ (m1.set d (.flds [some (.ref ra),none]))
 generalize (m1.set d (.flds [some (.ref ra),none]))=m2 at F2 G2 H2 I2 J2⊢
 walk_at"ss"
 refine aV (gI h8) ?_
 refine dN (fun _=>[]) (by refine rwl (aR ..) ?_;refine(?_:N<1000);walk_at"o") (fun _ _=>trivial) (fun j x m' hx E P hP=>?_) fun v2 m3 E3 o3=>?_
 ·walk_at"ss"
  exact av (aa (by decide)) fun c hc=>hP c m' .refl hc
 rw[aR] at o3
 walk_at"ss"
 refine nX (E3 _ _ F2) (E3 _ _ G2) (by decide) rfl ?_
 have hlive:∀b∈d::ra::(bs++F),m2 b≠none:=fun b q e=>by
  rcases Kw.mp q with rfl|q
  ·rw[G2] at e;injection e
  rcases Kw.mp q with rfl|q
  ·rw[H2] at e;injection e
  rcases KM.mp q with q|q
  ·refine aO (Mp q:) fun j hj=>?_
   rw[I2 j b hj] at e;injection e
  ·refine aq (hF b q:) fun w5r0_0 q3=>?_
   refine aq w5r0_0 ?_;clear w5r0_0;intro _ q2
   cases e':m b with
   |none=>exact q3 e'
   |some o=>rw[J2 b o q2 e'] at e;injection e
 have hT:bH (hide (d::ra::(bs++F)) (m3.set d (.flds [some (.ref ra),some v2]))) v2 (bA N):=by
  refine rwl (fw (.head _)) ?_
  exact dc hlive o3
 walk_at"ss"
 have hE:∀j,gT (bA N) j= []:=fun j=>by
  refine(?_:(bA N).getD j []= [])
  refine rwl (Ku) ?_
  cases e:(bA N)[j]? with
  |none=>rfl
  |some r=>obtain⟨_,_,rfl⟩:=KL.mp (Kp e);rfl
 refine h ra bs v2 _ (by refine rwl hbl ?_;unfold bA;exact rwl (Ki ..) (rwl (Kz ..) rfl)) ⟨?_,ao,?_,?_,fun j b q=>?_,hT,fun b q=>?_⟩ fun b o e=>?_
 ·refine(?_:(m3.set d _) a=_)
  refine rwl (ak had) ?_;exact E3 _ _ F2
 ·refine(?_:(m3.set d _) ra=_)
  refine rwl (ak (ned h0)) ?_;exact E3 _ _ H2
 ·rw[KQ,KQ]
  refine⟨fun q=>?_,fun q=>(hb _ q).2 rfl,hnd⟩
  rcases Kw.mp q with q|q
  ·exact ned h0 q.symm
  ·exact ned (hb _ q).1 rfl
 ·refine(?_:(m3.set d _) b=_)
  refine rwl (ak (ned (hb b (Kp q)).1) ..) (rwl (hE ..) ?_)
  exact E3 _ _ (I2 j b q)
 ·refine aq (hF b q:) fun w6r0_0 q3=>?_
  refine aq w6r0_0 ?_;clear w6r0_0;intro q1 q2
  refine⟨⟨q1,fun q4=>?_⟩,fun e=>?_⟩
  ·rcases Kw.mp q4 with q4|q4
   ·exact q2 q4
   rcases Kw.mp q4 with rfl|q4
   ·exact q3 h0
   ·exact q3 (hb b q4).1
  ·have e:(m3.set d (.flds [some (.ref ra),some v2])) b=none:=e
   rw[ak q2] at e
   cases e':m b with
   |none=>exact q3 e'
   |some o=>rw[E3 _ _ (J2 b o q2 e')] at e;injection e
 ·refine aq (bj e:) fun p1 p2=>?_
  have hbd:b≠d:=fun q=>p1 (by refine rwl q ?_;exact .head _)
  have h3:b∉d::ra::bs:=fun q=>by
   rcases Kw.mp q with q|q
   ·exact hbd q
   rcases Kw.mp q with rfl|q
   ·rw[h0] at p2;injection p2
   ·rw[(hb _ q).1] at p2;injection p2
  refine rwl (aE h3) ?_
  refine(?_:(m3.set d _) b=_)
  refine rwl (ak hbd) ?_
  exact E3 _ _ (J2 b o hbd p2)
end
section deed
variable{t u u0 v T T' H H' s:List (List Int)}{k k' i:Nat}{x:Int}{xs ws row l:List Int}{st:List Nat}
theorem iX.more(O:Ok t v k)(hx:0<=x/\x.toNat<k)(G:iX t v x u){i:Nat}(hi:i<t.length):sm t v i i<=sm t u i i:=by
 obtain⟨j,F,s,hs,_,rfl⟩:=G
 have hjv:j<v.length:=by refine rwl O.len ?_;exact F.lt
 unfold sm
 refine rwl (jj hjv) ?_
 by_cases e:j=i
 ·subst e
  have hr:=aB hi
  have:=(O.worth hr _ (Kp (cu (by refine rwl (O.row _ hr) ?_;exact hx.2)))).1
  refine rwl (if_pos rfl ..) (rwl (n9 hs ..) (rwl (qH ..) (rwl (uR ..) (rwl (xn ..) ?_))))
  exact DO this
 ·refine rwl (if_neg e) ?_;exact MQ _
theorem da.more(O:Ok t u k)(h:da t u v)(i:Nat):sm t u i i<=sm t v i i:=by
 induction h with
 |refl=>exact MQ _
 |step W A T _ ih=>exact Lm (qm O W A T i) (ih (T.ok O (by refine rwl O.len ?_;exact W)))
theorem ck.less(O:Ok t u0 k)(D:ck t u0 xs u)(hx:∀x∈xs,0<=x/\x.toNat<k)(hn:(u0.flatten++xs).Nodup){i:Nat}(hi:i<t.length):sm t u0 i i<=sm t u i i:=by
 induction D with
 |nil=>exact MQ _
 | @more xs x u u' D G ih=>
  rw[<-K7] at hn
  have hn':=KZ.mp hn
  have hx':=fun y hy=>hx y (KR _ hy)
  refine cI (D.ok O hx' hn'.1:) fun O1 _ _=>?_
  refine bq G ?_;clear G;intro w R _ G
  exact Lm (ih hx' hn'.1) (Lm (R.more O1 i) (G.more (R.ok O1) (hx x (KO _ (.head _))) hi))
structure tY(T H:List (List Int))(k:Nat):Prop where
 ok:Ok T H k
 born:jS T H
 full:H.flatten.Perm (zs (Kt k))
noncomputable def aZ (T T':List (List Int)) (st:List Nat) (s:List (List Int)):List (List Int):=if T.length<T'.length then bA T'.length else st.map fun j=>s.getD j []
noncomputable def cD (k:Nat) (u:List (List Int)):List Int:=(zs (Kt k)).filter fun x=>decide (x∉u.flatten)
theorem kO:∀x∈cD k u,0<=x/\x.toNat<k:=fun x hx=>yo (Lk k) x (K5.mp hx).1
theorem iN(O:Ok T u k):(u.flatten++cD k u).Nodup:=by
 rw[KZ]
 exact⟨O.nd,(zG k).filter _,fun a ha b hb e=>of_decide_eq_true (K5.mp hb).2 (e▸ha)⟩
theorem iQ{x:Int}:x∈zs (Kt k)↔0<=x/\x.toNat<k:=⟨fun h=>yo (Lk k) x h,fun⟨h1,h2⟩=>by
 refine rwl (by exact Dl h1:x=((x.toNat:Nat):Int)) ?_
 exact eP.mpr (KS.mpr h2)⟩
theorem Ok.flat_in(O:Ok T u k):∀x∈u.flatten,0<=x/\x.toNat<k:=fun x hx=>by
 refine af (List.mem_flatten.mp hx:) ?_;clear hx;intro s hs hx
 exact O.thing hs x hx
theorem lI(O:Ok T u k):(u.flatten++cD k u).Perm (zs (Kt k)):=
 (MJ (iN O) (zG k)).mpr fun x=>by
  rw[KM]
  refine⟨fun h=>iQ.mpr (h.elim (O.flat_in x) (kO x)),fun h=>?_⟩
  by_cases q:x∈u.flatten
  ·exact .inl q
  ·exact .inr (K5.mpr ⟨h,decide_eq_true q⟩)
theorem na(O:Ok T u k)(hl:l.Pairwise (·<=·))(hp:(u.flatten++l).Perm (zs (Kt k))):l=cD k u:=
 fR ((List.perm_append_left_iff _).mp (hp.trans (lI O).symm)) hl ((jF k).filter _)
inductive ed(T:List (List Int))(k:Nat):List (List Int)->Nat->List Nat->Prop
 |come (ws:List Int) (hl:ws.length=T.length) (hw:∀x∈ws,cV x=true) (hk:k<40):ed T k (eR T ws) (k+1) (Kt T.length)
 |go (i:Nat) (hi:i<T.length) (h2:1<T.length):ed T k (cutAt i T) k (cutAt i (Kt T.length))
 |join (row:List Int) (hr:row.length=k) (hw:∀x∈row,cV x=true) (h8:T.length<8):ed T k (T++ [row]) k []
 |same:ed T k T k (Kt T.length)
theorem dP(h:¬T.length<T'.length)(hs:s.length=T.length):aZ T T' (Kt T.length) s=s:=by
 unfold aZ;refine rwl (if_neg h) (rwb hs ?_);exact hU s
theorem lB{α β:Type}{f:α->β}{l:List α}:(cutAt i l).map f=cutAt i (l.map f):=by unfold cutAt;exact rwl KT (rwl NL (rwl Nq rfl))
theorem kB(hi:i<T.length)(hs:s.length=T.length):aZ T (cutAt i T) (cutAt i (Kt T.length)) s=cutAt i s:=by
 have:=cg hi
 unfold aZ;exact rwl (if_neg (DW this)) (rwl lB (rwb hs (rwl (hU s) rfl)))
theorem lM:aZ T (T++ [row]) st s=bA (T++ [row]).length:=by
 unfold aZ;rw[if_pos (by refine rwl Km ?_;exact LW _)]
theorem ed.tb(D:ed T k T' k' st)(B:Tb T k):Tb T' k':=by
 cases D with
 |come hl hw hk=>
  have mm:∀r∈eR T hl,∃j,j<T.length/\r=gT T j++ [List.getD hl j 0]:=fun r hr=>by
   refine af (KL.mp hr:) fun j hj e4r0_2=>?_
   subst e4r0_2
   exact⟨j,KS.mp hj,rfl⟩
  refine⟨by refine rwl bD ?_;exact B.l1,by refine rwl bD ?_;exact B.l8,by walk_at"o",fun r hr=>?_,fun r hr x hx=>?_⟩
  ·refine af (mm r hr:) fun j hj e5r0_2=>?_
   subst e5r0_2
   refine rwl Km (rwl (B.row _ (aB hj):(gT T j).length=k) ?_);rfl
  ·refine af (mm r hr:) fun j hj e6r0_2=>?_
   subst e6r0_2
   rcases KM.mp hx with q|q
   ·exact B.w _ (aB hj) x q
   ·refine rwl (Kq.mp q) ?_
    exact hk _ (Kp (cu (DA hw hj)))
 |go i hi h2=>exact B.cut h2 hi
 |join row hr hw h8=>
  have hl:(T++ [row]).length=T.length+1:=by refine rwl Km ?_;rfl
  refine⟨EP hl,Et h8 hl,B.k40,fun r q=>?_,fun r q=>?_⟩
  ·rcases KM.mp q with q|q
   ·exact B.row r q
   ·refine rwl (Kq.mp q) ?_;exact hr
  ·rcases KM.mp q with q|q
   ·exact B.w r q
   ·refine rwl (Kq.mp q) ?_;exact hw
 |same=>exact B
theorem u7(h:dD k xs=true):dD ((k+1:Nat):Int) xs=true:=by
 simp only[dD,jo,KW,KI,decide_eq_true_eq] at h⊢
 exact⟨⟨fun x hx=>by have:=h.1.1 x hx;exact DP this,h.1.2⟩,h.2⟩
theorem ed.ok(D:ed T k T' k' st)(O:Ok T s k):Ok T' (aZ T T' st s) k':=by
 have B:=D.tb O.tb
 cases D with
 |come ws hl hw hk=>
  rw[dP (by refine rwl bD ?_;exact Lj _) O.len]
  exact Ok.of B (by refine rwl bD ?_;exact O.len) (fun s hs=>⟨NG (O.fit s hs),u7 (O.share hs)⟩) O.nd
 |go i hi h2=>refine rwl (kB hi O.len) ?_;exact O.cut h2 hi
 |join row hr hw h8=>refine rwl lM ?_;exact rP B.tab B.row B.k40
 |same=>refine rwl (dP (Lj _) O.len) ?_;exact O
theorem tF{r:List Int}{y:Int}(h:x.toNat<r.length):(r++ [y]).getD x.toNat 0=r.getD x.toNat 0:=by
 exact rwl (Ku) (rwl (K8 h) (rwb (Ku) rfl))
theorem za{r:List Int}{y:Int}(h:∀x∈l,x.toNat<r.length):cT (r++ [y]) l=cT r l:=by
 unfold cT
 congr 1
 exact List.map_congr_left fun x hx=>tF (h x hx)
theorem Ok.small(O:Ok T s k){i j:Nat}(hi:i<T.length)(hj:j<T.length):∀x∈s.getD j [],x.toNat<(T.getD i []).length:=fun x hx=>by
 refine rwl (O.row _ (aB hi)) ?_;exact(O.thing (aB (by refine rwl O.len ?_;exact hj)) x hx).2
theorem kZ(O:Ok T s k){i j:Nat}(hi:i<T.length)(hj:j<T.length):sm (eR T ws) s i j=sm T s i j:=by
 unfold sm
 refine rwl (show (eR T ws).getD i []=_ from kD hi) ?_
 exact za (O.small hi hj)
noncomputable def up (i p:Nat):Nat:=if p<i then p else p+1
theorem gW(hi:i<T.length)(p:Nat):(cutAt i T).getD p []=T.getD (up i p) []:=by
 refine rwl (show (cutAt i T).getD p []=_ from zg hi) ?_
 unfold up
 by_cases q:p<i
 ·refine rwl (if_pos q) (rwl (if_pos q) ?_);rfl
 ·refine rwl (if_neg q) (rwl (if_neg q) ?_);rfl
theorem yz{p:Nat}(h:p+1<k):up i p<k:=by unfold up;split<;>with_reducible solve_by_elim (maxDepth:=3) only[*,Kj,Ks,Kl,KN,K6,Ls]
theorem ed.same_sum(D:ed T k T' k' st)(O:Ok T s k){p j:Nat}(h:st[p]? =some j):p<T'.length/\j<T.length/\sm T' (aZ T T' st s) p p=sm T s j j:=by
 have rg:∀{p j:Nat},(Kt T.length)[p]? =some j->p=j/\j<T.length:=fun{p j} h=>by
  obtain⟨h1,h2⟩:=Kn.mp h
  rw[MV] at h2
  rw[Kz] at h1
  exact⟨h2,h2▸h1⟩
 cases D with
 |come ws hl hw hk=>
  refine aq (rg h:) fun e8r0_0 hj=>?_
  subst e8r0_0
  rw[dP (by refine rwl bD ?_;exact Lj _) O.len,bD]
  exact⟨hj,hj,kZ O hj hj⟩
 |go i hi h2=>
  have hc:=cg hi
  have hpl:=(Kn.mp h).1
  have hcr:=cg (l:=Kt T.length) (i:=i) (by refine rwl Kz ?_;exact hi)
  rw[Kz] at hcr
  rw[lH (by refine rwl Kz ?_;walk_at"o")] at h
  have hju:j=up i p:=by
   unfold up
   by_cases q:p<i
   ·rw[if_pos q] at h⊢;exact(rg h).1.symm
   ·rw[if_neg q] at h⊢;exact(rg h).1.symm
  subst hju
  refine⟨DR hc hpl hcr,yz (Gb hpl hcr),?_⟩
  refine rwl (kB hi O.len) ?_
  unfold sm
  rw[gW hi,gW (by refine rwl O.len ?_;exact hi)]
 |join row hr hw h8=>injection h
 |same=>
  refine aq (rg h:) fun e9r0_0 hj=>?_
  subst e9r0_0
  refine rwl (dP (Lj _) O.len) ?_
  exact⟨hj,hj,rfl⟩
theorem ed.born(D:ed T k T' k' st)(S:tY T H k):jS T' (aZ T T' st H):=by
 have O:=S.ok
 have O':=D.ok O
 cases D with
 |come ws hl hw hk=>
  rw[dP (by refine rwl bD ?_;exact Lj _) O.len]
  intro p hp
  refine cI (bL.mp hp:) fun h1 h2 h3=>?_
  rw[bD] at h1 h2
  rw[kZ O h1 h2,kZ O h1 h1] at h3
  refine af (S.born p (bL.mpr ⟨h1,h2,h3⟩):) fun x hx hle=>?_
  refine⟨x,hx,?_⟩
  refine rwl (kZ O h1 h2) (rwl (kZ O h1 h1) (rwl (show (eR T ws).getD p.1 []=_ from kD h1) (rwl (tF (r:=gT T p.1) (O.small h1 h2 x hx)) ?_)))
  exact hle
 |go i hi h2=>
  have hc:=cg hi
  refine rwl (kB hi O.len) ?_
  have e:∀a b,sm (cutAt i T) (cutAt i H) a b=sm T H (up i a) (up i b):=fun a b=>by unfold sm;rw[gW hi,gW (by refine rwl O.len ?_;exact hi)]
  intro p hp
  refine cI (bL.mp hp:) fun h1 h2 h3=>?_
  rw[e,e] at h3
  refine af (S.born (up i p.1,up i p.2) (bL.mpr ⟨yz (DV hc h1),yz (DV hc h2),h3⟩):) fun x hx hle=>?_
  refine⟨x,by rw[gW (by refine rwl O.len ?_;exact hi)];exact hx,?_⟩
  refine rwl (e ..) (rwl (e ..) (rwl (gW hi ..) ?_))
  exact hle
 |join row hr hw h8=>rw[lM] at O'⊢;exact pO O'
 |same=>refine rwl (dP (Lj _) O.len) ?_;exact S.born
theorem ed.snd(D:ed T k T' k' st)(S:tY T H k)(h:ck T' (aZ T T' st H) (cD k' (aZ T T' st H)) H'):tY T' H' k':=by
 have O:=D.ok S.ok
 refine cI (h.ok O kO (iN O):) fun h1 h2 h3=>?_
 exact⟨h1,h3 (D.born S),h2.trans (lI O)⟩
theorem qd(S:tY T H k)(O':Ok T' H (k+1)): [(k:Int)]=cD (k+1) H:=by
 refine na O' (List.pairwise_singleton _ _) ?_
 refine rwl (wh ..) ?_
 exact List.Perm.append_right _ S.full
theorem AD(S:tY T H k)(h2:1<T.length)(hi:i<T.length):H.getD i []=cD k (cutAt i H):=by
 have hl:=S.ok.len
 have hm:=aB (t:=H) (i:=i) (Ct hi hl)
 refine na (S.ok.cut h2 hi) ?_ ((kg (by lia)).trans S.full)
 have:=S.ok.share hm
 simp only[dD,KW,decide_eq_true_eq] at this
 exact this.2
theorem pS{N:Nat}(O':Ok T' (bA N) k):zs (Kt k)=cD k (bA N):=
 na O' (jF k) (by refine rwl (gV ..) ?_;exact List.Perm.refl _)
theorem p4(S:tY T H k): []=cD k H:=na S.ok .nil (by refine rwl (Ll ..) ?_;exact S.full)
end deed
section
variable{L:List Addr}{Q:ae->Mem->Prop}{X:Nat->Mem->Prop}{m m':Mem}{n:Nat}{u T T' s:List (List Int)}{k k' i:Nat}{v w z f:ae}{x:Int}{st:List Nat}
theorem dE(O:Ok T u k)(hv:bH m v T)(h:Q (.int k) m):gm v (.int 0) (fun y m1=>gj .len y Q m1) m:=by
 refine cG O.row0 fun r t' et hr=>?_
 refine eG hv (by decide) (x:=r) (by refine rwl et ?_;rfl) (aa O.tl) fun y hy=>?_
 refine gb hy (aa (by refine rwl hr ?_;have:=O.k40;walk_at"o")) ?_
 refine rwl hr ?_;exact h
theorem sj(h:k<=40):0<=(k:Int)/\(k:Int)<br:=qW ⟨nn k,Bp h⟩
theorem BC{st:List Nat}{i:Nat}{x:ae}(h:((zs st).map ae.int)[i]? =some x):∃j:Nat,st[i]? =some j/\x= .int (j:Nat):=by
 unfold zs at h
 rw[K0,KH] at h
 refine af (KD.mp h:) fun j h1 h2=>?_
 exact⟨j,h1,h2.symm⟩
theorem Ok.flat40(O:Ok T u k):u.flatten.length<=k:=by
 have:=gv O.nd (l':=zs (Kt k)) fun x hx=>iQ.mpr (O.flat_in x hx)
 rw[aT,Kz] at this;exact this
theorem n3(hL:∀b∈L,m b≠none)(O':Ok T' (aZ T T' st s) k')(hT:T.length<1000)(hs:s.length<1000)(hst:∀j∈st,j<s.length)(hsl:st.length<1000)(hr:∀r∈s,r.length<1000)(hv:bH m v T)(hz:cJ m z (zs st))(hw:bH (hide L m) w s)(hf:bH m f T')
  (h:∀vK vR m',ax m m'->bH (hide L m') vK (aZ T T' st s)->cJ m' vR (cD k' (aZ T T' st s))->Q (.tup [vK,vR]) m'):CN (n+1) 121 [v,z,w,f] Q X m:=by
 have hk:=O'.k40
 (refine aw rfl rfl ?_;dsimp only[qx,aK,bh,KU,Kk,Ko,Kr,KG,Nat.reduceAdd,Nat.reduceSub])
 walk_at"ss"
 refine dE O' hf ?_
 refine dC (sj hk) (ah (by refine rwl (aR ..) ?_;exact aa (by refine(?_:k'<1000);walk_at"o")) fun a4 m1 h4 E1 e4=>?_)
 rw[dK] at e4
 have hth:cJ m1 (.ref a4) (zs (Kt k')):=⟨a4,rfl,e4⟩
 walk_at"ss"
 refine ba (hf.ext E1) (aa O'.tl) ?_
 walk_at"ss"
 refine ba (hv.ext E1) (aa hT) ?_
 walk_at"ss"
 with_reducible refine bt (fun q=>?_) (fun q=>?_)
 ·have q:T.length<T'.length:=by have:=of_decide_eq_true q;exact G5 this
  have hE:aZ T T' st s=bA T'.length:=by unfold aZ;exact rwl (if_pos q) rfl
  rw[hE] at O' h
  walk_at"ss"
  refine af (hf.ext E1:) fun ys e1 e2=>?_
  refine ar e1.seq (by refine rwl e2.length ?_;exact aa O'.tl) ?_
  refine dN (fun _=>[]) (by refine rwl e2.length ?_;exact O'.tl) (fun m' E=>e1.stands (e1.ext E)) (fun j x m' hx E P hP=>?_) fun v1 m2 E2 o2=>?_
  ·walk_at"ss"
   exact av (aa (by decide)) fun c hc=>hP c m' .refl hc
  rw[e2.length] at o2
  walk_at"ss"
  refine⟨aa (by decide:2<1000),?_⟩
  walk_at"ss"
  refine h v1 _ m2 (E1.trans E2) (dc (fun b hb e=>hL b hb (aQ E1 e)) o2) ?_
  refine rwb (pS O') ?_
  exact hth.ext E2
 ·have q:¬T.length<T'.length:=by have:=of_decide_eq_false q;exact Go this
  have hE:aZ T T' st s=st.map fun j=>s.getD j []:=by unfold aZ;exact rwl (if_neg q) rfl
  rw[hE] at O' h
  walk_at"ss"
  have hz1:=hz.ext E1
  have hw1:cP (fun m=>cJ (hide L m)) m1 w s:=let ⟨xs,h1,h2⟩:=hw.ext (ag E1);⟨xs,h1.ext ai,h2⟩
  refine ar hz1.seq (by refine rwl (Ki ..) (rwl (aT ..) ?_);exact aa hsl) ?_
  refine dq (fun i acc m'=>m'=m1/\cn (cJ (hide L m1)) acc ((st.take i).map fun j=>s.getD j [])) ⟨rfl,.nil⟩ (fun i x acc m' hx hI P hP=>?_) fun acc m' hI=>?_
  ·refine aq hI ?_;clear hI;intro e3r0_0 hA
   subst e3r0_0
   refine af (BC hx:) fun j hj e4r0_2=>?_
   subst e4r0_2
   refine gU ?_
   walk_at"ss"
   refine eG hw1 (nn j) (eO (hst j (Kp hj))) (aa hs) fun y hy=>?_
   refine hP [y] _ ⟨hz1.stands hz1,rfl,?_⟩
   refine rwl Lb (rwl hj (rwl KT ?_))
   exact hA.append (.cons hy .nil)
  refine aq hI ?_;clear hI;intro e5r0_0 hA
  subst e5r0_0
  rw[Ki,aT,K9] at hA
  have hKl:(st.map fun j=>s.getD j []).length<1000:=by refine rwl (Ki ..) ?_;exact hsl
  refine ah (by refine rwl hA.length ?_;exact aa hKl) fun a5 m2 h5 E2 e5=>?_
  have hK:bH (hide L m2) (.ref a5) (st.map fun j=>s.getD j []):=⟨acc,bo.hid e5 fun q=>hL _ q (aQ E1 h5),hA.mono fun _ _ q=>q.ext (ag E2)⟩
  generalize (st.map fun j=>s.getD j [])=K at O' h hK hKl
  clear hA e5
  walk_at"ss"
  refine ah (aa (by decide:0<1000)) fun a6 m3 h6 E3 e6=>?_
  walk_at"ss"
  refine af ((hK.ext (ag E3)).ext ai:) fun ys eL eA=>?_
  have hfl:∀i,(K.take i).flatten.length<1000:=fun i=>by
   have h1:=jV (u:=K) i
   have h2:=O'.flat40
   exact FX hk h1 h2
  refine ar eL.seq (by refine rwl eA.length ?_;exact aa hKl) ?_
  refine bg (fun i l m'=>∃c y7,l= [some v,some z,some w,some f,some (.ref a4),some (.ref a5),some (.ref c),y7,none,none,none]/\ax m3 m'/\cJ m' (.ref c) (K.take i).flatten) ⟨a6,none,rfl,.refl,a6,rfl,e6⟩ (fun i x l m' hx hI P hP=>?_) fun l m' hI=>?_
  ·refine bB hI ?_;clear hI;intro c y7 e7r0_2 E hc
   subst e7r0_2
   refine af (eA.get hx:) fun r hr' hxr=>?_
   refine aU ?_
   dsimp only[ay]
   have hxr:=cJ.ext E hxr
   refine af (id hxr:) fun b e9r0_1 eb=>?_
   subst e9r0_1
   walk_at"ss"
   refine bZ hc.lst hxr.lst ?_
   refine rwb KT ?_
   have e:(K.take i).flatten++r=(K.take (i+1)).flatten:=by refine rwl Lb (rwl hr' (rwl Mt ?_));refine(?_:_=_++ [r].flatten);exact rwl List.flatten_singleton rfl
   refine rwl e ?_
   refine ah (by refine rwl (Ki ..) ?_;exact aa (hfl _)) fun c' m'' hc' E' e'=>?_
   walk_at"ss"
   with_reducible refine au (hP _ _ ?_)
   exact⟨eL.stands (eL.ext (E.trans E')),c',_,rfl,E.trans E',c',rfl,e'⟩
  ·refine bB hI ?_;clear hI;intro c y7 e10r0_2 E hc
   subst e10r0_2
   rw[eA.length,K9] at hc
   have E14:=E2.trans (E3.trans E)
   have hth4:=hth.ext E14
   walk_at"ss"
   refine ar hth4.seq (by refine rwl (Ki ..) (rwl (aT ..) (rwl (Kz ..) ?_));exact aa (by walk_at"o")) ?_
   refine cS (c:=fun x=>match x with| .int i=>decide (i∉K.flatten)|_=>false) (g:=fun x=>x) (hth4.stands hth4) (fun x hx P hP=>?_) (fun x hx P hP=>?_) ?_
   ·refine af (KL.mp hx:) fun i _ e11r0_2=>?_
    subst e11r0_2
    walk_at"ss"
    refine iE hc ?_
    refine rwb decide_not ?_
    exact hP
   ·walk_at"ss"
    exact hP
   refine rwl (l9 (zs (Kt k')) (fun x=>decide (x∉K.flatten)) _ fun x _=>rfl) ?_
   refine ah (by refine rwl (Ki ..) ?_;exact aa (by have:=Lh (fun x=>decide (x∉K.flatten)) (zs (Kt k'));rw[aT,Kz] at this;exact IU hk this)) fun a9 m9 h9 E9 e9=>?_
   walk_at"ss"
   refine⟨aa (by decide:2<1000),?_⟩
   walk_at"ss"
   exact h _ _ _ (E1.trans (E14.trans E9)) (hK.ext (ag (E3.trans (E.trans E9)))) ⟨a9,rfl,e9⟩
end
section
variable{L:List Addr}{C:bb}{G:String->Option ae}{Q:ae->Mem->Prop}{X:Nat->Mem->Prop}{m m':Mem}{n:Nat}{t u T T' H H' s:List (List Int)}{k k' N i:Nat}{v w z f:ae}{loc:aL}{R:Flow->aL->Mem->Prop}{Y:Nat->aL->Mem->Prop}{x:Int}{st:List Nat}{Ss:List (List (List Int))}
theorem ed.st_lt(D:ed T k T' k' st):(∀j∈st,j<T.length)/\st.length<=T.length:=by
 cases D with
 |come ws hl hw hk=>exact⟨fun j hj=>KS.mp hj,by refine rwl Kz ?_;exact Lk _⟩
 |go i hi h2=>exact⟨fun j hj=>KS.mp (cN hj),by have:=(lF (i:=i) (l:=Kt T.length)).length_le;rw[Kz] at this;exact this⟩
 |join row hr hw h8=>exact⟨(fun j hj=>nomatch hj),Lp _⟩
 |same=>exact⟨fun j hj=>KS.mp hj,by refine rwl Kz ?_;exact Lk _⟩
noncomputable def Hk (T:List (List Int)) (k:Nat) (Ss:List (List (List Int))):Prop:=∀s∈Ss,Ok T s k/\s.flatten.Perm (zs (Kt k))
theorem wq(D:ed T k T' k' st)(hM:Hk T k Ss)(hl:Ss.length<=4)(hL:∀b∈L,m b≠none)(hS:cP bH (hide L m) v Ss)(hT:bH m w T)(hz:cJ m z (zs st))(hf:bH m f T')(h0:∀m',ax m m'->Q .none m')
  (h1:∀c Fs m',ax m m'->cP bH (hide L m') (.ref c) Fs->Hk T' k' Fs->Fs.length<=4->(∀s∈Ss,∀u,ck T' (aZ T T' st s) (cD k' (aZ T T' st s)) u->u∈Fs)->Q (.ref c) m'):CN (n+6) 122 [v,w,z,f] Q X m:=by
 (refine aw rfl rfl ?_;dsimp only[tV,aK,bh,KU,Kk,Ko,Kr,KG,Nat.reduceAdd,Nat.reduceSub])
 walk_at"ss"
 refine ah (aa (by decide:0<1000)) fun a4 m1 h4 E1 e4=>?_
 walk_at"ss"
 refine af (hS.extT (ag E1):) fun ys eL eA=>?_
 have eL:=eL.ext ai
 refine ar eL.seq (by refine rwl eA.length ?_;exact aa (by walk_at"o")) ?_
 refine bg (fun i l m'=>∃c y5 y6 y7 y8 Fs,l= [some v,some w,some z,some f,some (.ref c),y5,y6,y7,y8,none]/\ax m1 m'/\cP bH (hide L m') (.ref c) Fs/\Hk T' k' Fs/\Fs.length<=4*i/\∀s∈Ss.take i,∀u,ck T' (aZ T T' st s) (cD k' (aZ T T' st s)) u->u∈Fs) ⟨a4,none,none,none,none,[],rfl,.refl,⟨[],bo.hid e4 fun q=>hL _ q h4,.nil⟩,(fun s hs=>nomatch hs),Lp _,fun s hs=>nomatch hs⟩ (fun i x l m' hx hI P hP=>?_) fun l m' hI=>?_
 ·refine CX hI ?_;clear hI;intro c y5 y6 y7 y8 Fs e13r0_6 E hF hMF hFl hall
  subst e13r0_6
  refine af (eA.get hx:) fun s hs hxs=>?_
  have hsm:=Kp hs
  have O:=(hM s hsm).1
  have O':=D.ok O
  have hi4:i<4:=by have:=(Kn.mp hs).1;walk_at"o"
  refine aU ?_
  dsimp only[ay]
  walk_at"ss"
  have hL':∀b∈L,m' b≠none:=fun b hb e=>hL b hb (aQ (E1.trans E) e)
  refine n3 hL' O' O.tl O.ul (fun j hj=>by refine rwl O.len ?_;exact D.st_lt.1 j hj) (by have:=D.st_lt.2;have:=O.t8;exact DM (by assumption) this) (fun r hr=>sl1 (O.sl hr)) (hT.ext (E1.trans E)) (hz.ext (E1.trans E)) (hxs.ext (ag E)) (hf.ext (E1.trans E)) fun vK vR m2 E2 hK hR=>?_
  walk_at"ss"
  refine uf O' (fun b hb e=>hL' b hb (aQ E2 e)) kO (iN O') (by have:=gv ((KZ.mp (iN O')).2.1) (l':=zs (Kt k')) fun x hx=>(K5.mp hx).1;rw[aT,Kz] at this;have:=O'.k40;exact FW (by assumption) this) (hf.ext ((E1.trans E).trans E2)) hK hR (fun m3 E3=>?_) fun b So m3 E3 hSo FS hSl=>?_
  ·walk_at"ss"
   refine ej rfl ?_
   walk_at"ss"
   with_reducible refine d8 ?_
   walk_at"ss"
   exact h0 _ (((E1.trans E).trans E2).trans E3)
  ·have E13:=(E.trans E2).trans E3
   have hF3:=hF.extT (ag (E2.trans E3))
   have hL3:∀b∈L,m3 b≠none:=fun b hb e=>hL' b hb (aQ (E2.trans E3) e)
   refine af (id hSo:) fun zs' oL oA=>?_
   have oL:=oL.ext ai
   walk_at"ss"
   refine b0 rfl ?_
   walk_at"ss"
   refine ar oL.seq (by refine rwl oA.length ?_;exact aa (by walk_at"o")) ?_
   refine dq (fun i acc m'=>m'=m3/\cn (bH (hide L m3)) acc ((So.take i).filter fun s=>!decide (s∈Fs))) ⟨rfl,.nil⟩ (fun i x acc m' hx hI P hP=>?_) fun acc m' hI=>?_
   ·refine aq hI ?_;clear hI;intro e16r0_0 hA
    subst e16r0_0
    refine af (oA.get hx:) fun s' hs' hxs'=>?_
    refine KF _ ⟨rfl,eY ?_⟩
    walk_at"ss"
    refine gh (hxs'.ext ai) (hF3.extT ai) ?_
    walk_at"ss"
    with_reducible refine bt (fun q=>?_) (fun q=>?_)
    ·walk_at"ss"
     refine hP _ _ ⟨oL.stands oL,rfl,?_⟩
     refine rwl (Lb ..) (rwl (hs' ..) (rwl (MY ..) ?_))
     refine hA.append ?_
     refine(?_:cn _ [x] (Nb _ [s']))
     refine rwl (List.filter_cons_of_pos (p:=fun s=>!decide (s∈Fs)) q) ?_
     exact .cons hxs' .nil
    ·refine hP _ _ ⟨oL.stands oL,rfl,?_⟩
     refine rwl (Lb ..) (rwl (hs' ..) (rwl (MY ..) ?_))
     refine(?_:cn _ _ (_++Nb _ [s']))
     rw[List.filter_cons_of_neg (p:=fun s=>!decide (s∈Fs)) (by refine rwl q ?_;exact M6)]
     exact hA.append .nil
   refine aq hI ?_;clear hI;intro e18r0_0 hA
   subst e18r0_0
   rw[oA.length,K9] at hA
   have hfl:=Lh (fun s=>!decide (s∈Fs)) So
   refine ah (by refine rwl hA.length ?_;exact aa (GP hSl hfl)) fun a8 m4 h8 E4 e8=>?_
   refine af (hF3.extT (ag E4):) fun ws fL fA=>?_
   have fL:=fL.ext ai
   refine bZ fL.lst (bo.lst ⟨a8,rfl,e8⟩) ?_
   refine ah (by refine rwl Km (rwl hA.length (rwl fA.length ?_));exact aa (IF hFl hi4 hSl hfl)) fun a9 m5 h9 E5 e9=>?_
   walk_at"ss"
   with_reducible refine au (hP _ _ ?_)
   have Eall:=E13.trans (E4.trans E5)
   refine⟨eL.stands (eL.ext Eall),a9,_,_,_,_,Fs++So.filter (fun s=>!decide (s∈Fs)),rfl,Eall,⟨_,bo.hid e9 fun q=>hL3 _ q (aQ E4 h9),(fA.mono fun _ _ q=>q.ext (ag E5)).append (hA.mono fun _ _ q=>q.ext (ag (E4.trans E5)))⟩,fun s' hs'=>?_,by refine rwl Km ?_;exact GO hFl hSl hfl,?_⟩
   ·rcases KM.mp hs' with q|q
    ·exact hMF s' q
    ·refine aq (FS.ok s' (K5.mp q).1:) fun h1 h2=>?_
     exact⟨h1,h2.trans (lI O')⟩
   ·refine d7 (fun s0 hs0 u hu=>KR _ (hall s0 hs0 u hu)) hs fun u hu=>?_
    by_cases q:u∈Fs
    ·exact KR _ q
    ·exact KO _ (K5.mpr ⟨FS.all u hu,by refine rwl (decide_eq_false q) ?_;rfl⟩)
 ·refine CX hI ?_;clear hI;intro c y5 y6 y7 y8 Fs e21r0_6 E hF hMF hFl hall
  subst e21r0_6
  rw[eA.length,K9] at hall
  rw[eA.length] at hFl
  walk_at"ss"
  refine ba (hF.extT ai) (aa (GL hl hFl)) ?_
  walk_at"ss"
  with_reducible refine bt (fun q=>?_) (fun q=>?_)
  ·walk_at"ss"
   exact h0 _ (E1.trans E)
  ·have q:=of_decide_eq_false q
   walk_at"ss"
   exact h1 c Fs _ (E1.trans E) hF hMF (Gi q) hall
end
section
variable{Q:ae->Mem->Prop}{X:Nat->Mem->Prop}{m m':Mem}{n:Nat}{u T T' H H':List (List Int)}{k k' i:Nat}{v w z f g:ae}{x:Int}{st:List Nat}{y5:ae}
theorem uc{n:Nat}:eh (-1) (n+1)=some n:=by
 refine(?_:(if (1:Nat)<=n+1 then some (n+1-1) else none)=some n)
 refine rwl (if_pos (Md 1 n)) ?_
 rfl
theorem A4{st:List Nat}{i:Nat}{x:ae}(h:(j0 0 ((zs st).map ae.int))[i]? =some x):∃j:Nat,st[i]? =some j/\x= .tup [.int (i:Nat),.int (j:Nat)]:=by
 rw[gS] at h
 refine af (KD.mp h:) fun y h1 e0r0_2=>?_
 subst e0r0_2
 refine af (BC h1:) fun j h2 e1r0_2=>?_
 subst e1r0_2
 exact⟨j,h2,by exact rwl (MS ..) rfl⟩
theorem rK(D:ed T k T' k' st)(S:tY T H k)(Ds:ck T' (aZ T T' st H) (cD k' (aZ T T' st H)) H')(hv:bH m v T)(hz:cJ m z (zs st))(hw:bH m w H)(hf:bH m f T')(hg:bH m g H')(h:Q (.bool true) m):
  bJ (CN (n+4)) (b9 GS) (eM.drop 2 fg.body) (iK Q) (fun c _ m'=>X c m') [some v,some z,some w,some f,some g,some y5,none,none] m:=by
 have O:=S.ok
 have O':=D.ok O
 have OH:=(D.snd S Ds).ok
 have hst:=D.st_lt
 have h8:=O.t8
 dsimp only[fg,aK,eM.drop]
 walk_at"ss"
 refine nV hz.lst (by refine rwl (Ki ..) (rwl (aT ..) ?_);exact aa (by lia)) ?_
 refine bg (fun i l m'=>m'=m/\∃y6 y7,l= [some v,some z,some w,some f,some g,some y5,y6,y7]) ⟨rfl,none,none,rfl⟩ (fun i x l m' hx hI P hP=>?_) fun l m' hI=>?_
 ·obtain⟨rfl,y6,y7,rfl⟩:=hI
  refine af (A4 hx:) fun j hj e3r0_2=>?_
  subst e3r0_2
  refine cI (D.same_sum O hj:) fun hp hjT hsm=>?_
  have hle:=Ds.less O' kO (iN O') hp
  refine lZ ?_
  dsimp only[ay]
  walk_at"ss"
  refine iB OH hf hp fun r1 hr1=>?_
  walk_at"ss"
  refine eC OH hg hp fun r2 hr2=>?_
  walk_at"ss"
  refine jI OH hf hg hp hp hr1 hr2 ?_
  walk_at"ss"
  refine iB O hv hjT fun r3 hr3=>?_
  walk_at"ss"
  refine eC O hw hjT fun r4 hr4=>?_
  walk_at"ss"
  refine jI O hv hw hjT hjT hr3 hr4 ?_
  walk_at"ss"
  with_reducible refine b0 (fM (De hsm hle)) ?_
  walk_at"ss"
  with_reducible refine au (hP _ _ ?_)
  exact⟨hz.stands hz,rfl,_,_,rfl⟩
 ·obtain⟨rfl,y6,y7,rfl⟩:=hI
  walk_at"ss"
  exact h
theorem rW(D:ed T k T' k' st)(S:tY T H k)(Ds:ck T' (aZ T T' st H) (cD k' (aZ T T' st H)) H')(hv:bH m v T)(hz:cJ m z (zs st))(hw:bH m w H)(hf:bH m f T')(hg:bH m g H')(h:∀m',ax m m'->Q (.bool true) m'):CN (n+5) 123 [v,z,w,f,g] Q X m:=by
 have O:=S.ok
 have O':=D.ok O
 have OH:=(D.snd S Ds).ok
 have hst:=D.st_lt
 have h8:=O.t8
 have tail:=fun m1 (E:ax m m1) (y5:ae)=>rK (n:=n) (Q:=Q) (X:=X) (y5:=y5) D S Ds (hv.ext E) (hz.ext E) (hw.ext E) (hf.ext E) (hg.ext E) (h m1 E)
 (refine aw rfl rfl ?_;dsimp only[fg,aK,bh,KU,Kk,Ko,Kr,KG,Nat.reduceAdd,Nat.reduceSub])
 walk_at"ss"
 refine n3 (L:=[]) (fun b hb=>nomatch hb) O' O.tl O.ul (fun j hj=>by refine rwl O.len ?_;exact hst.1 j hj) (by lia) (fun r hr=>sl1 (O.sl hr)) hv hz (by refine rwl z6 ?_;exact hw) hf fun vK vR m1 E1 hK hR=>?_
 refine dG (xs:=[vK,vR]) rfl rfl rfl (aa (by decide:2<1000)) ?_
 walk_at"ss"
 have hrl:(cD k' (aZ T T' st H)).length<1000:=by
  have:=gv ((KZ.mp (iN O')).2.1) (l':=zs (Kt k')) fun x hx=>(K5.mp hx).1
  rw[aT,Kz] at this;have:=O'.k40;exact FW (by assumption) this
 refine ah (aa (by decide:0<1000)) fun a5 m2 h5 E2 e5=>?_
 refine jw (b:=[]) (hR.ext E2) ⟨a5,rfl,e5⟩ ?_
 have E12:=E1.trans E2
 walk_at"ss"
 with_reducible refine gD (fun q=>?_) fun q=>?_
 ·have hne:=of_decide_eq_true q
  obtain⟨l,x,hlx⟩:∃l x,cD k' (aZ T T' st H)=l++ [x]:=⟨_,_,(List.dropLast_concat_getLast hne).symm⟩
  have hnd:=iN O'
  rw[hlx] at Ds hnd
  obtain⟨u1,D1,W,hR1,hN,hG⟩:=Ds.inv
  rw[<-K7] at hnd
  have hnd':=KZ.mp hnd
  have hin:=fun y hy=>kO (k:=k') (u:=aZ T T' st H) y (by refine rwl hlx ?_;exact KR _ hy)
  refine cI (D1.ok O' hin hnd'.1:) fun O1 p1 _=>?_
  have OW:=hR1.ok O1
  walk_at"ss"
  refine dG (xs:=(l++ [x]).map .int) (j:=l.length) (x:= .int x) (by have:=(hR.ext E2).seq;rw[hlx] at this;exact this) (by refine rwl (Ki ..) (rwl (Km ..) ?_);exact uc) (by rw[KT,Lq (by refine rwl (Ki ..) ?_;exact Lk _),Ki,Mq];rfl) (by refine rwl (Ki ..) (rwb (hlx ..) ?_);exact aa hrl) ?_
  walk_at"ss"
  refine mL OW OH (fun q=>?_) hN hG (hf.ext E12) (hg.ext E12) fun m3 E3=>?_
  ·exact hnd'.2.2 x (p1.mem_iff.mp ((hR1.perm O1).flatten.mem_iff.mp q)) x (.head _) rfl
  exact cH (cH (dR (cH (b0 rfl (tail _ (E12.trans E3) _)))))
 ·exact cH (b0 q (tail _ E12 _))
end
section
variable{C:bb}{G:String->Option ae}{Q:ae->Mem->Prop}{X:Nat->Mem->Prop}{m m':Mem}{n:Nat}{u T H:List (List Int)}{k i:Nat}{v hv vr:ae}{loc:aL}{R:Flow->aL->Mem->Prop}{Y:Nat->aL->Mem->Prop}{x:Int}{xs:List Int}{a d ra:Addr}{bs F:List Addr}
theorem Br(ha:m a=some (.list (bs.map .ref)))(hn:bs.Nodup)(hab:a∉bs)(hbl:bs.length<1000)(hr:∀b∈bs,∃r:List Int,m b=some (.list (r.map .int))/\r.length<1000){p:Nat}(hp:p<loc.length)(hR:∀l m',(l=loc\/∃y,l=ay loc p y)->ax (hide bs m) m'->R .next l m'):
  dX .plain (.ref a) (fun xs=>forLoop (oa (.one p) (fun Q' l m'=>bJ C G (.cons (.expr (.append (.nm p) (.neg (.int 1)))) .nil) Q' Y l m')) (stands .plain (.ref a) m) xs R loc m) m:=by
 refine ar (bo.seq ⟨a,rfl,ha⟩) (by refine rwl (Ki ..) ?_;exact aa hbl) ?_
 refine bg (fun i l m'=>(l=loc\/∃y,l=ay loc p y)/\ax (hide bs m) m'/\∀(j:Nat) b,i<=j->bs[j]? =some b->m' b=m b) ⟨.inl rfl,ai,fun j b _ _=>rfl⟩ (fun i x l m' hx hI P hP=>?_) fun l m' hI=>hR l m' hI.1 hI.2.1
 refine cI hI ?_;clear hI;intro hl E' hr'
 have hset:ay l p x=ay loc p x:=by
  rcases hl with rfl|⟨y,rfl⟩
  ·rfl
  ·exact B0
 rw[KH] at hx
 refine af (KD.mp hx:) fun b q e1r0_2=>?_
 subst e1r0_2
 have hbm:=Kp q
 refine af (hr b hbm:) fun r hbr hrl=>?_
 have hbb:=(hr' i b (Lk i) q).trans hbr
 refine aU (lQ (rk (kQ (j8 (v:= .ref b) (by refine rwl hset ?_;exact fX hp) (iW hbb (vb (fK hbb (by refine rwl (Ki ..) ?_;exact aa hrl) (ik (d9 (qC ?_))))))))))
 have E2:=E'.over (o:= .list (r.map .int++ [.int (-1)])) (mV (m:=m) hbm)
 have ha2:=E2 a _ ((aE hab).trans ha)
 with_reducible refine au (hP _ _ ?_)
 refine⟨bo.stands ⟨a,rfl,ha⟩ ⟨a,rfl,ha2⟩,.inr ⟨_,hset⟩,E2,fun j c hj h1=>?_⟩
 have hne:c≠b:=fun e=>by
  subst e
  have:=(Na (Kn.mp h1).1 hn).mp (h1.trans q.symm)
  exact Gm hj this
 refine rwl (ak hne) ?_
 exact hr' j c (by walk_at"o") h1
theorem ic.all{m0:Mem}(h:ic m0 m v u)(hu:u.length<1000)(hs:∀s∈u,s.length<1000):∃(a:Addr) (bs:List Addr),v= .ref a/\m a=some (.list (bs.map .ref))/\bs.Nodup/\a∉bs/\bs.length<1000/\(∀b∈bs,∃r:List Int,m b=some (.list (r.map .int))/\r.length<1000)/\∀b∈bs,m0 b=none:=by
 refine mU h ?_;clear h;intro a bs e3r0_2 ha hn hbl h0 hb hr
 subst e3r0_2
 refine⟨a,bs,rfl,ha,hn,fun q=>(hb a q).2 rfl,Ey hu hbl,fun b hbm=>?_,fun b hbm=>(hb b hbm).1⟩
 refine aO (Mp hbm:) fun j hj=>?_
 have hju:j<u.length:=hbl▸(Kn.mp hj).1
 exact⟨_,hr j b _ hj (eO hju),hs _ (aB hju)⟩
theorem oS{m0:Mem}(E:ax m0 m)(h:∀b∈bs,m0 b=none):ax m0 (hide bs m):=fun b o e=>by
 rw[aE fun q=>by rw[h b q] at e;cases e]
 exact E b o e
structure ES(F:List Addr)(m:Mem)(a d ra:Addr)(bs:List Addr)(hv:ae)(T H:List (List Int))(k:Nat):Prop where
 est:cZ F m a d ra bs hv (gT T) H
 len:bs.length=T.length
 snd:tY T H k
theorem ES.ext(S:ES F m a d ra bs hv T H k)(E:ax m m'):ES F m' a d ra bs hv T H k:=⟨S.est.ext E,S.len,S.snd⟩
structure LS(F:List Addr)(m:Mem)(a d ra:Addr)(bs:List Addr)(hv:ae)(T H:List (List Int))(k:Nat)(vr:ae):Prop where
 est:cZ F m a d ra bs hv (gT T) H
 len:bs.length=T.length
 snd:tY T H k
 r:bH (hide (d::ra::(bs++F)) m) vr T
theorem LS.ext(S:LS F m a d ra bs hv T H k vr)(E:ax m m'):LS F m' a d ra bs hv T H k vr:=
 ⟨S.est.ext E,S.len,S.snd,S.r.ext (ag E)⟩
theorem LS.es(S:LS F m a d ra bs hv T H k vr):ES F m a d ra bs hv T H k:=⟨S.est,S.len,S.snd⟩
theorem LS.hs(S:LS F m a d ra bs hv T H k vr):∀r∈H,r.length<1000:=fun r hr=>sl1 (S.snd.ok.sl hr)
theorem kY(S:LS F m a d ra bs hv T H k vr)(h:∀v m',ax m m'->ic m m' v H->Q v m'):CN (n+1) 63 [.ref a] Q X m:=kR S.est S.snd.ok.ul S.hs h
theorem kt(S:LS F m a d ra bs hv T H k vr)(h:∀v m',ax m m'->ic m m' v T->Q v m'):CN (n+1) 64 [.ref a] Q X m:=tL S.est S.len S.snd.ok.tl (fun r hr=>S.snd.ok.rl hr) h
theorem mv(S:LS F m a d ra bs hv T H k vr){wy:Option ae}(h:∀m',ax m m'->Q (.bool true) m'):
  bJ (CN (n+3)) (b9 GS) (eM.drop 1 fZ.body) (iK Q) (fun c _ m'=>X c m') [some (.ref a),some vr,wy,none,none,none,none] m:=by
 have O:=S.snd.ok
 have hk:=O.k40
 dsimp only[fZ,aK,eM.drop]
 walk_at"ss"
 refine ek S.est.at_ S.est.fl ?_
 walk_at"ss"
 refine kY S fun vF m1 E1 o1=>?_
 have S1:=S.ext E1
 walk_at"ss"
 dsimp only[ay]
 refine ek S1.est.at_ S1.est.fl ?_
 walk_at"ss"
 refine kt S1 fun v2 m2 E2 o2=>?_
 have S2:=S1.ext E2
 walk_at"ss"
 refine nM o2.isT (S2.r.ext ai) ?_
 refine rwl (fM (fun q=>q rfl)) ?_
 walk_at"ss"
 refine ba (S2.r.ext ai) (aa O.tl) ?_
 walk_at"ss"
 refine dE O (S2.r.ext ai) ?_
 refine dC (sj hk) (ah (by refine rwl (aR ..) ?_;exact aa (by refine(?_:k<1000);walk_at"o")) fun a4 m3 h4 E3 e4=>?_)
 rw[dK] at e4
 have S3:=S2.ext E3
 walk_at"ss"
 refine rn O S.snd.full.symm (jF k) (by have:=O.flat40;exact FF hk this) rfl (o1.isT.ext (E2.trans E3)) ⟨a4,rfl,e4⟩ fun m4 E4=>?_
 have S4:=S3.ext E4
 have o4:=o1.ext ((E2.trans E3).trans E4)
 walk_at"ss"
 refine sz O (S4.r.ext ai) o4.isT fun b m5 E5 hb=>?_
 obtain rfl:b=true:=hb.mpr S.snd.born
 have S5:=S4.ext E5
 have o5:=o4.ext E5
 walk_at"ss"
 refine gY o5.isT O.ul S.hs fun vK m6 E6 o6=>?_
 have E06:=E1.trans (((E2.trans E3).trans E4).trans (E5.trans E6))
 walk_at"ss"
 dsimp only[ay]
 refine mU (o5.all O.ul S.hs:) fun aF bF e5r0_2 hFa hFn hFab hFl hFr hF0=>?_
 subst e5r0_2
 refine Br (E6 _ _ hFa) hFn hFab hFl (fun b hb=>let ⟨r,h1,h2⟩:=hFr b hb;⟨r,E6 _ _ h1,h2⟩) (by refine(?_:5<7);decide) fun l m7 hl E7=>?_
 have S7:=S.ext ((oS E06 hF0).trans E7)
 have hK7:bH m7 vK H:=(dc (fun b hb e=>by obtain⟨r,h1,_⟩:=hFr b hb;rw[e] at h1;injection h1) o6).ext E7
 have hl':∃y,l= [some (.ref a),some vr,wy,some (.ref aF),some vK,y,none]:=by
  rcases hl with rfl|⟨y,rfl⟩
  ·exact⟨_,rfl⟩
  ·exact⟨_,rfl⟩
 refine aO hl' ?_;clear hl';intro y e6r0_1
 subst e6r0_1
 walk_at"ss"
 refine ek S7.est.at_ S7.est.fl ?_
 walk_at"ss"
 refine kt S7 fun v8 m8 E8 o8=>?_
 refine mU (o8.all O.tl (fun r hr=>O.rl hr):) fun aG bG e7r0_2 hGa hGn hGab hGl hGr hG0=>?_
 subst e7r0_2
 refine Br hGa hGn hGab hGl hGr (by refine(?_:6<7);decide) fun l m9 hl E9=>?_
 have E79:=(oS E8 hG0).trans E9
 have S9:=S7.ext E79
 have hl':∃y',l= [some (.ref a),some vr,wy,some (.ref aF),some vK,y,y']:=by
  rcases hl with rfl|⟨y',rfl⟩
  ·exact⟨_,rfl⟩
  ·exact⟨_,rfl⟩
 refine aO hl' ?_;clear hl';intro y' e8r0_1
 subst e8r0_1
 walk_at"ss"
 refine ek S9.est.at_ S9.est.fl ?_
 walk_at"ss"
 refine kt S9 fun v10 m10 E10 o10=>?_
 have S10:=S9.ext E10
 walk_at"ss"
 refine gO o10.isT (S10.r.ext ai) ?_
 refine rwl (gB rfl) ?_
 walk_at"ss"
 refine ek S10.est.at_ S10.est.fl ?_
 walk_at"ss"
 refine kY S10 fun v11 m11 E11 o11=>?_
 walk_at"ss"
 refine gO o11.isT (hK7.ext (E79.trans (E10.trans E11))) ?_
 refine rwl (gB rfl) ?_
 walk_at"ss"
 exact h _ (((oS E06 hF0).trans E7).trans (E79.trans (E10.trans E11)))
theorem mz(S:LS F m a d ra bs hv T H k vr){y:Int}(h:∀m',ax m m'->Q (.bool true) m'):CN (n+4) 116 [.ref a,vr,.int y] Q X m:=by
 refine aw rfl rfl ?_
 refine(?_:bJ _ _ (.cons _ (eM.drop 1 fZ.body)) _ _ _ _)
 dsimp only[bh,KU,Kk,Ko,Kr,KG,Nat.reduceAdd,Nat.reduceSub,fZ]
 refine jz ?_
 walk_at"ss"
 with_reducible refine gD (fun q=>?_) (fun q=>?_)
 ·walk_at"ss"
  refine ek S.est.at_ S.est.fl ?_
  walk_at"ss"
  refine kt S fun v2 m2 E2 o2=>?_
  have S2:=S.ext E2
  walk_at"ss"
  refine nM o2.isT (S2.r.ext ai) ?_
  refine rwl (fM (fun q=>q rfl)) ?_
  exact cH (dR (cH (dB (mv S2 fun m' E=>h m' (E2.trans E)))))
 ·refine rwl q ?_
  exact cH (dB (mv S h))
end
section
variable{Q:ae->Mem->Prop}{X:Nat->Mem->Prop}{m m' m1:Mem}{n:Nat}{t u T H:List (List Int)}{k:Nat}{v w hv vr:ae}{x:Int}{xs:List ae}{a d ra ft:Addr}{bs F L:List Addr}
theorem cZ.move{g:Nat->List Int}(S:cZ F m a d ra bs hv g H)(E:ax (hide F m) m')(hF:∀b∈F,m' b≠none):cZ F m' a d ra bs hv g H:=by
 have out:∀{b o},b∈d::ra::bs->m b=some o->m' b=some o:=fun h e=>E _ _ ((aE fun q=>(S.far _ q).1.2 h).trans e)
 refine⟨E _ _ ((aE fun q=>(S.far _ q).1.1 rfl).trans S.at_),out (.head _) S.fl,out (.tail _ (.head _)) S.ls,S.nd,fun j b hb=>out (.tail _ (.tail _ (Kp hb))) (S.rows j b hb),S.held.ext fun b o e=>?_,fun b hb=>⟨(S.far b hb).1,hF b hb⟩⟩
 refine aq (bj e:) fun h1 h2=>?_
 refine rwl (aE h1) ?_
 exact E _ _ ((aE fun q=>h1 (.tail _ (.tail _ (KO _ q)))).trans h2)
theorem lg(E:ax (hide F m) m'):ax (hide (d::ra::(bs++F)) m) (hide (d::ra::(bs++F)) m'):=fun b o e=>by
 refine aq (bj e:) fun h1 h2=>?_
 refine rwl (aE h1) ?_
 exact E _ _ ((aE fun q=>h1 (.tail _ (.tail _ (KO _ q)))).trans h2)
theorem LS.move(S:LS F m a d ra bs hv T H k vr)(E:ax (hide F m) m')(hF:∀b∈F,m' b≠none):LS F m' a d ra bs hv T H k vr:=
 ⟨S.est.move E hF,S.len,S.snd,S.r.ext (lg E)⟩
noncomputable def oV (m:Mem) (xs:List ae):Prop:=∀x∈xs,∃p q Ts,x= .tup [p,q]/\cP bH m p Ts/\cP bH m q Ts
theorem oV.ext(h:oV m xs)(E:ax m m'):oV m' xs:=fun x hx=>by
 refine iU (h x hx:) fun p q Ts e h1 h2=>?_
 exact⟨p,q,Ts,e,h1.extT E,h2.extT E⟩
theorem we{c:Addr}{v w:ae}(hl:∀b∈L,m b≠none)(hc:m c=none)(h:m' c=some (.list [v,w]))(hv:bH (hide L m') v t)(hw:bH (hide L m') w u):cP bH (hide L m') (.ref c) [t,u]:=
 ⟨_,⟨c,rfl,by refine rwl (aE fun q=>hl _ q hc) ?_;exact h⟩,.cons hv (.cons hw .nil)⟩
theorem sS(S:LS [ft] m a d ra bs hv T H k vr)(ht:m ft=some (.list xs))(hxl:xs.length<1000)(hT:oV (hide (d::ra::(bs++ [ft])) m) xs){y:Int}
  (h:∀v m' xs',LS [ft] m' a d ra bs hv T H k vr->m' ft=some (.list xs')->xs'.length=xs.length+1->oV (hide (d::ra::(bs++ [ft])) m') xs'->ax (hide [ft] m) m'->bH (hide (d::ra::(bs++ [ft])) m') v H->Q v m'):CN (n+5) 125 [.ref a,vr,.ref ft,.int y] Q X m:=by
 have O:=S.snd.ok
 (refine aw rfl rfl ?_;dsimp only[n4,aK,bh,KU,Kk,Ko,Kr,KG,Nat.reduceAdd,Nat.reduceSub])
 walk_at"ss"
 refine mz S fun m1 E1=>?_
 have S1:=S.ext E1
 walk_at"ss"
 refine ek S1.est.at_ S1.est.fl ?_
 walk_at"ss"
 refine kY S1 fun vF m2 E2 o2=>?_
 have S2:=S1.ext E2
 walk_at"ss"
 refine gY o2.isT O.ul S.hs fun vC m3 E3 o3=>?_
 have S3:=S2.ext E3
 walk_at"ss"
 refine gY (S3.r.ext ai) O.tl (fun r hr=>O.rl hr) fun vD m4 E4 o4=>?_
 have S4:=S3.ext E4
 walk_at"ss"
 refine ah (aa (by decide:2<1000)) fun a5 m5 h5 E5 e5=>?_
 have S5:=S4.ext E5
 walk_at"ss"
 have E05:=E1.trans (E2.trans (E3.trans (E4.trans E5)))
 refine iW (E05 _ _ ht) ?_
 walk_at"ss"
 refine ek S5.est.at_ S5.est.fl ?_
 walk_at"ss"
 refine kt S5 fun vT m6 E6 o6=>?_
 have S6:=S5.ext E6
 walk_at"ss"
 refine ah (aa (by decide:2<1000)) fun a7 m7 h7 E7 e7=>?_
 have S7:=S6.ext E7
 walk_at"ss"
 refine⟨aa (by decide:2<1000),?_⟩
 have E07:=E05.trans (E6.trans E7)
 refine fK (E07 _ _ ht) (aa hxl) ?_
 have lv:∀{m'},ax m m'->∀b∈d::ra::(bs++ [ft]),m' b≠none:=fun E b hb e=>S.est.live b hb (aQ E e)
 have hF7:bH (hide (d::ra::(bs++ [ft])) m7) vF H:=(dc (lv E1) o2).ext (ag (E3.trans (E4.trans (E5.trans (E6.trans E7)))))
 have hC7:bH (hide (d::ra::(bs++ [ft])) m7) vC H:=(dc (lv (E1.trans E2)) o3).ext (ag (E4.trans (E5.trans (E6.trans E7))))
 have hD7:bH (hide (d::ra::(bs++ [ft])) m7) vD T:=(dc (lv (E1.trans (E2.trans E3))) o4).ext (ag (E5.trans (E6.trans E7)))
 have hT7:bH (hide (d::ra::(bs++ [ft])) m7) vT T:=(dc (lv E05) o6).ext (ag E7)
 have hp:=we (lv (E05.trans E6)) h7 e7 hF7 hT7
 have hq:=we (lv (E1.trans (E2.trans (E3.trans E4)))) h5 ((E6.trans E7) _ _ e5) hC7 hD7
 have hT':=hT.ext (ag E07)
 have E8:ax (hide [ft] m7) (m7.set ft (.list (xs++ [.tup [.ref a7,.ref a5]]))):=fun b o e=>by
  refine aq (bj e:) fun h1 h2=>?_
  rw[ak fun q=>h1 (by refine rwl q ?_;exact .head _)];exact h2
 have e8:(m7.set ft (.list (xs++ [.tup [.ref a7,.ref a5]]))) ft=some (.list (xs++ [.tup [.ref a7,.ref a5]])):=ao
 have S8:=S7.move E8 (fun b hb e=>by rw[Kq.mp hb,ao] at e;injection e)
 have E08:ax (hide [ft] m) (m7.set ft (.list (xs++ [.tup [.ref a7,.ref a5]]))):=(ag E07).trans E8
 generalize (m7.set ft (.list (xs++ [.tup [.ref a7,.ref a5]])))=m8 at E8 e8 S8 E08
 walk_at"ss"
 have hF8:=hF7.ext (lg E8)
 refine gY (hF8.ext ai) O.ul S.hs fun vR m9 E9 o9=>?_
 walk_at"ss"
 refine h vR m9 _ (S8.ext E9) (E9 _ _ e8) (by refine rwl Km ?_;rfl) (fun x hx=>?_) (E08.trans E9) (dc (fun b hb=>S8.est.live b hb) o9)
 have E89:=(lg (d:=d) (ra:=ra) (bs:=bs) E8).trans (ag E9)
 rcases KM.mp hx with q|q
 ·exact hT'.ext E89 x q
 ·exact⟨_,_,[H,T],Kq.mp q,hp.extT E89,hq.extT E89⟩
end
section
variable{Q:ae->Mem->Prop}{X:Nat->Mem->Prop}{m m':Mem}{n:Nat}{v w hv:ae}{T H:List (List Int)}{k c:Nat}{a d ra:Addr}{bs F:List Addr}{xs:List Int}
noncomputable def iR (m:Mem):ae->Prop
 | .ref a=>(∃xs,m a=some (.list xs))\/m a=some .dict0
 | .frz _=>False
 |_=>True
theorem iR.ext(x:ax m m')(h:iR m v):iR m' v:=by
 cases v<;>first|exact h|skip
 exact h.imp (fun⟨xs,e⟩=>⟨xs,x _ _ e⟩) fun e=>x _ _ e
noncomputable def zS (lo hi:Int):ae->Bool
 | .int i=>decide (lo<=i/\i<=hi)
 |_=>false
theorem iP{v:ae}{lo hi:Int}(h:iR m v)(hq:Q (.bool (zS lo hi v)) m):CN (n+1) 0 [v,.int lo,.int hi] Q X m:=by
 cases v with
 |int i=>exact fh hq
 |frz x=>exact h.elim
 |ref a=>
  (refine aw rfl rfl ?_;dsimp only[dW,aK,bh,KU,Kk,Ko,Kr,KG,Nat.reduceAdd,Nat.reduceSub])
  walk_at"ss"
  refine ou (b:=false) (by refine(?_:(m a).bind _=_);rcases h with ⟨_,e⟩|e<;>(refine rwl e ?_;rfl)) ?_
  walk_at"ss"
  exact hq
 |bool b=>(refine aw rfl rfl ?_;dsimp only[dW,aK,bh,KU,Kk,Ko,Kr,KG,Nat.reduceAdd,Nat.reduceSub]);walk_at"ss";exact hq
 |none=>(refine aw rfl rfl ?_;dsimp only[dW,aK,bh,KU,Kk,Ko,Kr,KG,Nat.reduceAdd,Nat.reduceSub]);walk_at"ss";exact hq
 |str x=>(refine aw rfl rfl ?_;dsimp only[dW,aK,bh,KU,Kk,Ko,Kr,KG,Nat.reduceAdd,Nat.reduceSub]);walk_at"ss";exact hq
 |tup x=>(refine aw rfl rfl ?_;dsimp only[dW,aK,bh,KU,Kk,Ko,Kr,KG,Nat.reduceAdd,Nat.reduceSub]);walk_at"ss";exact hq
noncomputable def jZ (m:Mem) (many:Nat) (v:ae):Prop:=isA m v .list=some false\/∃xs,bo m v xs/\xs.length<1000/\(xs.length≠many\/((∀y∈xs,iR m y)/\∃y∈xs,zS 0 1000000 y=false))
theorem nW{many:Nat}(H:jZ m many v)(h:∀m',ax m m'->Q (.bool false) m'):CN (n+2) 1 [v,.int (many:Nat)] Q X m:=by
 (refine aw rfl rfl ?_;dsimp only[nR,aK,bh,KU,Kk,Ko,Kr,KG,Nat.reduceAdd,Nat.reduceSub])
 walk_at"ss"
 rcases H with H|⟨xs,hL,hl,H⟩
 ·refine ou H ?_
  walk_at"ss"
  exact h _ .refl
 refine ou hL.list ?_
 walk_at"ss"
 refine rQ hL.seq (aa hl) ?_
 walk_at"ss"
 by_cases q:xs.length=many
 ·with_reducible refine b0 (fM (GE q)) ?_
  obtain⟨hk,y,hy,hyb⟩:=H.resolve_left (fun e=>e q)
  walk_at"ss"
  refine ar hL.seq (aa hl) ?_
  refine gX (g:=fun x=> .bool (zS 0 1000000 x)) (hL.stands hL) (fun x hx P hP=>?_) ?_
  ·walk_at"ss"
   exact iP (hk x hx) hP
  refine ah (by refine rwl (Ki ..) ?_;exact aa hl) fun b m1 hb E e=>?_
  refine rj (bs:=xs.map (zS 0 1000000)) (by refine rwl (bo.lst ⟨b,rfl,e⟩) (rwl K0 ?_);rfl) ?_
  rw[show (xs.map (zS 0 1000000)).all id=false by rw[List.all_eq_false];exact⟨_,KL.mpr ⟨y,hy,rfl⟩,by refine rwl hyb ?_;exact M6⟩]
  walk_at"ss"
  exact h _ E
 ·with_reducible refine ej (gB (FM q)) ?_
  walk_at"ss"
  exact h _ .refl
theorem oY(hv:bH m v T)(hl:T.length<1000)(hx:iR m w)(hb:zS 0 ((T.length:Int)-1) w=false)(h:X 9 m):CN (n+2) 7 [v,w] Q X m:=by
 (refine aw rfl rfl ?_;dsimp only[jh,aK,bh,KU,Kk,Ko,Kr,KG,Nat.reduceAdd,Nat.reduceSub])
 walk_at"ss"
 refine ba hv (aa hl) ?_
 walk_at"ss"
 refine iP hx ?_
 refine rwl hb ?_
 walk_at"ss"
 exact h
inductive yZ(m:Mem)(T:List (List Int))(k:Nat):Int->ae->Nat->Prop
 |come {w:ae} (h:jZ m T.length w):yZ m T k 0 w 7
 |full {w:ae} {xs:List Int} (h:cJ m w xs) (hl:xs.length=T.length) (hw:∀x∈xs,cV x=true) (hk:k=40):yZ m T k 0 w 13
 |go {w:ae} (h:iR m w) (hb:zS 0 ((T.length:Int)-1) w=false):yZ m T k 1 w 9
 |only(h:T.length=1):yZ m T k 1 (.int 0) 9
 |join {w:ae} (h:jZ m k w):yZ m T k 2 w 7
 |eight {w:ae} {xs:List Int} (h:cJ m w xs) (hl:xs.length=k) (hw:∀x∈xs,cV x=true) (h8:T.length=8):yZ m T k 2 w 13
 |init {w:ae} (h:iR m w) (hb:zS 1 8 w=false):yZ m T k 3 w 9
theorem sV(hl:xs.length=k)(hw:∀x∈xs,cV x=true):(decide ((xs.length:Int)=k)&&xs.all cV)=true:=by
 rw[hl,decide_eq_true rfl,MI,KI];exact hw
section bad
variable(S:ES F m a d ra bs hv T H k)
include S
theorem zD(hb:jZ m T.length w)(h:∀m',ax m m'->X 7 m'):CN (n+3) 105 [.ref a,w] Q X m:=by
 (refine aw rfl rfl ?_;dsimp only[dU,aK,bh,KU,Kk,Ko,Kr,KG,Nat.reduceAdd,Nat.reduceSub])
 walk_at"ss"
 refine bE S.est.at_ S.est.fl (by decide) rfl ?_
 refine ba (S.est.tab S.len) (aa S.snd.ok.tl) ?_
 walk_at"ss"
 refine nW hb fun m1 E1=>?_
 walk_at"ss"
 exact h _ E1
theorem wO(hw:cJ m w xs)(hl:xs.length=T.length)(hx:∀x∈xs,cV x=true)(hk:k=40)(h:∀m',ax m m'->X 13 m'):CN (n+3) 105 [.ref a,w] Q X m:=by
 have O:=S.snd.ok
 have:=O.t8
 (refine aw rfl rfl ?_;dsimp only[dU,aK,bh,KU,Kk,Ko,Kr,KG,Nat.reduceAdd,Nat.reduceSub])
 walk_at"ss"
 refine bE S.est.at_ S.est.fl (by decide) rfl ?_
 refine ba (S.est.tab S.len) (aa O.tl) ?_
 walk_at"ss"
 refine gE hw (Hm hl this) fun m1 E1=>?_
 refine rwl (sV hl hx) ?_
 have S1:=S.est.ext E1
 walk_at"ss"
 refine bE S1.at_ S1.fl (by decide) rfl ?_
 refine dE O (S1.tab S.len) ?_
 walk_at"ss"
 with_reducible refine ej (gB (EK hk)) ?_
 walk_at"ss"
 exact h _ E1
theorem CA(hx:iR m w)(hb:zS 0 ((T.length:Int)-1) w=false)(h:X 9 m):CN (n+3) 106 [.ref a,w] Q X m:=by
 (refine aw rfl rfl ?_;dsimp only[fi,aK,bh,KU,Kk,Ko,Kr,KG,Nat.reduceAdd,Nat.reduceSub])
 walk_at"ss"
 refine bE S.est.at_ S.est.fl (by decide) rfl ?_
 walk_at"ss"
 exact oY (S.est.tab S.len) S.snd.ok.tl hx hb h
theorem Bc(h1:T.length=1)(h:X 9 m):CN (n+3) 106 [.ref a,.int 0] Q X m:=by
 (refine aw rfl rfl ?_;dsimp only[fi,aK,bh,KU,Kk,Ko,Kr,KG,Nat.reduceAdd,Nat.reduceSub])
 walk_at"ss"
 refine bE S.est.at_ S.est.fl (by decide) rfl ?_
 walk_at"ss"
 refine jv (S.est.tab S.len) S.snd.ok.tl ⟨by decide,EN h1⟩ ?_
 walk_at"ss"
 refine bE S.est.at_ S.est.fl (by decide) rfl ?_
 refine ba (S.est.tab S.len) (aa S.snd.ok.tl) ?_
 walk_at"ss"
 with_reducible refine ej (gB (BN h1)) ?_
 walk_at"ss"
 exact h
theorem zB(hb:jZ m k w)(h:∀m',ax m m'->X 7 m'):CN (n+3) 107 [.ref a,w] Q X m:=by
 (refine aw rfl rfl ?_;dsimp only[dT,aK,bh,KU,Kk,Ko,Kr,KG,Nat.reduceAdd,Nat.reduceSub])
 walk_at"ss"
 refine bE S.est.at_ S.est.fl (by decide) rfl ?_
 walk_at"ss"
 refine dE S.snd.ok (S.est.tab S.len) ?_
 walk_at"ss"
 refine nW hb fun m1 E1=>?_
 walk_at"ss"
 exact h _ E1
theorem xD(hw:cJ m w xs)(hl:xs.length=k)(hx:∀x∈xs,cV x=true)(h8:T.length=8)(h:∀m',ax m m'->X 13 m'):CN (n+3) 107 [.ref a,w] Q X m:=by
 have O:=S.snd.ok
 have:=O.k40
 (refine aw rfl rfl ?_;dsimp only[dT,aK,bh,KU,Kk,Ko,Kr,KG,Nat.reduceAdd,Nat.reduceSub])
 walk_at"ss"
 refine bE S.est.at_ S.est.fl (by decide) rfl ?_
 walk_at"ss"
 refine dE O (S.est.tab S.len) ?_
 walk_at"ss"
 refine gE hw (ER hl this) fun m1 E1=>?_
 refine rwl (sV hl hx) ?_
 have S1:=S.est.ext E1
 walk_at"ss"
 refine bE S1.at_ S1.fl (by decide) rfl ?_
 refine ba (S1.tab S.len) (aa O.tl) ?_
 walk_at"ss"
 with_reducible refine ej (gB (GK h8)) ?_
 walk_at"ss"
 exact h _ E1
end bad
theorem z5{y:ae}(hx:iR m w)(hb:zS 1 8 w=false)(h:X 9 m):CN (n+2) 59 [y,w] Q X m:=by
 (refine aw rfl rfl ?_;dsimp only[ew,aK,bh,KU,Kk,Ko,Kr,KG,Nat.reduceAdd,Nat.reduceSub])
 walk_at"ss"
 refine iP hx ?_
 refine rwl hb ?_
 walk_at"ss"
 exact h
theorem ug(S:ES F m a d ra bs hv T H k){kd:Int}(A:yZ m T k kd w c)(h:∀m',ax m m'->X c m'):CN (n+4) 113 [.ref a,.int kd,w] Q X m:=by
 (refine aw rfl rfl ?_;dsimp only[mc,aK,bh,KU,Kk,Ko,Kr,KG,Nat.reduceAdd,Nat.reduceSub])
 cases A with
 |come hb=>
  walk_at"ss"
  refine ej rfl ?_
  walk_at"ss"
  refine ek S.est.at_ S.est.fl ?_
  walk_at"ss"
  exact zD S hb h
 |full hw hl hx hk=>
  walk_at"ss"
  refine ej rfl ?_
  walk_at"ss"
  refine ek S.est.at_ S.est.fl ?_
  walk_at"ss"
  exact wO S hw hl hx hk h
 |go hx hb=>
  walk_at"ss"
  refine b0 rfl ?_
  walk_at"ss"
  refine ej rfl ?_
  walk_at"ss"
  refine ek S.est.at_ S.est.fl ?_
  walk_at"ss"
  exact CA S hx hb (h _ .refl)
 |only h1=>
  walk_at"ss"
  refine b0 rfl ?_
  walk_at"ss"
  refine ej rfl ?_
  walk_at"ss"
  refine ek S.est.at_ S.est.fl ?_
  walk_at"ss"
  exact Bc S h1 (h _ .refl)
 |join hb=>
  walk_at"ss"
  refine b0 rfl ?_
  walk_at"ss"
  refine b0 rfl ?_
  walk_at"ss"
  refine ej rfl ?_
  walk_at"ss"
  refine ek S.est.at_ S.est.fl ?_
  walk_at"ss"
  exact zB S hb h
 |eight hw hl hx h8=>
  walk_at"ss"
  refine b0 rfl ?_
  walk_at"ss"
  refine b0 rfl ?_
  walk_at"ss"
  refine ej rfl ?_
  walk_at"ss"
  refine ek S.est.at_ S.est.fl ?_
  walk_at"ss"
  exact xD S hw hl hx h8 h
 |init hx hb=>
  walk_at"ss"
  refine b0 rfl ?_
  walk_at"ss"
  refine b0 rfl ?_
  walk_at"ss"
  refine b0 rfl ?_
  walk_at"ss"
  exact fun y _=>z5 hx hb (h _ .refl)
noncomputable def wd:Nat->String
 |7=>"table"|9=>"heir"|_=>"full"
theorem cL(S:ES F m a d ra bs hv T H k){kd:Int}(A:yZ m T k kd w c)(hX:∀m,X 0 m)(h:∀m',ax m m'->Q (.str (Str.ofString (wd c))) m'):CN (n+5) 114 [.ref a,.int kd,w] Q X m:=by
 have hc:c=7\/c=9\/c=13:=by cases A<;>simp
 (refine aw rfl rfl ?_;dsimp only[nS,aK,bh,KU,Kk,Ko,Kr,KG,Nat.reduceAdd,Nat.reduceSub])
 refine lQ ⟨⟨⟨by refine(?_:3<6);decide,rfl⟩,by refine(?_:4<6);decide,by decide,by refine(?_:5<6);decide⟩,hX m,?_⟩
 walk_at"ss"
 refine ug S A fun m1 E1=>?_
 rcases hc with rfl|rfl|rfl
 ·exact⟨by decide,by decide,"table",by decide,fun m2 E2 l=>h m2 (E1.trans E2)⟩
 ·exact⟨by decide,by decide,"heir",by decide,fun m2 E2 l=>h m2 (E1.trans E2)⟩
 ·exact⟨by decide,by decide,"full",by decide,fun m2 E2 l=>h m2 (E1.trans E2)⟩
end
section
variable{Q:ae->Mem->Prop}{X:Nat->Mem->Prop}{m m':Mem}{n:Nat}{v hv:ae}{k N:Nat}{a:Addr}{xs:List Int}
noncomputable def qU (k:Int):List Int:=[(k.fdiv 4).fmod 1000001,1000000-(k.fdiv 4).fmod 3,(k.fdiv 4).fmod 7,(k.fdiv 4).fmod 40]
noncomputable def oc (k:Int):Int:=(qU k).getD (k.fmod 4).toNat 0
theorem w0(k:Int):0<=oc k/\oc k<=1000000:=by
 have h:=fm k (b:=4) (by decide)
 have h1:=fm (k.fdiv 4) (b:=1000001) (by decide)
 have h2:=fm (k.fdiv 4) (b:=3) (by decide)
 have h3:=fm (k.fdiv 4) (b:=7) (by decide)
 have h4:=fm (k.fdiv 4) (b:=40) (by decide)
 have hj:(k.fmod 4).toNat<4:=D4 h
 unfold oc qU
 generalize (k.fmod 4).toNat=j at hj
 match j with
 |0=>simp;exact HK h1
 |1=>simp;exact Hw h2
 |2=>simp;exact JK h3
 |3=>simp;exact HN h4
 |j+4=>exact D7 hj
theorem sH{k:Int}(h:∀m',ax m m'->Q (.int (oc k)) m'):CN (n+1) 110 [.int k] Q X m:=by
 have hj:=fm k (b:=4) (by decide)
 (refine aw rfl rfl ?_;dsimp only[l7,aK,bh,KU,Kk,Ko,Kr,KG,Nat.reduceAdd,Nat.reduceSub])
 walk_at"ss"
 refine av (aa (by refine(?_:4<1000);decide)) fun a ha=>?_
 walk_at"ss"
 refine cz (is:=qU k) bo.new hj.1 (cu (r:=qU k) (by refine(?_:(k.fmod 4).toNat<4);exact D4 hj)) (aa (by refine(?_:4<1000);decide)) ?_
 walk_at"ss"
 exact h _ (ax.set ha)
noncomputable def J0 (c:Int) (k:Nat):Int:=oc (vE ((vE c k).fdiv 5) ((k:Int)*k))
noncomputable def ru (c:Int) (N:Nat):List Int:=(Kt N).map (J0 c)
theorem kE(c:Int)(N:Nat):(ru c N).length=N:=by unfold ru;exact rwl (Ki ..) (rwl (Kz ..) rfl)
theorem rL(c:Int)(N:Nat):∀x∈ru c N,cV x=true:=fun x hx=>by
 refine af (KL.mp hx:) fun k _ e0r0_2=>?_
 subst e0r0_2
 exact decide_eq_true (w0 _)
theorem gw{c:Int}(hN:N<=40)(h:∀b m',ax m m'->m b=none->m' b=some (.list ((ru c N).map .int))->Q (.ref b) m'):CN (n+2) 111 [.int c,.int (N:Nat)] Q X m:=by
 (refine aw rfl rfl ?_;dsimp only[om,aK,bh,KU,Kk,Ko,Kr,KG,Nat.reduceAdd,Nat.reduceSub])
 walk_at"ss"
 refine aV (sj hN) ?_
 refine dq (fun i acc m'=>ax m m'/\acc=((Kt i).map fun k=>ae.int (J0 c k))) ⟨.refl,rfl⟩ (fun i x acc m' hx hI P hP=>?_) fun acc m' hI=>?_
 ·refine aq hI ?_;clear hI;intro E e1r0_1
  subst e1r0_1
  refine aq (cq hx:) fun hi e2r0_1=>?_
  subst e2r0_1
  have hi:i<N:=hi
  refine gU ?_
  walk_at"ss"
  refine iL ?_
  walk_at"ss"
  refine lj (.inl (by unfold small;exact HI hN hi)) ?_
  walk_at"ss"
  refine iL ?_
  walk_at"ss"
  refine sH fun m2 E2=>?_
  refine hP _ _ ⟨trivial,E.trans E2,?_⟩
  refine rwl Nw (rwl KT ?_);rfl
 ·refine aq hI ?_;clear hI;intro E e3r0_1
  subst e3r0_1
  refine rwl (aR ..) ?_
  refine ah (by refine rwl (Ki ..) (rwl (Kz ..) ?_);exact aa (by refine(?_:N<1000);walk_at"o")) fun b m2 hb E2 e=>?_
  walk_at"ss"
  refine h b m2 (E.trans E2) (aQ E hb) ?_
  refine rwl e ?_;unfold ru;refine rwl K0 ?_;rfl
theorem yt{xs:List ae}(e:lst m v=some xs)(hl:xs.length<br)(h:Q (.tup xs) m):gj .tuple v Q m:=KF xs ⟨e,hl,h⟩
theorem sy{x:Addr}{i:Int}{xs:List ae}(hx:lst m (.ref x)=some xs)(h0:0<=i)(hi:i<br)(h:bf m (Kk i.toNat xs).flatten Q):gq .mul (.ref x) (.int i) Q m:=Or.inr ⟨x,i,xs,rfl,rfl,hx,h0,hi,h⟩
theorem jD{many:Nat}{ys:List ae}(h:bo m v ys)(hl:ys.length<1000)(hn:ys.length≠many):jZ m many v:= .inr ⟨ys,h,hl,.inl hn⟩
theorem zW{N:Nat}{xs:List ae}{i:Int}(hi:0<=i/\i<xs.length)(hl:xs.length<1000)(hx:∀x∈xs,jZ m N x)(hv:seq m v=some xs)(h:∀v,jZ m N v->Q v m):gm v (.int i) Q m:=by
 have hlt:i.toNat<xs.length:=D3 hi
 exact dG hv (cX hi.1 hlt) (KA hlt) (aa hl) (h _ (hx _ (Nj hlt)))
theorem rY{c:Int}{row:List Int}{b:Addr}{y3 y4:Option ae}(hb:m b=some (.list (row.map .int)))(hwl:row.length=N)(hN:N<=40)(h:∀v m',ax m m'->jZ m' N v->Q v m'):
  bJ (CN (n+2)) (b9 GS) (eM.drop 4 gF.body) (iK Q) (fun c _ m'=>X c m') [some (.int c),some (.int (N:Nat)),some (.ref b),y3,y4] m:=by
 have hj:=fm (c.fdiv 12) (b:=5) (by decide)
 have hrl:(row.map ae.int).length<1000:=by refine rwl (Ki ..) (rwl (hwl ..) ?_);walk_at"o"
 dsimp only[gF,aK,eM.drop]
 walk_at"ss"
 refine ah (aa (by decide:1<1000)) fun b1 m1 h1 E1 e1=>?_
 refine bZ (bo.lst ⟨b,rfl,E1 _ _ hb⟩) (bo.lst ⟨b1,rfl,e1⟩) ?_
 refine ah (by refine rwl Km ?_;exact aa (by refine(?_:_+1<1000);refine rwl (Ki ..) ?_;exact Fa hwl hN)) fun b2 m2 h2 E2 e2=>?_
 walk_at"ss"
 refine pE ((E1.trans E2) _ _ hb) (aa hrl) (ah (aa (by refine(?_:(List.drop _ _).length<1000);refine rwl Li ?_;exact Je hrl)) fun b3 m3 h3 E3 e3=>?_)
 walk_at"ss"
 refine ah (aa (by decide:1<1000)) fun b4 m4 h4 E4 e4=>?_
 walk_at"ss"
 refine Cm ?_
 refine lj (.inl (by unfold small;walk_at"o")) ?_
 have hI:∃q:Nat,(2*(if decide ((N:Int)=0)=true then 1 else 0):Int)=(q:Nat)/\q<=2/\(N=0->q=2)/\(N≠0->q=0):=by
  by_cases q:N=0
  ·exact⟨2,by subst q;rfl,by walk_at"o",fun _=>rfl,fun h=>absurd q h⟩
  ·exact⟨0,by refine rwl (fM (EO q)) ?_;rfl,by walk_at"o",fun h=>absurd h q,fun _=>rfl⟩
 refine xm hI ?_;clear hI;intro q hq hq2 hq0 hq1
 refine rwl hq ?_
 refine sy (bo.lst ⟨b4,rfl,e4⟩) (nn q) (LC (by exact Ft hq0 hq1:(q:Int)<=2) (by decide)) ?_
 have hfl:((Kk (q:Int).toNat [ae.int 0]).flatten).length=q:=by refine rwl (L4 ..) ?_;simp
 refine ah (by refine rwl hfl ?_;exact aa (by walk_at"o")) fun b5 m5 h5 E5 e5=>?_
 have hdl:(uY true (row.map ae.int) 1).length=N-1:=by
  refine(?_:(List.drop (eN 1 _) _).length=_)
  exact rwl (rfl:eN (1:Int) (row.map ae.int).length=1) (rwl (Li ..) (rwl (Ki ..) (rwl (hwl ..) rfl)))
 refine bZ (bo.lst ⟨b3,rfl,(E4.trans E5) _ _ e3⟩) (bo.lst ⟨b5,rfl,e5⟩) ?_
 refine ah (by refine rwl Km (rwl hfl (rwl hdl ?_));exact aa (Hx hN hq0 hq1)) fun b6 m6 h6 E6 e6=>?_
 walk_at"ss"
 have E06:=E1.trans (E2.trans (E3.trans (E4.trans (E5.trans E6))))
 refine yt (bo.lst ⟨b,rfl,E06 _ _ hb⟩) (aa hrl) ?_
 walk_at"ss"
 refine ah (aa (by decide:5<1000)) fun b7 m7 h7 E7 e7=>?_
 walk_at"ss"
 refine zW (xs:=[.ref b2,.ref b6,.tup (row.map .int),.none,.int 5]) ⟨hj.1,hj.2⟩ (by refine(?_:5<1000);decide) (fun x hx=>?_) (bo.seq ⟨b7,rfl,e7⟩) fun v hv=>h v _ (E06.trans E7) hv
 simp only[Kw,LX,or_false] at hx
 rcases hx with rfl|rfl|rfl|rfl|rfl
 ·refine jD ⟨b2,rfl,(E3.trans (E4.trans (E5.trans (E6.trans E7)))) _ _ e2⟩ ?_ ?_
  ·refine rwl (Km ..) (rwl (Ki ..) ?_);refine(?_:_+1<1000);lia
  ·refine rwl (Km ..) (rwl (Ki ..) ?_);refine(?_:_+1≠N);exact Gu hwl
 ·refine jD ⟨b6,rfl,E7 _ _ e6⟩ ?_ ?_
  ·refine rwl Km (rwl hfl (rwl hdl ?_));omega
  ·refine rwl Km (rwl hfl (rwl hdl ?_))
   by_cases z:N=0
   ·refine rwl (hq0 z) ?_;exact D6
   ·refine rwl (hq1 z) ?_;exact HL z
 ·exact .inl rfl
 ·exact .inl rfl
 ·exact .inl rfl
theorem k7{c:Int}(hN:N<=40)(h:∀v m',ax m m'->jZ m' N v->Q v m'):CN (n+3) 112 [.int c,.int (N:Nat)] Q X m:=by
 have hr:=fm c (b:=12) (by decide)
 have hj:=fm (c.fdiv 12) (b:=5) (by decide)
 have hM:(As true 1 (N:Int):Int)≠0/\0<As true 1 (N:Int)/\As true 1 (N:Int)<=40/\(0<N->As true 1 (N:Int)=N):=by
  unfold As;dsimp only;split<;>lia
 (refine aw rfl rfl ?_;dsimp only[gF,aK,bh,KU,Kk,Ko,Kr,KG,Nat.reduceAdd,Nat.reduceSub])
 walk_at"ss"
 refine gw hN fun b m1 E1 hb e1=>?_
 walk_at"ss"
 have hp:=fm (c.fdiv 12) (b:=As true 1 (N:Int)) hM.2.1
 generalize (c.fdiv 12).fmod (As true 1 (N:Int))=p at hp
 have hrow:cJ m1 (.ref b) (ru c N):=⟨b,rfl,e1⟩
 have hwl:=kE c N
 generalize ru c N=row at hrow hwl e1
 have hrl:(row.map ae.int).length<br:=by refine rwl (Ki ..) (rwl (hwl ..) ?_);exact aa (by walk_at"o")
 refine ah (aa (by decide:1<1000)) fun b5 m2 h5 E2 e5=>?_
 walk_at"ss"
 refine rp fun b6 m3 h6 E3 e6=>?_
 walk_at"ss"
 refine ah (aa (by decide:8<1000)) fun b7 m4 h7 E4 e7=>?_
 have E14:=E2.trans (E3.trans E4)
 walk_at"ss"
 have hrow4:=E14 _ _ e1
 have odd:∀x∈ [ae.int (-1),.int 1000001,.bool true,.bool false,.str (Str.ofString "5"),.none,.ref b5,.ref b6],iR m4 x/\zS 0 1000000 x=false:=fun x hx=>by
  simp only[Kw,LX,or_false] at hx
  rcases hx with rfl|rfl|rfl|rfl|rfl|rfl|rfl|rfl
  ·exact⟨trivial,rfl⟩
  ·exact⟨trivial,rfl⟩
  ·exact⟨trivial,rfl⟩
  ·exact⟨trivial,rfl⟩
  ·exact⟨trivial,rfl⟩
  ·exact⟨trivial,rfl⟩
  ·exact⟨.inl ⟨_,(E3.trans E4) _ _ e5⟩,rfl⟩
  ·exact⟨.inr (E4 _ _ e6),rfl⟩
 have tail:=fun(y3 y4:Option ae)=>rY (n:=n) (Q:=Q) (X:=X) (c:=c) (y3:=y3) (y4:=y4) hrow4 hwl hN fun v m' E=>h v m' ((E1.trans E14).trans E)
 with_reducible refine gD (fun q=>?_) (fun q=>?_)
 ·have hr8:=of_decide_eq_true q
  walk_at"ss"
  with_reducible refine bt (fun q2=>?_) (fun q2=>?_)
  ·have hN0:0<N:=by have:=of_decide_eq_true q2;exact Fm this
   have hpN:=hM.2.2.2 hN0
   obtain⟨p',rfl⟩:∃p':Nat,p=(p':Nat):=⟨p.toNat,Eg hp⟩
   have hpl:p'<row.length:=IG hwl hpN hp
   walk_at"ss"
   refine pE hrow4 hrl (ah (by refine rwl (dZ ..) (rwl (Le ..) (rwl (Ki ..) ?_));exact aa (JI hM hp)) fun c1 m5 h1 E5 g1=>?_)
   walk_at"ss"
   have hlt:(c.fmod 12).toNat<8:=Ju hr8
   refine dG (bo.seq ⟨b7,rfl,E5 _ _ e7⟩) (cX hr.1 hlt) (KA hlt) (aa (by decide:8<1000)) ?_
   refine aq (odd _ (Nj hlt):) fun hok hob=>?_
   generalize ([ae.int (-1),.int 1000001,.bool true,.bool false,.str (Str.ofString "5"),.none,.ref b5,.ref b6][(c.fmod 12).toNat])=o at hok hob
   walk_at"ss"
   refine ah (aa (by decide:1<1000)) fun c2 m6 h2 E6 g2=>?_
   rw[dZ] at g1
   have hal:(List.take p' (row.map ae.int)++ [o]).length=p'+1:=by refine rwl (Km ..) (rwl (Le ..) (rwl (Ki ..) ?_));refine(?_:min p' _+1=_);exact Ht hpl
   refine bZ (bo.lst ⟨c1,rfl,E6 _ _ g1⟩) (bo.lst ⟨c2,rfl,g2⟩) (ah (by refine rwl hal ?_;exact aa (IH hM hp)) fun c3 m7 h3 E7 g3=>?_)
   walk_at"ss"
   refine pE ((E5.trans (E6.trans E7)) _ _ hrow4) hrl (ah (by refine rwl (d6 ..) (rwl (Li ..) (rwl (Ki ..) ?_));exact aa (HW hM hwl)) fun c4 m8 h4 E8 g4=>?_)
   rw[d6] at g4
   refine bZ (bo.lst ⟨c3,rfl,E8 _ _ g3⟩) (bo.lst ⟨c4,rfl,g4⟩) (ah (by refine rwl (Km ..) (rwl (hal ..) (rwl (Li ..) (rwl (Ki ..) ?_)));exact aa (Jt hM hwl hpl)) fun c5 m9 h5 E9 g5=>?_)
   walk_at"ss"
   have E49:=E5.trans (E6.trans (E7.trans (E8.trans E9)))
   refine h _ _ ((E1.trans E14).trans E49) (.inr ⟨_,⟨c5,rfl,g5⟩,?_,.inr ⟨fun y hy=>?_,o,KR _ (KO _ (.head _)),hob⟩⟩)
   ·refine rwl (Km ..) (rwl (hal ..) (rwl (Li ..) (rwl (Ki ..) ?_)));lia
   ·have isx:∀{y},y∈row.map ae.int->iR m9 y:=fun hy=>by obtain⟨_,_,rfl⟩:=KL.mp hy;trivial
    rcases KM.mp hy with hy|hy
    ·rcases KM.mp hy with hy|hy
     ·exact isx (MK hy)
     ·refine rwl (Kq.mp hy) ?_;exact hok.ext E49
    ·exact isx (ML hy)
  ·exact tail _ _
 ·refine rwl q ?_
  exact cH (dB (tail _ _))
end
section
variable{Q:ae->Mem->Prop}{X:Nat->Mem->Prop}{m m':Mem}{n:Nat}{v hv vr:ae}{T H:List (List Int)}{k:Nat}{a d ra:Addr}{bs F:List Addr}{loc:aL}
theorem kC{x:Str}{P:Bool->Mem->Prop}(h:P true m):cE .eq (.str x) (.str x) P m:=A9 (by refine rwl (beq_self_eq_true ..) ?_;exact h)
theorem jA{x:Str}{P:Bool->Mem->Prop}(h:P false m):cE .ne (.str x) (.str x) P m:=Bi (by refine rwl (beq_self_eq_true ..) ?_;exact h)
theorem rr(S:LS F m a d ra bs hv T H k vr){c:Int}(hX:∀m,X 0 m)(h:∀m',ax m m'->Q (.bool true) m'):CN (n+6) 115 [.ref a,.int c,vr] Q X m:=by
 have O:=S.snd.ok
 have h8:=O.t8
 have hk:=O.k40
 have hj:=fm (c.fdiv 3) (b:=8) (by decide)
 have hX':∀loc m,tk (fun c _ m'=>X c m') loc 0 m:=fun _ m=>⟨rfl,hX m⟩
 (refine aw rfl rfl ?_;dsimp only[jW,aK,bh,KU,Kk,Ko,Kr,KG,Nat.reduceAdd,Nat.reduceSub])
 walk_at"ss"
 refine ba (S.r.ext ai) (aa O.tl) ?_
 walk_at"ss"
 with_reducible refine bt (fun q=>?_) (fun q=>?_)
 ·walk_at"ss"
  refine k7 (by walk_at"o") fun v m1 E1 hb=>?_
  walk_at"ss"
  refine cL (S.ext E1).es (.come hb) (hX' _) fun m2 E2=>?_
  walk_at"ss"
  refine kC ?_
  walk_at"ss"
  exact h _ (E1.trans E2)
 walk_at"ss"
 with_reducible refine bt (fun q=>?_) (fun q=>?_)
 ·walk_at"ss"
  refine ah (aa (by decide:1<1000)) fun b5 m2 h5 E2 e5=>?_
  walk_at"ss"
  refine rp fun b6 m3 h6 E3 e6=>?_
  walk_at"ss"
  refine ah (aa (by decide:8<1000)) fun b7 m4 h7 E4 e7=>?_
  have E14:=E2.trans (E3.trans E4)
  have S4:=S.ext E14
  walk_at"ss"
  have odd:∀x∈ [ae.int (-1),.int (T.length:Nat),.bool true,.bool false,.str (Str.ofString "0"),.none,.ref b5,.ref b6],yZ m4 T k 1 x 9:=fun x hx=>by
   simp only[Kw,LX,or_false] at hx
   rcases hx with rfl|rfl|rfl|rfl|rfl|rfl|rfl|rfl
   ·exact .go trivial (decide_eq_false (Gc):decide (0<=(-1:Int)/\(-1:Int)<=(T.length:Int)-1)=false)
   ·exact .go trivial (decide_eq_false (F7):decide (0<=(T.length:Int)/\(T.length:Int)<=(T.length:Int)-1)=false)
   ·exact .go trivial rfl
   ·exact .go trivial rfl
   ·exact .go trivial rfl
   ·exact .go trivial rfl
   ·exact .go (.inl ⟨_,(E3.trans E4) _ _ e5⟩) rfl
   ·exact .go (.inr (E4 _ _ e6)) rfl
  have hlt:((c.fdiv 3).fmod 8).toNat<8:=Jl hj
  refine dG (bo.seq ⟨b7,rfl,e7⟩) (cX hj.1 hlt) (KA hlt) (aa (by decide:8<1000)) ?_
  have A:=odd _ (Nj hlt)
  generalize ([ae.int (-1),.int (T.length:Nat),.bool true,.bool false,.str (Str.ofString "0"),.none,.ref b5,.ref b6][((c.fdiv 3).fmod 8).toNat])=o at A
  walk_at"ss"
  with_reducible refine gD (fun q1=>?_) (fun q1=>?_)
  ·have h1:T.length=1:=by have:=of_decide_eq_true q1;exact BF this
   walk_at"ss"
   with_reducible refine bt (fun q2=>?_) (fun q2=>?_)
   ·walk_at"ss"
    refine cL S4.es (.only h1) (hX' _) fun m5 E5=>?_
    walk_at"ss"
    refine kC ?_
    walk_at"ss"
    exact h _ (E14.trans E5)
   ·walk_at"ss"
    refine cL S4.es A (hX' _) fun m5 E5=>?_
    walk_at"ss"
    refine kC ?_
    walk_at"ss"
    exact h _ (E14.trans E5)
  ·refine rwl q1 ?_
   walk_at"ss"
   refine cL S4.es A (hX' _) fun m5 E5=>?_
   walk_at"ss"
   refine kC ?_
   walk_at"ss"
   exact h _ (E14.trans E5)
 ·walk_at"ss"
  refine dE O (S.r.ext ai) ?_
  walk_at"ss"
  refine k7 hk fun v m1 E1 hb=>?_
  walk_at"ss"
  refine cL (S.ext E1).es (.join hb) (hX' _) fun m2 E2=>?_
  walk_at"ss"
  refine kC ?_
  walk_at"ss"
  exact h _ (E1.trans E2)
end
section
variable{C:bb}{G:String->Option ae}{Q:ae->Mem->Prop}{X:Nat->Mem->Prop}{m m' m1 m2:Mem}{hv vr:ae}{T H:List (List Int)}{i:Nat}{a d ra ra' c:Addr}{bs bs' F L:List Addr}{xs ws:List Int}{loc:aL}{g:Nat->List Int}
theorem gN{b:Addr}(h:b∈d::ra::(bs++F)):b∈d::ra::bs\/b∈F:=by
 rcases Kw.mp h with rfl|h
 ·exact .inl (.head _)
 rcases Kw.mp h with rfl|h
 ·exact .inl (.tail _ (.head _))
 ·exact(KM.mp h).imp (fun h=> .tail _ (.tail _ h)) id
theorem fU{b:Addr}(h:b∈d::ra::bs\/b∈F):b∈d::ra::(bs++F):=by
 rcases h with h|h
 ·rcases Kw.mp h with rfl|h
  ·exact .head _
  rcases Kw.mp h with rfl|h
  ·exact .tail _ (.head _)
  ·exact .tail _ (.tail _ (KR _ h))
 ·exact .tail _ (.tail _ (KO _ h))
theorem pQ(E:ax (hide (d::ra::bs) m) (hide (d::ra'::bs') m')):ax (hide (d::ra::(bs++F)) m) (hide (d::ra'::(bs'++F)) m'):=fun b o e=>by
 refine aq (bj e:) fun h1 h2=>?_
 refine aq (bj (E b o ((aE fun q=>h1 (fU (.inl q))).trans h2)):) fun h3 h4=>?_
 refine rwl (aE fun q=>(gN q).elim h3 fun q=>h1 (fU (.inr q))) ?_
 exact h4
theorem cZ.alloc(S:cZ F m a d ra bs hv g H)(E:ax m m1)(hc:m c=none)(hc1:m1 c≠none):cZ (c::F) m1 a d ra bs hv g H:=by
 have S1:=S.ext E
 refine⟨S1.at_,S1.fl,S1.ls,S1.nd,S1.rows,S.held.ext fun b o e=>?_,fun b hb=>?_⟩
 ·refine aq (bj e:) fun h1 h2=>?_
  rw[aE fun q=>?_]
  ·exact E _ _ h2
  ·rcases gN q with q|q
   ·exact h1 (fU (.inl q))
   rcases Kw.mp q with rfl|q
   ·rw[hc] at h2;injection h2
   ·exact h1 (fU (.inr q))
 ·rcases Kw.mp hb with rfl|hb
  ·refine⟨⟨fun e=>?_,fun q=>S.live' _ q hc⟩,hc1⟩
   rw[e,S.at_] at hc;injection hc
  ·exact S1.far b hb
theorem cZ.drop(S:cZ (c::F) m a d ra bs hv g H):cZ F m a d ra bs hv g H:=
 ⟨S.at_,S.fl,S.ls,S.nd,S.rows,S.held.ext (dO fun b hb=>fU ((gN hb).imp id fun h=> .tail _ h)),fun b hb=>S.far b (.tail _ hb)⟩
theorem cZ.write(S:cZ (c::F) m a d ra bs hv g H)(o:cU):cZ F (m.set c o) a d ra bs hv g H:=by
 refine(S.move (fun b o' e=>?_) fun b hb e=>?_).drop
 ·refine aq (bj e:) fun h1 h2=>?_
  rw[ak fun q=>h1 (by refine rwl q ?_;exact .head _)];exact h2
 ·by_cases q:b=c
  ·rw[q,ao] at e;injection e
  ·rw[ak q] at e;exact(S.far b hb).2 e
theorem pR{L':List Addr}(E:ax (hide L m1) (hide L' m)){m0:Mem}(E0:ax m0 m1)(hc:m0 c=none)(o:cU):ax (hide L m0) (hide L' (m.set c o)):=fun b o' e=>by
 refine aq (bj e:) fun h1 h2=>?_
 have hbc:b≠c:=fun q=>by rw[q,hc] at h2;injection h2
 refine aq (bj (E b o' ((aE h1).trans (E0 _ _ h2))):) fun h3 h4=>?_
 refine rwl (aE h3) (rwl (ak hbc) ?_);exact h4
theorem rJ{x:ae}{loc:aL}:∀{i j:Nat},j≠i->bS (ay loc i x) j=bS loc j:=by
 induction loc with
 |nil=>intro i j _;rfl
 |cons y r ih=>
  intro i j h
  cases i with
  |zero=>cases j with
   |zero=>exact absurd rfl h
   |succ j=>rfl
  |succ i=>cases j with
   |zero=>rfl
   |succ j=>exact ih fun q=>h (congrArg NJ q)
theorem xh{vr vw:ae}{i j:Nat}{iw:Nat}(hr:bH m vr T)(hl:T.length<1000)(hrl:∀r∈T,r.length<900)(hw:cJ m vw ws)(hwl:ws.length=T.length)(hi:i<loc.length)(hj:j<loc.length)(hij:i≠j)(hiw:bS loc iw=some vw)(hiw1:iw≠i)(hiw2:iw≠j)
  (h:∀(c:Addr) (cs:List Addr) m',ax m m'->m c=none->m' c=some (.list (cs.map ae.ref))->(cs.length=T.length/\∀(p:Nat) b,cs[p]? =some b->m b=none/\m' b=some (.list ((gT (eR T ws) p).map .int)))->Q (.ref c) m'):
  dX .enum vr (fun xs=>compLoop (cF C G X (.bin .add (.nm j) (.lst (.cons (.sub (.nm iw) (.nm i)) .nil))) (.two i j) .nil loc) (stands .enum vr m) xs [] (fun ys m'=>bf m' ys Q) m) m:=by
 refine af hr ?_;clear hr;intro ys e1 e2
 refine nV e1.lst (by refine rwl e2.length ?_;exact aa hl) ?_
 refine dq (fun p acc m'=>ax m m'/\∃cs:List Addr,acc=cs.map .ref/\cs.length=p/\∀(p:Nat) b,cs[p]? =some b->m b=none/\m' b=some (.list ((gT (eR T ws) p).map .int))) ⟨.refl,[],rfl,rfl,fun p b h=>nomatch h⟩ (fun p x acc m' hx hI P hP=>?_) fun acc m' hI=>?_
 ·obtain⟨E,cs,rfl,hcl,hcs⟩:=hI
  rw[gS] at hx
  refine af (KD.mp hx:) fun y hy e8r0_2=>?_
  subst e8r0_2
  refine af (e2.get hy:) fun r hr hyr=>?_
  have hp:p<T.length:=(Kn.mp hr).1
  obtain rfl:r=gT T p:=by have:=eO hp;rw[hr] at this;exact Option.some.inj this
  have hyr:=cJ.ext E hyr
  refine af (id hyr:) fun b e10r0_1 hb=>?_
  subst e10r0_1
  refine rwl (MS ..) ?_
  have g1:bS (ay (ay loc i (.int (p:Nat))) j (.ref b)) j=some (.ref b):=fX (by refine rwl CU ?_;exact hj)
  have g2:bS (ay (ay loc i (.int (p:Nat))) j (.ref b)) i=some (.int (p:Nat)):=(rJ hij).trans (fX hi)
  have g3:bS (ay (ay loc i (.int (p:Nat))) j (.ref b)) iw=some vw:=(rJ hiw2).trans ((rJ hiw1).trans hiw)
  refine KF _ ⟨KF (.int (p:Nat)) ⟨.ref b,rfl,rfl⟩,fj ?_⟩
  refine vq (j8 g1 (vx (lO (sU (j8 g3 (j8 g2 ?_))))))
  refine cz (x:=ws.getD p 0) (cJ.ext E hw) (nn p) (cu (by refine(?_:p<_);exact DA hwl hp)) (aa (Ey hl hwl)) ?_
  refine qk (ah (aa (by decide:1<1000)) fun c1 m1 h1 E1 g4=>?_)
  refine bZ (hyr.ext E1).lst (bo.lst ⟨c1,rfl,g4⟩) ?_
  have hrow:(gT T p).map ae.int++ [.int (ws.getD p 0)]=(gT (eR T ws) p).map .int:=by refine rwl (kD hp) (rwl KT ?_);rfl
  refine rwl hrow ?_
  refine ah (by refine rwb (hrow ..) (rwl (Km ..) (rwl (Ki ..) ?_));exact aa (by have:=hrl _ (aB hp);refine(?_:(gT T p).length+1<1000);unfold gT;walk_at"o")) fun c2 m2 h2 E2 g5=>?_
  have E02:=E1.trans E2
  refine hP _ _ ⟨e1.stands (e1.ext (E.trans E02)),E.trans E02,cs++ [c2],by refine rwl KT ?_;rfl,by refine rwl Km ?_;refine(?_:_+1=_);exact DZ hcl,fun q b' hb'=>?_⟩
  rw[MM] at hb'
  by_cases hq:q<cs.length
  ·rw[if_pos hq] at hb'
   refine aq (hcs q b' hb':) fun a1 a2=>?_
   exact⟨a1,E02 _ _ a2⟩
  ·rw[if_neg hq] at hb'
   have hq':=(Kn.mp hb').1
   obtain rfl:q=p:=by simp at hq';exact HX hcl hq hq'
   rw[hcl,Mq] at hb'
   (injection hb' with hb';cases hb')
   exact⟨aQ (E.trans E1) h2,g5⟩
 ·obtain⟨E,cs,rfl,hcl,hcs⟩:=hI
  rw[jE,e2.length] at hcl
  refine ah (by refine rwl (Ki ..) (rwl (hcl ..) ?_);exact aa hl) fun c m2 hc E2 e=>?_
  exact h c cs m2 (E.trans E2) (aQ E hc) e ⟨hcl,fun p b hb=>⟨(hcs p b hb).1,E2 _ _ (hcs p b hb).2⟩⟩
end
section
variable{Q:ae->Mem->Prop}{X:Nat->Mem->Prop}{m m' m1 m2:Mem}{n:Nat}{w hv vr:ae}{T T' H H':List (List Int)}{k k' i:Nat}{a d ra ra' c:Addr}{bs bs' F:List Addr}{ws row:List Int}{st:List Nat}{g:Nat->List Int}
theorem uO(S:cZ F m a d ra bs hv (gT T) H)(hlb:bs.length=T.length)(Sn:tY T H k)(hw:cJ (hide (d::ra::bs) m) w ws)(hl:ws.length=T.length)(hx:∀x∈ws,cV x=true)(hk:k<40)
  (h:∀hv' H' m',cZ F m' a d ra bs hv' (gT (eR T ws)) H'->ax (hide (d::ra::bs) m) (hide (d::ra::bs) m')->ck (eR T ws) (aZ T (eR T ws) (Kt T.length) H) (cD (k+1) (aZ T (eR T ws) (Kt T.length) H)) H'->Q (.int k) m'):CN (n+6) 105 [.ref a,w] Q X m:=by
 have O':=(ed.come (T:=T) (k:=k) ws hl hx hk).ok Sn.ok
 rw[dP (by refine rwl bD ?_;exact Lj _) Sn.ok.len] at O' h
 refine xG S hlb O' Sn.ok.row hx hl hk (fun q=>?_) hw fun hv' H' m' S' E' hG=>h hv' H' m' S' E' ?_
 ·have:=(iQ.mp (Sn.full.mem_iff.mp q)).2
  rw[L4] at this
  exact Lj _ this
 ·refine rwb (qd Sn O') ?_
  exact .more .nil hG
theorem Fh(S:cZ F m a d ra bs hv (gT T) H)(hlb:bs.length=T.length)(Sn:tY T H k)(h2:1<T.length)(hi:i<T.length)
  (h:∀ra' bs' hv' H' m',bs'.length=(cutAt i T).length->cZ F m' a d ra' bs' hv' (gT (cutAt i T)) H'->ax (hide (d::ra::bs) m) (hide (d::ra'::bs') m')->ck (cutAt i T) (aZ T (cutAt i T) (cutAt i (Kt T.length)) H) (cD k (aZ T (cutAt i T) (cutAt i (Kt T.length)) H)) H'->Q .none m'):CN (n+6) 106 [.ref a,.int (i:Nat)] Q X m:=by
 rw[kB hi Sn.ok.len] at h
 exact Bh S hlb Sn.ok h2 hi fun ra' bs' hv' H' m' hl' S' E' hD=>h ra' bs' hv' H' m' hl' S' E' (by refine rwb (AD Sn h2 hi) ?_;exact hD)
theorem zZ(S:cZ F m a d ra bs hv (gT T) H)(hlb:bs.length=T.length)(Sn:tY T H k)(hw:cJ (hide (d::ra::bs) m) w row)(hr:row.length=k)(hx:∀x∈row,cV x=true)(h8:T.length<8)
  (h:∀bs' hv' H' m',bs'.length=(T++ [row]).length->cZ F m' a d ra bs' hv' (gT (T++ [row])) H'->ax (hide (d::ra::bs) m) (hide (d::ra::bs') m')->ck (T++ [row]) (aZ T (T++ [row]) [] H) (cD k (aZ T (T++ [row]) [] H)) H'->Q (.int T.length) m'):CN (n+7) 107 [.ref a,w] Q X m:=by
 have D:=ed.join (T:=T) (k:=k) row hr hx h8
 have O':=D.ok Sn.ok
 rw[lM] at O' h
 exact w1 S hlb (D.tb Sn.ok.tb) Sn.ok.tb.l1 hw fun bs' hv' H' m' hl' S' E' hD=>h bs' hv' H' m' hl' S' E' (by refine rwb (pS O') ?_;exact hD)
noncomputable def Moved (F:List Addr) (m:Mem) (a d ra:Addr) (bs:List Addr) (T H:List (List Int)) (k:Nat) (Q:ae->Mem->Prop):Prop:=
 ∀v1 v2 ra' bs' hv' T' H' k' st m',ed T k T' k' st->ck T' (aZ T T' st H) (cD k' (aZ T T' st H)) H'->LS F m' a d ra' bs' hv' T' H' k' v1->cJ (hide (d::ra'::(bs'++F)) m') v2 (zs st)->ax (hide (d::ra::bs) m) (hide (d::ra'::bs') m')->Q (.tup [v1,v2]) m'
theorem Bj{W:aL->Mem->Prop}(S:LS F m a d ra bs hv T H k vr){cl nb:Int}{e:Addr}(he:cJ (hide (d::ra::(bs++F)) m) (.ref e) (zs (Kt T.length)))(hk:k<12)(h:Moved F m a d ra bs T H k Q):
  bJ (CN (n+7)) (b9 GS) (match cv.body with| .cons _ (.cons _ (.cons (.ifs _ t _) _))=>t|_=> .nil) (lK W (iK Q)) (fun c _ m'=>X c m') [some (.ref a),some (.int cl),some vr,some (.int nb),some (.ref e),none,none,none,none,none] m:=by
 have O:=S.snd.ok
 have h8:=O.t8
 have hN1:=O.tb.l1
 dsimp only[cv,aK]
 walk_at"ss"
 refine ba (S.r.ext ai) (aa O.tl) ?_
 walk_at"ss"
 refine gw (by walk_at"o") fun b m1 E1 hb e1=>?_
 walk_at"ss"
 have hwl:=kE nb T.length
 have hwi:=rL nb T.length
 generalize ru nb T.length=ws at e1 hwl hwi
 refine iD (bo.seq ⟨b,rfl,e1⟩) (ah (by refine rwl (Ki ..) (rwl (hwl ..) ?_);exact aa O.tl) fun c m2 hc E2 e2=>?_)
 have E02:=E1.trans E2
 have hc0:m c=none:=aQ E1 hc
 have S2:=S.est.alloc E02 hc0 (by refine rwl e2 ?_;exact fun q=>nomatch q)
 have hcL:c∉d::ra::bs:=fun q=>S.est.live' c q hc0
 have hbL:b∉d::ra::bs:=fun q=>S.est.live' b q hb
 walk_at"ss"
 refine ek S2.at_ S2.fl ?_
 walk_at"ss"
 refine uO S2 S.len S.snd (bo.hid e2 hcL) hwl hwi (by walk_at"o") fun hv' H' m3 S3 E3 hD=>?_
 have hc3:=(E3.trans ai) _ _ ((aE hcL).trans e2)
 have hb3:=(E3.trans ai) _ _ ((aE hbL).trans (E2 _ _ e1))
 have E03:ax (hide (d::ra::(bs++F)) m) (hide (d::ra::(bs++F)) m3):=(ag E02).trans (pQ E3)
 walk_at"ss"
 refine dE O ((S.r.ext E03).ext ai) ?_
 walk_at"ss"
 refine rwl (fM (fun q=>q rfl)) ?_
 walk_at"ss"
 refine jw (a:=ws) (b:=ws) ⟨c,rfl,hc3⟩ ⟨b,rfl,hb3⟩ ?_
 refine rwl (fM (fun q=>q rfl)) ?_
 walk_at"ss"
 refine BA hc3 (by refine rwl (Ki ..) (rwl (hwl ..) ?_);exact aa O.tl) (by decide) (by refine(?_:0<_);refine rwl (Ki ..) ?_;exact BR hN1 hwl) ?_
 have S4:=S3.write (.list ((ws.map ae.int).set (0:Int).toNat (.int 999999)))
 have E4:=pR E3 E02 hc0 (.list ((ws.map ae.int).set (0:Int).toNat (.int 999999)))
 have hb4:(m3.set c (.list ((ws.map ae.int).set (0:Int).toNat (.int 999999)))) b=some (.list (ws.map .int)):=by
  rw[ak fun q=>by rw[q,hc] at e1;cases e1];exact hb3
 generalize (m3.set c (.list ((ws.map ae.int).set (0:Int).toNat (.int 999999))))=m4 at S4 E4 hb4
 have E04:ax (hide (d::ra::(bs++F)) m) (hide (d::ra::(bs++F)) m4):=pQ E4
 walk_at"ss"
 refine xh (T:=T) (ws:=ws) ((S.r.ext E04).ext ai) O.tl (fun r hr=>by refine rwl (O.row r hr) ?_;walk_at"o") ⟨b,rfl,hb4⟩ hwl (by refine(?_:8<10);decide) (by refine(?_:9<10);decide) (by decide) rfl (by decide) (by decide) fun g cs m5 E5 hg eg ⟨hcl,hcs⟩=>?_
 walk_at"ss"
 refine⟨aa (by decide:2<1000),?_⟩
 walk_at"ss"
 have D:=ed.come (T:=T) (k:=k) ws hwl hwi (by walk_at"o")
 have lv:∀{b},m4 b=none->b∉d::ra::(bs++F):=fun h q=>S4.live _ q h
 have E45:ax (hide (d::ra::(bs++F)) m4) (hide (d::ra::(bs++F)) m5):=ag E5
 refine h _ _ _ _ _ _ _ _ _ _ D hD ⟨S4.ext E5,by refine rwl bD ?_;exact S.len,D.snd S.snd hD,_,bo.hid eg (lv hg),?_⟩ (he.ext (E04.trans E45)) (E4.trans (ag E5))
 refine cn.of_get (by exact rwl (Ki ..) (rwl (hcl ..) (rwl (bD ..) rfl))) fun p x r h1 h2=>?_
 rw[KH] at h1
 refine af (KD.mp h1:) fun q hq e0r0_2=>?_
 subst e0r0_2
 refine aq (hcs p q hq:) fun q1 q2=>?_
 have:r=gT (eR T ws) p:=by
  refine(?_:r=(eR T ws).getD p [])
  refine rwl (Ku) (rwl h2 ?_);rfl
 refine rwl this ?_
 exact bo.hid q2 (lv q1)
end
section
variable{C:bb}{G:String->Option ae}{Q:ae->Mem->Prop}{X:Nat->Mem->Prop}{m m' m1 m2:Mem}{n:Nat}{hv vr:ae}{T T' H H':List (List Int)}{k k' i:Nat}{a d ra ra' c:Addr}{bs bs' F:List Addr}{ws:List Int}{loc:aL}{st:List Nat}
theorem qv{iv ix:Nat}{ys:List ae}{b:Addr}(hiv:bS loc iv=some (.ref b))(hix:bS loc ix=some (.int (i:Nat)))(hb:m b=some (.list ys))(hl:ys.length<1000)(h:∀c m',ax m m'->m c=none->m' c=some (.list (cutAt i ys))->Q (.ref c) m'):
  bk C G X (.bin .add (.slice false (.nm iv) (.nm ix)) (.slice true (.nm iv) (.bin .add (.nm ix) (.int 1)))) loc Q m:=by
 refine vq (rR (j8 hiv (j8 hix ?_)))
 refine pE hb (aa hl) (ah (by refine rwl dZ (rwl Le ?_);exact aa (HA hl)) fun c1 m1 h1 E1 e1=>?_)
 refine rR (j8 hiv (vq (j8 hix (wc (rN ?_)))))
 refine pE (E1 _ _ hb) (aa hl) (ah (by refine rwl d6 (rwl Li ?_);exact aa (H0 hl)) fun c2 m2 h2 E2 e2=>?_)
 rw[dZ] at e1
 rw[d6] at e2
 refine bZ (bo.lst ⟨c1,rfl,E2 _ _ e1⟩) (bo.lst ⟨c2,rfl,e2⟩) ?_
 refine ah (aa (by refine rwl Km (rwl Le (rwl Li ?_));exact Jb hl)) fun c3 m3 h3 E3 e3=>?_
 exact h c3 m3 (E1.trans (E2.trans E3)) (aQ (E1.trans E2) h3) e3
theorem BV(l:List Nat):(zs (cutAt i l)).map ae.int=cutAt i ((zs l).map .int):=by unfold zs;exact rwl lB (rwl lB rfl)
theorem AR{W:aL->Mem->Prop}(S:LS F m a d ra bs hv T H k vr){cl nb:Int}{e:Addr}(he:cJ (hide (d::ra::(bs++F)) m) (.ref e) (zs (Kt T.length)))(h2:1<T.length)(h:Moved F m a d ra bs T H k Q):
  bJ (CN (n+7)) (b9 GS) (match cv.body with| .cons _ (.cons _ (.cons _ (.cons (.ifs _ t _) _)))=>t|_=> .nil) (lK W (iK Q)) (fun c _ m'=>X c m') [some (.ref a),some (.int cl),some vr,some (.int nb),some (.ref e),none,none,none,none,none] m:=by
 have O:=S.snd.ok
 have h8:=O.t8
 have hi:=fm nb (b:=(T.length:Int)) (Fd h2)
 dsimp only[cv,aK]
 walk_at"ss"
 refine ba (S.r.ext ai) (aa O.tl) ?_
 obtain⟨i,hi',hiT⟩:∃i:Nat,nb.fmod (T.length:Int)=(i:Nat)/\i<T.length:=⟨(nb.fmod T.length).toNat,Jv hi,D3 hi⟩
 refine rV ⟨By hiT,by unfold oi;exact Dq h8⟩ ?_
 refine rwl hi' ?_
 walk_at"ss"
 refine ek S.est.at_ S.est.fl ?_
 walk_at"ss"
 refine Fh S.est S.len S.snd h2 hiT fun ra' bs' hv' H' m1 hl' S1 E1 hD=>?_
 have EF:ax (hide (d::ra::(bs++F)) m) (hide (d::ra'::(bs'++F)) m1):=pQ E1
 walk_at"ss"
 refine b0 rfl ?_
 have D:=ed.go (T:=T) (k:=k) i hiT h2
 refine af (S.r.ext EF:) fun ys w0r0_1 eA=>?_
 refine af w0r0_1 ?_;clear w0r0_1;intro r e0r1_1 er
 subst e0r1_1
 have he1:=he.ext EF
 refine af (id he1:) fun _ q ee=>?_
 cases q
 have lv:∀{b},m1 b=none->b∉d::ra'::(bs'++F):=fun h q=>S1.live _ q h
 refine zk (Bm (lO (qv (i:=i) rfl rfl (ai _ _ er) (by refine rwl eA.length ?_;exact O.tl) fun c1 m2 E2 hc1 g1=>?_)))
 refine lO (qv (i:=i) rfl rfl (E2 _ _ (ai _ _ ee)) (by refine rwl (Ki ..) (rwl (aT ..) (rwl (Kz ..) ?_));exact O.tl) fun c2 m3 E3 hc2 g2=>?_)
 refine qk ⟨aa (by decide:2<1000),?_⟩
 walk_at"ss"
 have E13:=E2.trans E3
 have E13':ax (hide (d::ra'::(bs'++F)) m1) (hide (d::ra'::(bs'++F)) m3):=ag E13
 refine h _ _ _ _ _ _ _ _ _ _ D hD ⟨S1.ext E13,hl',D.snd S.snd hD,_,bo.hid (E3 _ _ g1) (lv hc1),(eA.mono fun _ _ q=>q.ext E13').cutAt i⟩ (bo.hid ?_ (lv (aQ E2 hc2))) (E1.trans (ag E13))
 exact rwl (g2 ..) (rwl (BV ..) rfl)
theorem Ai{W:aL->Mem->Prop}(S:LS F m a d ra bs hv T H k vr){cl nb:Int}{e:Addr}(h8:T.length<8)(h:Moved F m a d ra bs T H k Q):
  bJ (CN (n+7)) (b9 GS) (match cv.body with| .cons _ (.cons _ (.cons _ (.cons _ (.cons (.ifs _ t _) _))))=>t|_=> .nil) (lK W (iK Q)) (fun c _ m'=>X c m') [some (.ref a),some (.int cl),some vr,some (.int nb),some (.ref e),none,none,none,none,none] m:=by
 have O:=S.snd.ok
 have hk:=O.k40
 dsimp only[cv,aK]
 walk_at"ss"
 refine dE O (S.r.ext ai) ?_
 walk_at"ss"
 refine gw hk fun b m1 E1 hb e1=>?_
 walk_at"ss"
 have hwl:=kE nb k
 have hwi:=rL nb k
 generalize ru nb k=ws at e1 hwl hwi
 refine iD (bo.seq ⟨b,rfl,e1⟩) (ah (by refine rwl (Ki ..) (rwl (hwl ..) ?_);exact aa (by walk_at"o")) fun c m2 hc E2 e2=>?_)
 have E02:=E1.trans E2
 have hc0:m c=none:=aQ E1 hc
 have S2:=S.est.alloc E02 hc0 (by refine rwl e2 ?_;exact fun q=>nomatch q)
 have hcL:c∉d::ra::bs:=fun q=>S.est.live' c q hc0
 have hbL:b∉d::ra::bs:=fun q=>S.est.live' b q hb
 walk_at"ss"
 refine ek S2.at_ S2.fl ?_
 walk_at"ss"
 refine zZ S2 S.len S.snd (bo.hid e2 hcL) hwl hwi h8 fun bs' hv' H' m3 hl' S3 E3 hD=>?_
 have hc3:=(E3.trans ai) _ _ ((aE hcL).trans e2)
 have hb3':=E3 _ _ ((aE hbL).trans (E2 _ _ e1))
 have hb3:=ai _ _ hb3'
 have E03:ax (hide (d::ra::(bs++F)) m) (hide (d::ra::(bs'++F)) m3):=(ag E02).trans (pQ E3)
 walk_at"ss"
 refine ba ((S.r.ext E03).ext ai) (aa O.tl) ?_
 walk_at"ss"
 refine rwl (fM (fun q=>q rfl)) ?_
 walk_at"ss"
 refine jw (a:=ws) (b:=ws) ⟨c,rfl,hc3⟩ ⟨b,rfl,hb3⟩ ?_
 refine rwl (fM (fun q=>q rfl)) ?_
 walk_at"ss"
 refine iW hc3 ?_
 walk_at"ss"
 refine fK hc3 (by refine rwl (Ki ..) (rwl (hwl ..) ?_);exact aa (by walk_at"o")) ?_
 have S4:=S3.write (.list (ws.map ae.int++ [.int 7]))
 have E4:=pR E3 E02 hc0 (.list (ws.map ae.int++ [.int 7]))
 have hbc:b≠c:=fun q=>by rw[q,hc] at e1;injection e1
 have hb4:cJ (hide (d::ra::(bs'++F)) (m3.set c (.list (ws.map ae.int++ [.int 7])))) (.ref b) ws:=by
  refine bo.hid (by refine rwl (ak hbc) ?_;exact hb3) fun q=>?_
  rcases gN q with q|q
  ·exact(bj hb3').1 q
  ·exact(S.est.far b q).2 hb
 generalize (m3.set c (.list (ws.map ae.int++ [.int 7])))=m4 at S4 E4 hb4
 have E04:ax (hide (d::ra::(bs++F)) m) (hide (d::ra::(bs'++F)) m4):=pQ E4
 refine af (S.r.ext E04:) fun ys w2r0_1 eA=>?_
 refine af w2r0_1 ?_;clear w2r0_1;intro r e1r1_1 er
 subst e1r1_1
 have lv:∀{b},m4 b=none->b∉d::ra::(bs'++F):=fun h q=>S4.live _ q h
 walk_at"ss"
 refine ah (aa (by decide:1<1000)) fun c5 m5 hc5 E5 e5=>?_
 refine bZ (bo.lst ⟨r,rfl,E5 _ _ (ai _ _ er)⟩) (bo.lst ⟨c5,rfl,e5⟩) ?_
 refine ah (by refine rwl Km (rwl eA.length ?_);exact aa (by refine(?_:T.length+1<1000);walk_at"o")) fun c6 m6 hc6 E6 e6=>?_
 walk_at"ss"
 refine ah (aa (by decide:0<1000)) fun c7 m7 hc7 E7 e7=>?_
 walk_at"ss"
 refine⟨aa (by decide:2<1000),?_⟩
 walk_at"ss"
 have D:=ed.join (T:=T) (k:=k) ws hwl hwi h8
 have E47:=E5.trans (E6.trans E7)
 have E47':ax (hide (d::ra::(bs'++F)) m4) (hide (d::ra::(bs'++F)) m7):=ag E47
 exact h _ _ _ _ _ _ _ _ _ _ D hD ⟨S4.ext E47,hl',D.snd S.snd hD,_,bo.hid (E7 _ _ e6) (lv (aQ E5 hc6)),(eA.mono fun _ _ q=>q.ext E47').append (.cons (hb4.ext E47') .nil)⟩ (bo.hid e7 (lv (aQ (E5.trans E6) hc7))) (E4.trans (ag E47))
theorem nz(S:LS F m a d ra bs hv T H k vr){cl:Int}(h:Moved F m a d ra bs T H k Q):CN (n+8) 118 [.ref a,.int cl,vr] Q X m:=by
 have O:=S.snd.ok
 have h8:=O.t8
 (refine aw rfl rfl ?_;dsimp only[cv,aK,bh,KU,Kk,Ko,Kr,KG,Nat.reduceAdd,Nat.reduceSub])
 walk_at"ss"
 refine iL ?_
 walk_at"ss"
 refine ba (S.r.ext ai) (aa O.tl) ?_
 refine dC (gI h8) (ah (by refine rwl (aR ..) ?_;exact aa (by refine(?_:T.length<1000);walk_at"o")) fun e m1 he E1 ee=>?_)
 rw[dK] at ee
 have S1:=S.ext E1
 have heL:cJ (hide (d::ra::(bs++F)) m1) (.ref e) (zs (Kt T.length)):=bo.hid ee fun q=>S.est.live _ q he
 have h':Moved F m1 a d ra bs T H k Q:=fun v1 v2 ra' bs' hv' T' H' k' st m' D hD S' hz E'=>h v1 v2 ra' bs' hv' T' H' k' st m' D hD S' hz ((ag E1).trans E')
 generalize (vE cl 1).fdiv 3=nb
 walk_at"ss"
 have fin:Q (.tup [vr,.ref e]) m1:=by
  refine h' vr (.ref e) ra bs hv T H k _ m1 .same ?_ S1 heL .refl
  refine rwl (dP (Lj _) O.len) (rwb (p4 S.snd) ?_)
  exact .nil
 have tailC:bJ (CN (n+7)) (b9 GS) (eM.drop 4 cv.body) (iK Q) (fun c _ m'=>X c m') [some (.ref a),some (.int cl),some vr,some (.int nb),some (.ref e),none,none,none,none,none] m1:=by
  dsimp only[cv,aK,eM.drop]
  refine jz ?_
  refine mF (vy rfl (ba (S1.r.ext ai) (aa O.tl) (wc (n7 (cH ?_)))))
  with_reducible refine bt (fun q=>?_) (fun q=>?_)
  ·exact Ai S1 (by have:=of_decide_eq_true q;exact He this) h'
  ·walk_at"ss"
   refine⟨aa (by decide:2<1000),?_⟩
   walk_at"ss"
   exact fin
 have tailB:bJ (CN (n+7)) (b9 GS) (eM.drop 3 cv.body) (iK Q) (fun c _ m'=>X c m') [some (.ref a),some (.int cl),some vr,some (.int nb),some (.ref e),none,none,none,none,none] m1:=by
  dsimp only[cv,aK,eM.drop]
  refine jz ?_
  walk_at"ss"
  with_reducible refine gD (fun q=>?_) (fun q=>?_)
  ·refine eY (mF (vy rfl (ba (S1.r.ext ai) (aa O.tl) (wc (uG (cH (dR (cH ?_))))))))
   with_reducible refine bt (fun q=>?_) (fun q=>?_)
   ·exact AR S1 heL (by have:=of_decide_eq_true q;exact GN this) h'
   ·exact tailC
  ·refine rwl q ?_
   exact cH (dB tailC)
 with_reducible refine gD (fun q=>?_) (fun q=>?_)
 ·walk_at"ss"
  refine dE O (S1.r.ext ai) ?_
  refine wc (n7 (cH (dR (cH ?_))))
  with_reducible refine bt (fun q=>?_) (fun q=>?_)
  ·exact Bj S1 heL (by have:=of_decide_eq_true q;exact GC this) h'
  ·exact tailB
 ·refine rwl q ?_
  exact cH (dB tailB)
end
section
variable{C:bb}{G:String->Option ae}{Q:ae->Mem->Prop}{X:Nat->Mem->Prop}{m m' m1 m2:Mem}{n:Nat}{v w hv vr:ae}{T T' H H':List (List Int)}{k k' N i:Nat}{a d ra ra' c ft:Addr}{bs bs' F L:List Addr}{xs:List ae}{loc:aL}{st:List Nat}{R:Flow->aL->Mem->Prop}{Y:Nat->aL->Mem->Prop}{Ss:List (List (List Int))}
theorem wI(S:LS F m a d ra bs hv T H k vr){cl:Int}(hX:∀m,X 0 m)(h:Moved F m a d ra bs T H k Q):CN (n+9) 124 [.ref a,.int cl,vr] Q X m:=by
 have O:=S.snd.ok
 have h8:=O.t8
 (refine aw rfl rfl ?_;dsimp only[tB,aK,bh,KU,Kk,Ko,Kr,KG,Nat.reduceAdd,Nat.reduceSub])
 walk_at"ss"
 with_reducible refine gD (fun q=>?_) (fun q=>?_)
 ·walk_at"ss"
  with_reducible refine bt (fun q=>?_) (fun q=>?_)
  ·walk_at"ss"
   refine iL ?_
   walk_at"ss"
   refine rr S (fun m=>⟨rfl,hX m⟩) fun m1 E1=>?_
   have S1:=S.ext E1
   walk_at"ss"
   refine ba (S1.r.ext ai) (aa O.tl) ?_
   refine dC (gI h8) (ah (by refine rwl (aR ..) ?_;exact aa (by refine(?_:T.length<1000);walk_at"o")) fun e m2 he E2 ee=>?_)
   rw[dK] at ee
   walk_at"ss"
   refine⟨aa (by decide:2<1000),?_⟩
   walk_at"ss"
   refine h vr (.ref e) ra bs hv T H k _ m2 .same ?_ (S1.ext E2) (bo.hid ee fun q=>S1.est.live _ q he) (ag (E1.trans E2))
   refine rwl (dP (Lj _) O.len) (rwb (p4 S.snd) ?_)
   exact .nil
  ·walk_at"ss"
   exact nz S h
 ·refine rwl q ?_
  walk_at"ss"
  exact nz S h
noncomputable def Hi:eM:=match dF.body with| .cons _ (.cons (.fors _ _ _ b) _)=>b|_=> .nil
noncomputable def C7:eM:=match Hi with| .cons _ (.cons _ (.cons _ (.cons _ (.cons (.ifs _ t _) _))))=>t|_=> .nil
theorem my(S:LS [ft] m a d ra bs hv T' H' k' vr)(D:ed T k T' k' st)(Sn:tY T H k)(Ds:ck T' (aZ T T' st H) (cD k' (aZ T T' st H)) H'){v2 v4 v8 y9:ae}{y10 y11 yc:Option ae}{cl:Int}{y6:ae}(h2:bH (hide [ft] m) v2 T)(h8:cJ (hide [ft] m) v8 (zs st))(h4:cP bH (hide [ft] m) v4 Ss)(hH:H∈Ss)(hl:Ss.length<=4)(h9:y9= .none\/∃c Fs,y9= .ref c/\cP bH (hide [ft] m) y9 Fs/\H'∈Fs)
  (ht:m ft=some (.list xs)) (hxl:xs.length<999) (hT:oV (hide (d::ra::(bs++ [ft])) m) xs)
  (h:∀v10 v11 c9 m' xs',LS [ft] m' a d ra bs hv T' H' k' vr->m' ft=some (.list xs')->xs'.length=xs.length+1->oV (hide (d::ra::(bs++ [ft])) m') xs'->ax (hide (d::ra::(bs++ [ft])) m) (hide (d::ra::(bs++ [ft])) m')->cP bH (hide (d::ra::(bs++ [ft])) m') (.ref c9) [H']->R .next [some (.ref a),yc,some v2,some (.ref ft),some v4,some (.int cl),some y6,some vr,some v8,some (.ref c9),some v10,some v11,none] m'):
  bJ (CN (n+9)) (b9 GS) C7 R Y [some (.ref a),yc,some v2,some (.ref ft),some v4,some (.int cl),some y6,some vr,some v8,some y9,y10,y11,none] m:=by
 have O:=S.snd.ok
 have tail:∀r m1 xs',LS [ft] m1 a d ra bs hv T' H' k' vr->m1 ft=some (.list xs')->xs'.length=xs.length+1->oV (hide (d::ra::(bs++ [ft])) m1) xs'->ax (hide [ft] m) m1->bH (hide (d::ra::(bs++ [ft])) m1) r H'->bJ (CN (n+9)) (b9 GS) (eM.drop 2 C7) R Y [some (.ref a),yc,some v2,some (.ref ft),some v4,some (.int cl),some y6,some vr,some v8,some y9,some r,y11,none] m1:=fun r m1 xs' S1 ht1 hxl' hT1 E1 hv1=>by
  dsimp only[C7,Hi,dF,aK,eM.drop]
  walk_at"ss"
  obtain⟨s0,hs0⟩:∃s0,Ss[0]? =some s0:=⟨_,KA (Mx hH)⟩
  refine eG (h4.extT E1) (MQ 0) hs0 (aa (by walk_at"o")) fun v11 h11=>?_
  walk_at"ss"
  refine ba (h4.extT E1) (aa (by walk_at"o")) ?_
  walk_at"ss"
  have fin:∀m2,ax m1 m2->bJ (CN (n+9)) (b9 GS) (eM.drop 4 C7) R Y [some (.ref a),yc,some v2,some (.ref ft),some v4,some (.int cl),some y6,some vr,some v8,some y9,some r,some v11,none] m2:=fun m2 E2=>by
   dsimp only[C7,Hi,dF,aK,eM.drop]
   walk_at"ss"
   refine ah (aa (by decide:1<1000)) fun c9 m3 h3 E3 e3=>?_
   walk_at"ss"
   have S2:=S1.ext E2
   exact h _ _ c9 m3 xs' (S2.ext E3) ((E2.trans E3) _ _ ht1) hxl' (hT1.ext (ag (E2.trans E3))) ((lg E1).trans (ag (E2.trans E3))) ⟨_,bo.hid e3 fun q=>S2.est.live _ q h3,.cons (hv1.ext (ag (E2.trans E3))) .nil⟩
  with_reducible refine gD (fun q=>?_) (fun q=>?_)
  ·obtain rfl:s0=H:=by
    have:Ss.length=1:=by have:=of_decide_eq_true q;exact BF this
    refine aO (List.length_eq_one_iff.mp this:) fun y e0r0_1=>?_
    subst e0r0_1
    refine rwl (Kq.mp hH) ?_;exact(Option.some.inj hs0).symm
   walk_at"ss"
   refine rW D Sn Ds (h2.ext E1) (h8.ext E1) h11 (S1.r.ext ai) (hv1.ext ai) fun m2 E2=>?_
   exact cH (cH (dR (cH (b0 rfl (fin m2 E2)))))
  ·exact cH (b0 q (fin m1 (fun _ _ e=>e)))
 dsimp only[C7,Hi,dF,aK]
 walk_at"ss"
 refine sS S ht (by walk_at"o") hT fun v10 m1 xs' S1 ht1 hxl' hT1 E1 hv1=>?_
 have tl:=tail v10 m1 xs' S1 ht1 hxl' hT1 E1 hv1
 refine af (id hv1:) fun ys w1r0_1 eA=>?_
 refine af w1r0_1 ?_;clear w1r0_1;intro r e0r1_1 er
 subst e0r1_1
 walk_at"ss"
 refine rwl (show (i9 none (ae.ref r)==true)=false from rfl) ?_
 walk_at"ss"
 rcases h9 with rfl|⟨c,Fs,rfl,hF,hm⟩
 ·refine rwl (show (i9 none ae.none==false)=false from rfl) ?_
  exact gJ (cH (dR (cH (b0 rfl tl))))
 ·refine rwl (show (i9 none (ae.ref c)==false)=true from rfl) ?_
  walk_at"ss"
  refine gh (hv1.ext ai) (hF.extT E1) ?_
  refine rwl (gB hm) ?_
  exact cH (dR (cH (dR (cH (b0 rfl tl)))))
end
section
variable{C:bb}{G:String->Option ae}{Q:ae->Mem->Prop}{X:Nat->Mem->Prop}{m m' m1 m2:Mem}{n:Nat}{v w hv vr vc v4:ae}{T T' H H':List (List Int)}{k k' N i:Nat}{a d ra ra' c ft:Addr}{bs bs' F L:List Addr}{xs:List ae}{loc:aL}{st:List Nat}{R:Flow->aL->Mem->Prop}{Y:Nat->aL->Mem->Prop}{Ss:List (List (List Int))}
structure WS(m:Mem)(a d ft ra:Addr)(bs:List Addr)(T H:List (List Int))(k:Nat)(vr v4:ae)(Ss:List (List (List Int)))(xs:List ae):Prop where
 ls:∃hv,LS [ft] m a d ra bs hv T H k vr
 st:cP bH (hide (d::ra::(bs++ [ft])) m) v4 Ss
 may:Hk T k Ss
 sl:Ss.length<=4
 hm:H∈Ss
 ht:m ft=some (.list xs)
 told:oV (hide (d::ra::(bs++ [ft])) m) xs
theorem LS.far(S:LS [ft] m a d ra bs hv T H k vr):ft∉d::ra::bs:=(S.est.far ft (.head _)).1.2
theorem tM(S:LS [ft] m a d ra bs hv T (bA T.length) 0 vr)(ht:m ft=some (.list [])){cs:List Int}(hc:cJ (hide (d::ra::(bs++ [ft])) m) vc cs)(hcl:cs.length<=10)(hX:∀m,X 0 m)
  (h:∀v1 v2 m' ra' bs' T' H' k' Ss xs',WS m' a d ft ra' bs' T' H' k' v1 v2 Ss xs'->xs'.length<=10->ax (hide (d::ra::(bs++ [ft])) m) (hide (d::ra'::(bs'++ [ft])) m')->Q (.tup [v1,v2]) m'):CN (n+10) 126 [.ref a,vc,vr,.ref ft] Q X m:=by
 have O:=S.snd.ok
 (refine aw rfl rfl ?_;dsimp only[dF,aK,bh,KU,Kk,Ko,Kr,KG,Nat.reduceAdd,Nat.reduceSub])
 walk_at"ss"
 refine af (S.r.ext ai:) fun ys e1 e2=>?_
 refine ar e1.seq (by refine rwl e2.length ?_;exact aa O.tl) ?_
 refine dN (fun _=>[]) (by refine rwl e2.length ?_;exact O.tl) (fun m' E=>e1.stands (e1.ext E)) (fun j x m' hx E P hP=>?_) fun v1 m1 E1 o1=>?_
 ·walk_at"ss"
  exact av (aa (by decide)) fun c hc=>hP c m' .refl hc
 rw[e2.length] at o1
 walk_at"ss"
 refine ah (aa (by decide:1<1000)) fun c4 m2 h4 E2 e4=>?_
 have S1:=S.ext E1
 have E02:=E1.trans E2
 have W0:WS m2 a d ft ra bs T (bA T.length) 0 vr (.ref c4) [bA T.length] []:=⟨⟨_,S1.ext E2⟩,⟨_,bo.hid e4 fun q=>S1.est.live _ q h4,.cons ((dc (fun b hb=>S.est.live b hb) o1).ext (ag E2)) .nil⟩,(fun s hs=>by refine rwl (Kq.mp hs) ?_;exact⟨O,S.snd.full⟩),(by refine(?_:1<=4);decide),.head _,E02 _ _ ht,fun x hx=>nomatch hx⟩
 have hc2:=hc.ext (ag E02)
 have EL:ax (hide (d::ra::(bs++ [ft])) m) (hide (d::ra::(bs++ [ft])) m2):=ag E02
 clear e1 e2 o1 E1 E2 S1 e4 h4 ht S E02
 walk_at"ss"
 have hc2':=hc2.ext ai
 refine ar hc2'.seq (by refine rwl (Ki ..) ?_;exact aa (by walk_at"o")) ?_
 refine bg (fun i l m'=>∃ra' bs' T' H' k' vr' v4 Ss xs' y5 y6 y7 y8 y9 y10 y11,l= [some (.ref a),some vc,some vr',some (.ref ft),some v4,y5,y6,y7,y8,y9,y10,y11,none]/\WS m' a d ft ra' bs' T' H' k' vr' v4 Ss xs'/\xs'.length<=i/\ax (hide (d::ra::(bs++ [ft])) m2) (hide (d::ra'::(bs'++ [ft])) m')) ⟨_,_,_,_,_,_,_,_,_,_,_,_,_,_,_,_,rfl,W0,Lk 0,.refl⟩ (fun i x l m' hx hI P hP=>?_) fun l m' hI=>?_
 ·obtain⟨ra',bs',T',H',k',vr',v4,Ss,xs',y5,y6,y7,y8,y9,y10,y11,rfl,W,hxl,E⟩:=hI
  rw[KH] at hx
  refine af (KD.mp hx:) fun cl hcl' e2r0_2=>?_
  subst e2r0_2
  have hi:i<10:=Ks (Kn.mp hcl').1 hcl
  refine aO W.ls fun hv' S=>?_
  refine aU ?_
  dsimp only[ay]
  walk_at"ss"
  refine wI S (fun m=>⟨rfl,rfl,hX m⟩) fun v1 v2 ra1 bs1 hv1 T1 H1 k1 st m3 D Ds S3 hz E3=>?_
  have E3F:ax (hide (d::ra'::(bs'++ [ft])) m') (hide (d::ra1::(bs1++ [ft])) m3):=pQ E3
  have ht3:m3 ft=some (.list xs'):=ai _ _ (E3 _ _ ((aE S.far).trans W.ht))
  have hst:=W.st.extT E3F
  have hr3:=S.r.ext E3F
  have hT3:=W.told.ext E3F
  have E03:=E.trans E3F
  have O1:=(D.snd S.snd Ds).ok
  have fin:∀c9 y10 y11 m4 Fs xs1,WS m4 a d ft ra1 bs1 T1 H1 k1 v1 (.ref c9) Fs xs1->xs1.length<=xs'.length+1->ax (hide (d::ra1::(bs1++ [ft])) m3) (hide (d::ra1::(bs1++ [ft])) m4)->P [some (.ref a),some vc,some v1,some (.ref ft),some (.ref c9),some (.int cl),some (.tup [v1,v2]),some v1,some v2,some (.ref c9),y10,y11,none] m4:=fun c9 y10 y11 m4 Fs xs1 W4 hl4 E4=>hP _ _ ⟨bo.stands (k:= .plain) hc2' ((hc2.ext (E03.trans E4)).ext ai),_,_,_,_,_,_,_,_,_,_,_,_,_,_,_,_,rfl,W4,FO hxl hl4,E03.trans E4⟩
  have look:∀v10 v11 c9 m4 m5 xs1,ax m3 m4->LS [ft] m5 a d ra1 bs1 hv1 T1 H1 k1 v1->m5 ft=some (.list xs1)->xs1.length=xs'.length+1->oV (hide (d::ra1::(bs1++ [ft])) m5) xs1->ax (hide (d::ra1::(bs1++ [ft])) m4) (hide (d::ra1::(bs1++ [ft])) m5)->cP bH (hide (d::ra1::(bs1++ [ft])) m5) (.ref c9) [H1]->P [some (.ref a),some vc,some v1,some (.ref ft),some (.ref c9),some (.int cl),some (.tup [v1,v2]),some v1,some v2,some (.ref c9),some v10,some v11,none] m5:=fun v10 v11 c9 m4 m5 xs1 E4 S5 ht5 hx5 hT5 E5 h9=>fin _ _ _ _ _ _ ⟨⟨_,S5⟩,h9,(fun s hs=>by refine rwl (Kq.mp hs) ?_;exact⟨O1,S3.snd.full⟩),by refine(?_:1<=4);decide,.head _,ht5,hT5⟩ (FL hx5) ((ag E4).trans E5)
  have hs:∀b:Addr,b∈ [ft]->b∈d::ra1::(bs1++ [ft]):=fun b h=>fU (.inr h)
  walk_at"ss"
  refine b0 rfl ?_
  walk_at"ss"
  refine wq D W.may W.sl (fun b hb=>S3.est.live b hb) hst (hr3.ext ai) (hz.ext ai) (S3.r.ext ai) (fun m4 E4=>?_) fun c Fs m4 E4 hF hMF hFl hall=>?_
  ·refine jz (jl (eY (vG (fk _ (by with_unfolding_all rfl) (cH (l5 (cH (fj ?_))))))))
   exact my (S3.ext E4) D S.snd Ds ((hr3.ext (ag E4)).ext (dO hs)) ((hz.ext (ag E4)).ext (dO hs)) ((hst.extT (ag E4)).extT (dO hs)) W.hm W.sl (.inl rfl) (E4 _ _ ht3) (GH hxl hi) (hT3.ext (ag E4)) fun v10 v11 c9 m5 xs1 S5 ht5 hx5 hT5 E5 h9=>by
    walk_at"ss"
    with_reducible refine au ?_
    exact look _ _ _ _ _ _ E4 S5 ht5 hx5 hT5 E5 h9
  ·have hm:=hall H' W.hm H1 Ds
   have S4:=S3.ext E4
   refine jz (jl (eY (vG (fk _ (by with_unfolding_all rfl) (cH (iq ?_))))))
   walk_at"ss"
   refine bt (fun q=>?_) fun q=>?_
   ·exact my S4 D S.snd Ds ((hr3.ext (ag E4)).ext (dO hs)) ((hz.ext (ag E4)).ext (dO hs)) ((hst.extT (ag E4)).extT (dO hs)) W.hm W.sl (.inr ⟨c,Fs,rfl,hF.extT (dO hs),hm⟩) (E4 _ _ ht3) (by lia) (hT3.ext (ag E4)) fun v10 v11 c9 m5 xs1 S5 ht5 hx5 hT5 E5 h9=>by
     walk_at"ss"
     with_reducible refine au ?_
     exact(look _ _ _ _ _ _ E4 S5 ht5 hx5 hT5 E5 h9)
   ·walk_at"ss"
    with_reducible refine au ?_
    exact(fin _ _ _ _ _ _ ⟨⟨_,S4⟩,hF,hMF,hFl,hm,E4 _ _ ht3,hT3.ext (ag E4)⟩ (LJ _) (ag E4))
 ·obtain⟨ra',bs',T',H',k',vr',v4,Ss,xs',y5,y6,y7,y8,y9,y10,y11,rfl,W,hxl,E⟩:=hI
  rw[Ki] at hxl
  walk_at"ss"
  refine⟨aa (by decide:2<1000),?_⟩
  walk_at"ss"
  exact h _ _ _ _ _ _ _ _ _ _ W (by walk_at"o") (EL.trans E)
end
section
variable{C:bb}{G:String->Option ae}{Q:ae->Mem->Prop}{X:Nat->Mem->Prop}{m m' m1 m2:Mem}{n:Nat}{v w hv:ae}{T H H':List (List Int)}{k N i:Nat}{a d ra ra' c:Addr}{bs bs' F:List Addr}{loc:aL}{ws row:List Int}
theorem Ay(h1:1<=N)(h8:N<=8):tY (bA N) (bA N) 0:=by
 have hl:(bA N).length=N:=by unfold bA;exact rwl (Ki ..) (rwl (Kz ..) rfl)
 have hm:∀r∈bA N,r= []:=fun r hr=>by obtain⟨_,_,rfl⟩:=KL.mp hr;rfl
 have O:=rP (t:=bA N) (k:=0) (Tb.tab (k:=0) ⟨Fo h1 hl,Gk h8 hl,by decide,fun r hr=>by refine rwl (hm r hr) ?_;rfl,fun r hr x hx=>by rw[hm r hr] at hx;nomatch hx⟩) (fun r hr=>by refine rwl (hm r hr) ?_;rfl) (by decide)
 have B:=pO O
 rw[hl] at O B
 exact⟨O,B,by refine rwl (gV ..) ?_;exact List.Perm.refl _⟩
theorem nq{K:ae->Mem->Prop}(hF:∀b∈F,m b≠none)(h1:1<=N)(h8:N<=8)
  (h:∀a d ra bs hv m',m a=none->ES F m' a d ra bs hv (bA N) (bA N) 0->ax m (hide (d::ra::bs) m')->K (.ref a) m'):A6 (fun x m2=>CN (n+2) 59 [x,.int (N:Nat)] (fun r m3=>r= .none/\K x m3) X m2) m:=by
 intro a d ha hd hne
 have ne:∀{b o},m b=some o->b≠a/\b≠d:=fun e=>⟨fun q=>(by rw[q,ha] at e;injection e),fun q=>(by rw[q,hd] at e;injection e)⟩
 have at_:∀{b o},m b=some o->((m.set d (.flds [none,none])).set a (.inst d)) b=some o:=fun e=>by refine rwl (ak (ne e).1) (rwl (ak (ne e).2) ?_);exact e
 refine xB (F:=F) (a:=a) (d:=d) ao (by refine rwl (ak (Ne.symm hne)) ?_;exact ao) (fun b hb=>?_) h1 h8 fun ra bs hv m1 hbl S1 E1=>⟨rfl,h a d ra bs hv m1 ha ⟨S1,hbl,Ay h1 h8⟩ fun b o e=>E1 _ _ ?_⟩
 ·cases q:m b with
  |none=>exact absurd q (hF b hb)
  |some o=>exact⟨ne q,by refine rwl (at_ q) ?_;exact fun q=>nomatch q⟩
 ·refine rwl (aE fun q=>(ne e).2 (Kq.mp q)) ?_
  exact at_ e
theorem zp(S:ES F m a d ra bs hv T H k)(hw:cJ (hide (d::ra::bs) m) w ws)(hl:ws.length=T.length)(hx:∀x∈ws,cV x=true)(hk:k<40)
  (h:∀hv' H' m',ES F m' a d ra bs hv' (eR T ws) H' (k+1)->ax (hide (d::ra::bs) m) (hide (d::ra::bs) m')->Q (.int k) m'):CN (n+6) 105 [.ref a,w] Q X m:=
 uO S.est S.len S.snd hw hl hx hk fun hv' H' m' S' E hD=>h hv' H' m' ⟨S',by refine rwl bD ?_;exact S.len,(ed.come ws hl hx hk).snd S.snd hD⟩ E
theorem D5(S:ES F m a d ra bs hv T H k)(h2:1<T.length)(hi:i<T.length)(h:∀ra' bs' hv' H' m',ES F m' a d ra' bs' hv' (cutAt i T) H' k->Q .none m'):CN (n+6) 106 [.ref a,.int (i:Nat)] Q X m:=
 Fh S.est S.len S.snd h2 hi fun ra' bs' hv' H' m' hl S' E hD=>h ra' bs' hv' H' m' ⟨S',hl,(ed.go i hi h2).snd S.snd hD⟩
theorem x7(S:ES F m a d ra bs hv T H k)(hw:cJ (hide (d::ra::bs) m) w row)(hr:row.length=k)(hx:∀x∈row,cV x=true)(h8:T.length<8)
  (h:∀bs' hv' H' m',ES F m' a d ra bs' hv' (T++ [row]) H' k->Q (.int T.length) m'):CN (n+7) 107 [.ref a,w] Q X m:=
 zZ S.est S.len S.snd hw hr hx h8 fun bs' hv' H' m' hl S' E hD=>h bs' hv' H' m' ⟨S',hl,(ed.join row hr hx h8).snd S.snd hD⟩
theorem la(S:ES F m a d ra bs hv T H k)(h:∀v m',ax m m'->ic m m' v H->Q v m'):CN (n+1) 63 [.ref a] Q X m:=kR S.est S.snd.ok.ul (fun r hr=>sl1 (S.snd.ok.sl hr)) h
theorem yg{x:Int}{j:Int}{e:Ex}(he:pv G loc e=some (.int j))(hj:0<=j/\j<100)(h:∀c m',ax m m'->m c=none->m' c=some (.list ((Kk j.toNat x).map .int))->Q (.ref c) m'):bf m [.int x] (fun y m1=>bk C G X e loc (fun z m2=>gq .mul y z Q m2) m1):=by
 refine ah (aa (by decide:1<1000)) fun b m1 hb E1 e1=>?_
 have e:(Kk j.toNat [ae.int x]).flatten=(Kk j.toNat x).map .int:=by
  refine rwl List.map_replicate ?_
  induction j.toNat with
  |zero=>rfl
  |succ n ih=>refine rwl Nv (rwl L3 (rwl ih ?_));rfl
 refine fk _ he (sy (bo.lst ⟨b,rfl,e1⟩) hj.1 (LO hj.2 (by unfold br;decide)) ?_)
 refine rwl e ?_
 exact ah (by refine rwl (Ki ..) (rwl (L6 ..) ?_);exact aa (Jf hj)) fun c m2 hc E2 e2=>h c m2 (E1.trans E2) (aQ E1 hc) e2
theorem p0(S:tY T H k)(h1:T.length=1):H= [zs (Kt k)]:=by
 have O:=S.ok
 refine aO (List.length_eq_one_iff.mp (O.len.trans h1):) fun r e0r0_1=>?_
 subst e0r0_1
 have hp:=S.full
 rw[List.flatten_singleton] at hp
 have:=O.share (.head _)
 simp only[dD,KW,decide_eq_true_eq] at this
 exact rwl (fR hp this.2 (jF k)) rfl
end
section
variable{Q:ae->Mem->Prop}{X:Nat->Mem->Prop}{m m' m1 m2:Mem}{n:Nat}{hv:ae}{T H H':List (List Int)}{N i:Nat}{a d ra c:Addr}{bs F:List Addr}
theorem qR(j:Nat):∀x∈Kk j (1:Int),cV x=true:=fun x hx=>by refine rwl (List.eq_of_mem_replicate hx) ?_;decide
theorem BS{vs:ae}{cl:Int}{W:aL->Mem->Prop}(hX:∀m,X 0 m)(h:∀m',Q (.bool true) m'):
  bJ (CN (n+7)) (b9 GS) (match fz.body with| .cons _ (.cons (.ifs _ t _) _)=>t|_=> .nil) (lK W (iK Q)) (fun c _ m'=>X c m') [some vs,some (.int cl),none,none] m:=by
 dsimp only[fz,aK]
 walk_at"ss"
 refine nq (F:=[]) (N:=8) (fun b hb=>nomatch hb) (by decide) (by decide) fun a d ra bs hv m1 ha S1 E1=>?_
 walk_at"ss"
 refine aV (gI (N:=8) (by decide)) ?_
 refine bg (fun i l m'=>∃ra bs hv T H y3,l= [some vs,some (.int cl),some (.ref a),y3]/\ES [] m' a d ra bs hv T H i/\T.length=8) ⟨_,_,_,_,_,_,rfl,S1,by decide⟩ (fun i x l m' hx hI P hP=>?_) fun l m' hI=>?_
 ·refine Bg hI ?_;clear hI;intro ra bs hv T H y3 e0r0_6 S hT
  subst e0r0_6
  refine aq (cq hx:) fun hi e1r0_1=>?_
  subst e1r0_1
  have hi:i<8:=hi
  refine aU ?_
  dsimp only[ay]
  walk_at"ss"
  refine ek S.est.at_ S.est.fl ?_
  walk_at"ss"
  refine lj (.inl (tq (by walk_at"o"))) ?_
  walk_at"ss"
  refine gw (N:=8) (by decide) fun b m2 E2 hb e2=>?_
  walk_at"ss"
  have S2:=S.ext E2
  refine zp S2 (bo.hid e2 fun q=>S.est.live' b q hb) ((kE _ _).trans hT.symm) (rL _ _) (by walk_at"o") fun hv' H' m3 S3 E3=>?_
  walk_at"ss"
  refine b0 (fM (fun q=>q rfl)) ?_
  walk_at"ss"
  with_reducible refine au (hP _ _ ?_)
  exact⟨trivial,_,_,_,_,_,_,rfl,S3,by refine rwl bD ?_;exact hT⟩
 ·refine Bg hI ?_;clear hI;intro ra bs hv T H y3 e2r0_6 S hT
  subst e2r0_6
  rw[aR] at S
  have S:ES [] m' a d ra bs hv T H 8:=S
  walk_at"ss"
  refine yg rfl (by decide) fun c2 m2 E2 hc2 e2=>?_
  have S2:=S.ext E2
  walk_at"ss"
  refine cL S2 (.eight ⟨c2,rfl,e2⟩ (by decide) (qR _) hT) (fun m=>⟨rfl,hX m⟩) fun m3 E3=>?_
  have S3:=S2.ext E3
  walk_at"ss"
  refine jA ?_
  walk_at"ss"
  refine yg rfl (by decide) fun c4 m4 E4 hc4 e4=>?_
  have S4:=S3.ext E4
  walk_at"ss"
  refine cL S4 (.join (jD ⟨c4,rfl,e4⟩ (by decide) (by decide))) (fun m=>⟨rfl,hX m⟩) fun m5 E5=>?_
  have S5:=S4.ext E5
  walk_at"ss"
  refine jA ?_
  walk_at"ss"
  refine ek S5.est.at_ S5.est.fl ?_
  walk_at"ss"
  have hf:=fm (cl.fdiv 2) (b:=8) (by decide)
  obtain⟨i,hi⟩:∃i:Nat,(cl.fdiv 2).fmod 8=(i:Nat):=⟨_,(Mu hf.1).symm⟩
  rw[hi] at hf⊢
  have hcut:=cg (i:=i) (l:=T) (Es hT hf)
  refine D5 (i:=i) S5 (D8 hT) (by lia) fun ra6 bs6 hv6 H6 m6 S6=>?_
  refine rwl (show (i9 none ae.none==true)=true from rfl) ?_
  walk_at"ss"
  refine ek S6.est.at_ S6.est.fl ?_
  walk_at"ss"
  refine yg rfl (by decide) fun c7 m7 E7 hc7 e7=>?_
  have S7:=S6.ext E7
  walk_at"ss"
  refine x7 S7 (bo.hid e7 fun q=>S6.est.live' _ q hc7) (by decide) (qR _) (Gn hT hcut) fun bs8 hv8 H8 m8 S8=>?_
  walk_at"ss"
  refine rwl (gB (by exact G3 hT hcut:((cutAt i T).length:Int)=7)) ?_
  walk_at"ss"
  refine ek S8.est.at_ S8.est.fl ?_
  walk_at"ss"
  refine la S8 fun v9 m9 E9 o9=>?_
  refine ba o9.isT (aa S8.snd.ok.ul) ?_
  walk_at"ss"
  have hl:=S8.snd.ok.len
  rw[Km,KY] at hl
  refine rwl (gB (by exact Fl hT hcut hl:(H8.length:Int)=8)) ?_
  walk_at"ss"
  exact h _
end
section
variable{C:bb}{G:String->Option ae}{Q:ae->Mem->Prop}{X:Nat->Mem->Prop}{m m' m1 m2:Mem}{n:Nat}{hv:ae}{T H H':List (List Int)}{k N i:Nat}{a d ra c:Addr}{bs F:List Addr}{xs:List ae}{loc:aL}{ws ns:List Int}
theorem qq{C:bb}{G:String->Option ae}{X:Nat->Mem->Prop}(h:∀c m',ax m m'->bH m' (.ref c) [zs (Kt 40)]->Q (.ref c) m'):bk C G X (.lst (.cons (.b1 .lrange (.int 40)) .nil)) loc Q m:=by
 refine vx (lO (vy (by with_unfolding_all rfl) (dC (sj (k:=40) (Lk 40)) (ah (by refine rwl (aR ..) ?_;exact aa (by decide:40<1000)) fun b m1 hb E1 e1=>qk (ah (aa (by decide:1<1000)) fun c m2 hc E2 e2=>?_)))))
 rw[dK] at e1
 exact h c m2 (E1.trans E2) ⟨_,⟨c,rfl,e2⟩,.cons ⟨b,rfl,E2 _ _ e1⟩ .nil⟩
theorem Cg{vs:ae}{cl:Int}(hX:∀m,X 0 m)(h:∀m',Q (.bool true) m'):
  bJ (CN (n+7)) (b9 GS) (eM.drop 2 fz.body) (iK Q) (fun c _ m'=>X c m') [some vs,some (.int cl),none,none] m:=by
 dsimp only[fz,aK,eM.drop]
 walk_at"ss"
 refine nq (F:=[]) (N:=1) (fun b hb=>nomatch hb) (by decide) (by decide) fun a d ra bs hv m1 ha S1 E1=>?_
 walk_at"ss"
 refine aV (sj (k:=40) (Lk 40)) ?_
 refine bg (fun i l m'=>∃ra bs hv T H y3,l= [some vs,some (.int cl),some (.ref a),y3]/\ES [] m' a d ra bs hv T H i/\T.length=1) ⟨_,_,_,_,_,_,rfl,S1,by decide⟩ (fun i x l m' hx hI P hP=>?_) fun l m' hI=>?_
 ·refine Bg hI ?_;clear hI;intro ra bs hv T H y3 e0r0_6 S hT
  subst e0r0_6
  refine aq (cq hx:) fun hi e1r0_1=>?_
  subst e1r0_1
  have hi:i<40:=hi
  refine aU ?_
  dsimp only[ay]
  walk_at"ss"
  refine ek S.est.at_ S.est.fl ?_
  walk_at"ss"
  refine ah (aa (by decide:1<1000)) fun b m2 hb E2 e2=>?_
  walk_at"ss"
  have S2:=S.ext E2
  refine zp (ws:=[(i:Int)]) S2 (bo.hid e2 fun q=>S.est.live' b q hb) hT.symm (fun x hx=>by refine rwl (Kq.mp hx) ?_;unfold cV;exact rwl (decide_eq_true (Dm hi)) rfl) (by walk_at"o") fun hv' H' m3 S3 E3=>?_
  walk_at"ss"
  refine b0 (fM (fun q=>q rfl)) ?_
  walk_at"ss"
  with_reducible refine au (hP _ _ ?_)
  exact⟨trivial,_,_,_,_,_,_,rfl,S3,by refine rwl bD ?_;exact hT⟩
 ·refine Bg hI ?_;clear hI;intro ra bs hv T H y3 e2r0_6 S hT
  subst e2r0_6
  rw[aR] at S
  have S:ES [] m' a d ra bs hv T H 40:=S
  walk_at"ss"
  refine ah (aa (by decide:1<1000)) fun c2 m2 hc2 E2 e2=>?_
  have S2:=S.ext E2
  walk_at"ss"
  refine cL S2 (.full (xs:=[7]) ⟨c2,rfl,e2⟩ hT.symm (fun x hx=>by refine rwl (Kq.mp hx) ?_;decide) rfl) (fun m=>⟨rfl,hX m⟩) fun m3 E3=>?_
  have S3:=S2.ext E3
  walk_at"ss"
  refine jA ?_
  walk_at"ss"
  refine ah (aa (by decide:2<1000)) fun c4 m4 hc4 E4 e4=>?_
  have S4:=S3.ext E4
  walk_at"ss"
  refine cL S4 (.come (jD ⟨c4,rfl,e4⟩ (by refine(?_:2<1000);decide) (by refine rwl hT ?_;refine(?_:2≠1);decide))) (fun m=>⟨rfl,hX m⟩) fun m5 E5=>?_
  have S5:=S4.ext E5
  walk_at"ss"
  refine jA ?_
  walk_at"ss"
  refine ek S5.est.at_ S5.est.fl ?_
  walk_at"ss"
  refine la S5 fun v6 m6 E6 o6=>?_
  refine qq fun c7 m7 E7 h7=>?_
  refine nM (o6.isT.ext E7) h7 ?_
  refine rwl (fM fun q=>q (p0 S.snd hT)) ?_
  have S7:=(S5.ext E6).ext E7
  walk_at"ss"
  refine cL S7 (.only hT) (fun m=>⟨rfl,hX m⟩) fun m8 E8=>?_
  have S8:=S7.ext E8
  walk_at"ss"
  refine jA ?_
  walk_at"ss"
  refine ek S8.est.at_ S8.est.fl ?_
  walk_at"ss"
  refine yg rfl (by decide) fun c9 m9 E9 hc9 e9=>?_
  have S9:=S8.ext E9
  walk_at"ss"
  refine x7 S9 (bo.hid e9 fun q=>S8.est.live' _ q hc9) (by decide) (qR _) (FA hT) fun bs10 hv10 H10 m10 S10=>?_
  walk_at"ss"
  refine rwl (gB (by exact BN hT:((T.length:Nat):Int)=1)) ?_
  walk_at"ss"
  refine ek S10.est.at_ S10.est.fl ?_
  walk_at"ss"
  have hl:(T++ [Kk (Int.toNat 40) (1:Int)]).length=2:=by refine rwl Km (rwl hT ?_);rfl
  have hcut:=cg (i:=0) (l:=T++ [Kk (Int.toNat 40) (1:Int)]) (Hd hl)
  refine D5 (i:=0) S10 (Gr hl) (by lia) fun ra11 bs11 hv11 H11 m11 S11=>?_
  refine rwl (show (i9 none ae.none==true)=true from rfl) ?_
  walk_at"ss"
  refine ek S11.est.at_ S11.est.fl ?_
  walk_at"ss"
  refine la S11 fun v12 m12 E12 o12=>?_
  refine qq fun c13 m13 E13 h13=>?_
  refine gO (o12.isT.ext E13) h13 ?_
  refine rwl (gB (p0 S11.snd (Ge hl hcut))) ?_
  walk_at"ss"
  exact h _
theorem wV(hl:ns.length<=63)(hX:∀m,X 0 m)(h:∀m',Q (.bool true) m'):CN (n+8) 117 [.frz (ns.map .int)] Q X m:=by
 refine aw rfl rfl ?_
 have B:=fun(cl:Int) (m:Mem)=>Cg (n:=n) (X:=X) (m:=m) (vs:= .frz (ns.map .int)) (cl:=cl) hX h
 refine(?_:bJ _ _ (.cons _ (.cons _ (eM.drop 2 fz.body))) _ _ _ _)
 generalize eM.drop 2 fz.body=rest at B⊢
 dsimp only[bh,KU,Kk,Ko,Kr,KG,Nat.reduceAdd,Nat.reduceSub,fz]
 walk_at"ss"
 refine lu (by decide) (by walk_at"o") ?_
 walk_at"ss"
 with_reducible refine bt (fun r=>?_) (fun r=>?_)
 ·exact BS hX h
 ·exact B _ _
end
section
variable{C:bb}{G:String->Option ae}{Q:ae->Mem->Prop}{X:Nat->Mem->Prop}{m m' m1:Mem}{v w hv:ae}{t H:List (List Int)}{N i:Nat}{d c ft:Addr}{F:List Addr}{xs:List ae}{loc:aL}
theorem lr(N:Nat):(bA N).length=N:=by unfold bA;exact rwl (Ki ..) (rwl (Kz ..) rfl)
theorem xM(N:Nat):bA (N+1)= []::bA N:=by
 unfold bA
 refine rwl List.range_succ_eq_map (rwl LG (rwl K0 ?_))
 rfl
theorem vQ{p:Nat×Nat}:p∉aC t (bA N):=fun hp=>by
 refine cI (bL.mp hp:) fun h1 h2 h3=>?_
 have e:∀i,(bA N).getD i []= []:=fun i=>by
  refine rwl (Ku) ?_
  cases q:(bA N)[i]? with
  |none=>rfl
  |some r=>obtain⟨_,_,q⟩:=KL.mp (Kp q);exact q.symm
 unfold sm at h3
 rw[e,e] at h3
 exact absurd h3 (MH _)
theorem sJ(hl:t.length=N+1)(D:ck t (bA (N+1)) [0] H):H= [0]::bA N:=by
 obtain⟨u1,D1,W,hR,hN,j,F,s,hs,hso,rfl⟩:=ck.inv (l:=[]) D
 rw[D1.inv0] at hR
 have hW:W=bA (N+1):=by
  cases hR with
  |refl=>rfl
  |step _ A _ _=>exact absurd (A 0) vQ
 subst hW
 have hj:j=0:=by
  cases j with
  |zero=>rfl
  |succ j=>obtain⟨i,hi⟩:=F.least 0 (Mi j);exact absurd hi vQ
 subst hj
 rw[xM] at hs⊢
 refine rwl (List.perm_singleton.mp (hs:s.Perm [0])) ?_
 rfl
theorem Bl{Ts:List (List (List Int))}{P:Bool->Mem->Prop}(hv:cP bH m v Ts)(hw:cP bH m w Ts)(h:P true m):cE .eq v w P m:=by
 have ok:oW 8 (.list (Ts.map jT))=true:=by
  refine(?_:(Ts.map jT).all (oW 7)=true)
  rw[KI]
  intro d hd
  refine af (KL.mp hd:) fun x _ e2r0_2=>?_
  subst e2r0_2
  exact ip x
 refine nO (Q:=fun r=>P r m) (cP.reads (fun _ _=>bH.reads) hv) (cP.reads (fun _ _=>bH.reads) hw) ok ok ?_ ⟨_,hv.choose_spec.1.choose_spec.1⟩
 refine rwl (show ef.beq (.list (Ts.map jT)) (.list (Ts.map jT))=decide (Ts=Ts) from oz ll Ts Ts) (rwl (decide_eq_true rfl) ?_)
 exact h
theorem zj(ht:m ft=some (.list xs))(hl:xs.length<1000)(hT:oV m xs){p q:Nat}(h2:∀x y,bS (ay (ay loc p x) q y) p=some x/\bS (ay (ay loc p x) q y) q=some y)(h:∀m',ax m m'->Q (.bool true) m'):
  dX .plain (.ref ft) (fun xs=>compLoop (cF C G X (.cmp .eq (.nm p) (.nm q)) (.two p q) .nil loc) (stands .plain (.ref ft) m) xs [] (fun ys m'=>bf m' ys (fun v m1=>gj .all v Q m1)) m) m:=by
 have hL:bo m (.ref ft) xs:=⟨ft,rfl,ht⟩
 refine ar hL.seq (aa hl) ?_
 refine dq (fun i acc m'=>m'=m/\acc=(Kk i true).map .bool) ⟨rfl,rfl⟩ (fun i x acc m' hx hI P hP=>?_) fun acc m' hI=>?_
 ·refine aq hI ?_;clear hI;intro e3r0_0 e3r0_1
  subst e3r0_0
  subst e3r0_1
  refine iU (hT x (Kp hx):) fun y z Ts e4r0_3 h1 h3=>?_
  subst e4r0_3
  refine aq (h2 y z:) fun g1 g2=>?_
  refine KF _ ⟨⟨y,z,rfl,rfl⟩,fj (mF (j8 g1 (j8 g2 (Bl h1 h3 (hP _ _ ⟨hL.stands hL,rfl,?_⟩)))))⟩
  refine rwl List.replicate_succ' (rwl KT ?_)
  rfl
 ·refine aq hI ?_;clear hI;intro e6r0_0 e6r0_1
  subst e6r0_0
  subst e6r0_1
  exact ah (by refine rwl (Ki ..) (rwl (L6 ..) ?_);exact aa hl) fun c m1 hc E1 e1=>rj (bo.lst ⟨c,rfl,e1⟩) (by refine rwl List.all_replicate ?_;cases xs.length<;>exact h _ E1)
end
section
variable{Q:ae->Mem->Prop}{X:Nat->Mem->Prop}{m m':Mem}{n:Nat}{w hv:ae}{T T' H':List (List Int)}{k N:Nat}{a d ra:Addr}{bs F:List Addr}
theorem CM(S:ES F m a d ra bs hv (bA (N+1)) (bA (N+1)) 0)(hw:cJ (hide (d::ra::bs) m) w (Kk (N+1) 5))
  (h:∀hv' T' m',ES F m' a d ra bs hv' T' ([0]::bA N) 1->ax (hide (d::ra::bs) m) (hide (d::ra::bs) m')->Q (.int 0) m'):CN (n+6) 105 [.ref a,w] Q X m:=by
 have hl:(Kk (N+1) (5:Int)).length=(bA (N+1)).length:=rwl (L6 ..) (rwl (lr ..) rfl)
 have hx:∀x∈Kk (N+1) (5:Int),cV x=true:=fun x hx=>by refine rwl (List.eq_of_mem_replicate hx) ?_;decide
 refine uO S.est S.len S.snd hw hl hx (by decide) fun hv' H' m' S' E hD=>?_
 have D:=ed.come (T:=bA (N+1)) (k:=0) _ hl hx (by decide)
 have Sn:=D.snd S.snd hD
 have hk:=dP (T':=eR (bA (N+1)) (Kk (N+1) 5)) (by refine rwl bD ?_;exact Lj _) S.snd.ok.len
 have O':=D.ok S.snd.ok
 rw[hk] at hD O'
 rw[<-qd S.snd O'] at hD
 have e:=sJ (by exact rwl (bD ..) (rwl (lr ..) rfl)) hD
 subst e
 exact h hv' _ m' ⟨S',by refine rwl bD ?_;exact S.len,Sn⟩ E
end
section
variable{C:bb}{G:String->Option ae}{Q:ae->Mem->Prop}{X:Nat->Mem->Prop}{m m' m1 m2:Mem}{n:Nat}{v w hv vr vc v4 v1 v2 y5 hv2:ae}{t T T' H H' T2:List (List Int)}{k k' N i:Nat}{a d ra ra' c ft a2 d2 ra2:Addr}{bs bs' F L bs2:List Addr}{xs:List ae}{loc:aL}{st:List Nat}{R:Flow->aL->Mem->Prop}{Y:Nat->aL->Mem->Prop}{ws row ns:List Int}{Ss:List (List (List Int))}
theorem Ba(hl:ns.length<=63)(hN:N+1<=8)(hX:∀m,X 0 m)(W:WS m a d ft ra bs T H k v1 v2 Ss xs)(hxl:xs.length<=10)(B:ES [] m a2 d2 ra2 bs2 hv2 T2 ([0]::bA N) 1)(h:∀m',Q (.bool true) m'):
  bJ (CN (n+10)) (b9 GS) (eM.drop 9 dk.body) (iK Q) (fun c _ m'=>X c m') [some (.frz (ns.map .int)),some (.int ((N+1:Nat):Int)),some (.ref a),some (.ref a2),some (.ref ft),some y5,some (.tup [v1,v2]),none,none,none,none,none] m:=by
 refine aO W.ls fun hv S=>?_
 dsimp only[dk,aK,eM.drop]
 refine jz (jl (eY (vG (fk _ (by with_unfolding_all rfl) (cH (iq ?_))))))
 walk_at"ss"
 refine ek S.est.at_ S.est.fl ?_
 walk_at"ss"
 refine kY S fun v3 m3 E3 o3=>?_
 have S3:=S.ext E3
 walk_at"ss"
 refine dG (xs:=[v1,v2]) rfl rfl rfl (aa (by decide:2<1000)) ?_
 refine gh o3.isT (W.st.extT ((ag E3).trans ai)) ?_
 refine rwl (gB W.hm) ?_
 walk_at"ss"
 refine dG (xs:=[v1,v2]) rfl rfl rfl (aa (by decide:2<1000)) ?_
 walk_at"ss"
 refine mz S3 fun m4 E4=>?_
 have E04:=E3.trans E4
 have S4:=S3.ext E4
 walk_at"ss"
 refine zj (E04 _ _ W.ht) (by walk_at"o") (W.told.ext (ai.trans E04)) (fun x y=>⟨rfl,rfl⟩) fun m5 E5=>?_
 have S5:=S4.ext E5
 walk_at"ss"
 refine ah (aa (by decide:1<1000)) fun b6 m6 h6 E6 e6=>?_
 walk_at"ss"
 refine rp fun b7 m7 h7 E7 e7=>?_
 walk_at"ss"
 refine ah (aa (by decide:9<1000)) fun b8 m8 h8 E8 e8=>?_
 have S8:=S5.ext (E6.trans (E7.trans E8))
 have B8:=B.ext (E04.trans (E5.trans (E6.trans (E7.trans E8))))
 walk_at"ss"
 refine lu (by decide) (by walk_at"o") ?_
 have hj:=fm (cell ns (17:Int).toNat) (b:=9) (by decide)
 walk_at"ss"
 have odd:∀x∈ [ae.int 0,.int (-1),.int 9,.bool true,.bool false,.str (Str.ofString "3"),.none,.ref b6,.ref b7],yZ m8 T k 3 x 9:=fun x hx=>by
  simp only[Kw,LX,or_false] at hx
  rcases hx with rfl|rfl|rfl|rfl|rfl|rfl|rfl|rfl|rfl
  ·exact .init trivial rfl
  ·exact .init trivial rfl
  ·exact .init trivial rfl
  ·exact .init trivial rfl
  ·exact .init trivial rfl
  ·exact .init trivial rfl
  ·exact .init trivial rfl
  ·exact .init (.inl ⟨_,(E7.trans E8) _ _ e6⟩) rfl
  ·exact .init (.inr (E8 _ _ e7)) rfl
 have hlt:((cell ns (17:Int).toNat).fmod 9).toNat<9:=Hu hj
 refine dG (bo.seq ⟨b8,rfl,e8⟩) (cX hj.1 hlt) (KA hlt) (aa (by decide:9<1000)) ?_
 have A:=odd _ (Nj hlt)
 generalize ([ae.int 0,.int (-1),.int 9,.bool true,.bool false,.str (Str.ofString "3"),.none,.ref b6,.ref b7][((cell ns (17:Int).toNat).fmod 9).toNat])=o at A
 walk_at"ss"
 refine cL S8.es A (fun m=>⟨rfl,hX m⟩) fun m9 E9=>?_
 walk_at"ss"
 refine jA ?_
 have B9:=B8.ext E9
 walk_at"ss"
 refine ek B9.est.at_ B9.est.fl ?_
 walk_at"ss"
 refine la B9 fun v10 m10 E10 o10=>?_
 walk_at"ss"
 refine ah (aa (by decide:1<1000)) fun b11 m11 h11 E11 e11=>?_
 walk_at"ss"
 refine ah (aa (by decide:1<1000)) fun b12 m12 h12 E12 e12=>?_
 walk_at"ss"
 refine rwl (by exact Bs:((N+1:Nat):Int)-1=(N:Nat)) ?_
 refine aV (gI (by walk_at"o")) ?_
 refine dN (fun _=>[]) (by refine rwl (aR ..) ?_;refine(?_:N<1000);walk_at"o") (fun _ _=>trivial) (fun j x m' hx E P hP=>?_) fun v13 m13 E13 o13=>?_
 ·walk_at"ss"
  exact av (aa (by decide)) fun c hc=>hP c m' .refl hc
 rw[aR] at o13
 obtain⟨ys,⟨b13,rfl,e13⟩,eA⟩:bH m13 v13 (bA N):=o13.isT
 refine bZ (bo.lst ⟨b12,rfl,E13 _ _ e12⟩) (bo.lst ⟨b13,rfl,e13⟩) ?_
 refine ah (by refine rwl (Km ..) (rwl (eA.length ..) (rwl (lr ..) ?_));exact aa (by refine(?_:1+N<1000);exact G9 hN)) fun b14 m14 h14 E14 e14=>?_
 have hR:bH m14 (.ref b14) ([0]::bA N):=⟨_,⟨b14,rfl,e14⟩,.cons ⟨b11,rfl,(E12.trans (E13.trans E14)) _ _ e11⟩ (eA.mono fun _ _ q=>q.ext E14)⟩
 refine gO (o10.isT.ext (E11.trans (E12.trans (E13.trans E14)))) hR ?_
 refine rwl (gB rfl) ?_
 walk_at"ss"
 exact h _
end
section
variable{C:bb}{G:String->Option ae}{Q:ae->Mem->Prop}{X:Nat->Mem->Prop}{m m' m1 m2:Mem}{n:Nat}{v w hv vr vc v4 v1 v2 y5 hv2:ae}{t T T' H H' T2:List (List Int)}{k k' N i:Nat}{a d ra ra' c ft a2 d2 ra2:Addr}{bs bs' F L bs2:List Addr}{xs:List ae}{loc:aL}{st:List Nat}{R:Flow->aL->Mem->Prop}{Y:Nat->aL->Mem->Prop}{ws row ns:List Int}{Ss:List (List (List Int))}
theorem zl(hl:ns.length<=63)(hN:N+1<=8)(hX:∀m,X 0 m)(h:∀m',Q (.bool true) m'):
  bJ (CN (n+10)) (b9 GS) (eM.drop 3 dk.body) (iK Q) (fun c _ m'=>X c m') [some (.frz (ns.map .int)),some (.int ((N+1:Nat):Int)),none,none,none,none,none,none,none,none,none,none] m:=by
 have fin:=fun(y5:ae) (v1 v2:ae) (m:Mem) (a d ft ra:Addr) (bs:List Addr) (T H:List (List Int)) (k:Nat) (Ss:List (List (List Int))) (xs:List ae) (a2 d2 ra2:Addr) (bs2:List Addr) (hv2:ae) (T2:List (List Int)) W hxl B=>Ba (n:=n) (Q:=Q) (X:=X) (y5:=y5) (v1:=v1) (v2:=v2) (m:=m) (a:=a) (d:=d) (ft:=ft) (ra:=ra) (bs:=bs) (T:=T) (H:=H) (k:=k) (Ss:=Ss) (xs:=xs) (a2:=a2) (d2:=d2) (ra2:=ra2) (bs2:=bs2) (hv2:=hv2) (T2:=T2) hl hN hX W hxl B h
 refine(?_:bJ _ _ (.cons _ (.cons _ (.cons _ (.cons _ (.cons _ (.cons _ (eM.drop 9 dk.body))))))) _ _ _ _)
 generalize eM.drop 9 dk.body=rest at fin⊢
 try dsimp only[dk,aK,eM.drop]
 walk_at"ss"
 refine nq (F:=[]) (N:=N+1) (fun b hb=>nomatch hb) (Bt) hN fun a d ra bs hv m1 ha S1 E1=>?_
 walk_at"ss"
 refine nq (F:=d::ra::bs) (N:=N+1) (fun b hb=>S1.est.live' b hb) (by lia) hN fun a2 d2 ra2 bs2 hv2 m2 ha2 B2 E2=>?_
 walk_at"ss"
 refine ek B2.est.at_ B2.est.fl ?_
 walk_at"ss"
 refine yg rfl (Do hN) fun c3 m3 E3 hc3 e3=>?_
 walk_at"ss"
 refine CM (B2.ext E3) (bo.hid e3 fun q=>B2.est.live' _ q hc3) fun hv4 T4 m4 B4 E4=>?_
 have S4:=S1.ext ((E2.trans (ag E3)).trans (E4.trans ai))
 walk_at"ss"
 refine⟨by trivial,?_⟩
 walk_at"ss"
 refine ah (aa (by decide:0<1000)) fun ft m5 hft E5 e5=>?_
 have nn5:m5 ft≠none:=by refine rwl e5 ?_;exact fun q=>nomatch q
 have S5:=S4.est.alloc E5 hft nn5
 have B5:=(B4.est.alloc E5 hft nn5).alone
 walk_at"ss"
 refine aV (gI hN) ?_
 refine dN (fun _=>[]) (by refine rwl (aR ..) ?_;refine(?_:N+1<1000);walk_at"o") (fun _ _=>trivial) (fun j x m' hx E P hP=>?_) fun v6 m6 E6 o6=>?_
 ·walk_at"ss"
  exact av (aa (by decide)) fun c hc=>hP c m' .refl hc
 rw[aR] at o6
 have S6:LS [ft] m6 a d ra bs hv (bA (N+1)) (bA (N+1)) 0 v6:=⟨S5.ext E6,S4.len,S4.snd,dc (fun b hb=>S5.live b hb) o6⟩
 walk_at"ss"
 have hcl:((ns.map ae.int).drop (eN 1 (ns.map ae.int).length)).take (eN 11 (ns.map ae.int).length-eN 1 (ns.map ae.int).length)=(((ns.drop 1).take 10).map ae.int):=by
  exact rwl (rfl:eN 1 (ns.map ae.int).length=1) (rwl (rfl:eN 11 (ns.map ae.int).length=11) (rwb Nq (rwb NL rfl)))
 have hll:((ns.drop 1).take 10).length<=10:=by refine rwl Le ?_;exact LP _ _
 refine⟨ns.map .int,rfl,by refine rwl (Ki ..) ?_;exact aa (by walk_at"o"),?_⟩
 refine rwl hcl ?_
 refine ah (by refine rwl (Ki ..) ?_;exact aa (by walk_at"o")) fun c7 m7 hc7 E7 e7=>?_
 walk_at"ss"
 refine tM (T:=bA (N+1)) (by refine rwl (lr ..) ?_;exact S6.ext E7) ((E6.trans E7) _ _ e5) (bo.hid e7 fun q=>S6.est.live _ q hc7) hll (fun m=>⟨rfl,hX m⟩) fun v1 v2 m8 ra8 bs8 T8 H8 k8 Ss xs8 W8 hx8 E8=>?_
 walk_at"ss"
 refine fin _ _ _ _ _ _ _ _ _ _ _ _ _ _ _ _ _ _ _ _ W8 hx8 ⟨(B5.ext ((dO fun b hb=>?_).trans ((ag (E6.trans E7)).trans (E8.trans ai)))),B4.len,B4.snd⟩
 rcases gN hb with q|q
 ·exact .tail _ q
 ·refine rwl (Kq.mp q) ?_;exact .head _
theorem C8(hl:ns.length<=63)(hX:∀m,X 0 m)(h:∀m',Q (.bool true) m'):CN (n+11) 127 [.frz (ns.map .int)] Q X m:=by
 have hf:=fm (cell ns 0) (b:=4) (by decide)
 refine aw rfl rfl ?_
 have T:=fun(N:Nat) (hN:N+1<=8) (m:Mem)=>zl (n:=n) (X:=X) (m:=m) hl hN hX h
 refine(?_:bJ _ _ (.cons _ (.cons _ (.cons _ (eM.drop 3 dk.body)))) _ _ _ _)
 generalize eM.drop 3 dk.body=rest at T⊢
 dsimp only[bh,KU,Kk,Ko,Kr,KG,Nat.reduceAdd,Nat.reduceSub,dk,aK]
 walk_at"ss"
 refine lu (by decide) (by walk_at"o") ?_
 walk_at"ss"
 with_reducible refine bt (fun r=>?_) (fun r=>?_)
 ·walk_at"ss"
  refine wV hl (fun m=>⟨rfl,hX m⟩) fun m'=>?_
  walk_at"ss"
  exact h _
 walk_at"ss"
 refine lu (by decide) (by walk_at"o") ?_
 obtain⟨q,hq⟩:∃q:Nat,(cell ns (0:Int).toNat).fmod 4=(q:Int):=⟨_,(Mu hf.1).symm⟩
 have hq4:q<4:=by have:(cell ns (0:Int).toNat).fmod 4<4:=hf.2;exact EV hq this
 walk_at"ss"
 try dsimp only[ay]
 refine rwl hq ?_
 refine lu (by decide) (by walk_at"o") ?_
 walk_at"ss"
 with_reducible refine bt (fun r=>?_) (fun r=>?_)
 ·walk_at"ss"
  refine rwl (by exact Ep:(1:Int)+(q:Int)+4=((q+4+1:Nat):Int)) ?_
  exact T (q+4) (GJ hq4) _
 ·refine rwl (by exact GG:(1:Int)+(q:Int)=((q+1:Nat):Int)) ?_
  exact T q (by walk_at"o") _
end
end TD.Internal
open PySem PySem.W PyProof.Rows
namespace TD.Internal
theorem yq{c:ClaimW}{cl:Str->Option Addr}{mean:ExcName->Option KC}{args:List WData}{s₁ s':Kv}(h1:∀cls,c.raises args cls=false)(h2:c.post args (.bool true) args=true)
  (k:s₁.heap.StaysIn s'.heap) (hg:s'.gens= #[]) (ho:s'.os=s₁.os):GoodWG c cl mean args s₁ (.ok (.ret (.bool true))) s':=by
 exact GoodW.toG ⟨.inl ⟨_,.bool true,[],rfl,h1,.bool true,h2,fun _=>⟨LH,fun _ h=>nomatch h⟩⟩,k,ho,hg⟩
end TD.Internal
open TD.Internal
theorem PySem.Challenge.cw_uf020018_12_holds : PySem.Challenge.rw_uf020018_12.Holds := by
 w_on;refine holds_law x6 fun said=>?_
 refine u2 zc Ka Kg ti hd3 (by kernel_rfl) (by assumption) Kd ⟨rfl,rfl,rfl,rfl,rfl,by decide+kernel⟩ ?hw fun d kwd hdn=>?_
 case hw=>w_witness2
 intro w s₀ s₁ mg mb G Y fa o pm cd doc dV kV ho hd hcd hD hmg hg args vals as hpre hlay hrd hwl hlo
 have hCls:ClsAt mg s₁.heap:=G.X.2
 refine Ground.open G ?_
 intro T B D TE TW
 clear D TW B
 wrow_args hpre hlay hrd hwl hlo
 rename_i ns _ _ _ _ _ _ a vs _ hL _ _ _ hI _ hc _
 refine AJ (FT:=FT) (ids:=vX) (gs:=GS) (f:=127) (n:=11) (fn:=dk) T hCls hg DJ (by kernel_rfl) (Be TE zC) (xY (ids2:=EH) (W:=⟨_,_,_,_,_,_,_⟩) T TE zC CT) (by omega) (by decide) rfl rfl ((congrArg mg hdn).symm.trans hmg) hL hI ?_ ?_
 ·refine C8 (n:=0) ?_ (fun m=>rfl) fun m'=>rfl
  omega
 ·intro s' k hg' ho'
  clear Y hd hcd hD hmg T G TE
  refine yq (fun _=>rfl) ?_ k hg' ho'
  wrow_post
