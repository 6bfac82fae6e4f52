import PyProof.Rows.All
import Wide.All
import OpenK.AllK
import Wide.FinOn
import Lean
import PySem.Challenge.RW_ok0064_01
open Option renaming some→d9,none→eh,map→kF,bind→uL,map_eq_some_iff→xD,map_some→KB,none_or→WT
open Bool renaming true→eb,false→em,and_eq_true_iff→m9,or_true→pG,and_eq_true→uD,eq_iff_iff→As,noConfusion→At,or_eq_true_iff→Du,or_eq_true→J9,false_eq_true→VX,false_ne_true→VY,false_or→VZ,not_true→V0
open PySem.Value renaming ref→ec,int→ej,none→ez,str→eC,type→eK,bool→fF,builtin→iP,ellipsis→Eb,isInt_shape→Xj
open PySem renaming Value→ed,Addr→et,Expr→eP,Shared→eZ,wpAny_mono→fc,wpAny→fi,Str→ft,wpAny_bind→fv,Pos→fE,Stmt→fG,Heap→fH,Obj→fN,NameKind→fX,Flow→gr,wpAny_pure→iA,Params→iE,Env→iN,eval→jc,Scope→jG,model→jI,Around→jZ,mainGlobals→ky,starEach→kz,World→kS,rawInt→kT,Program→lI,PyData→mm,sysModules→mL,sizeLine_eq→nz,assign→oh,CmpOp→oN,IsZip→pM,Result→pO,foldedSetIterable→pQ,intKind→pR,wpAny_field→pS,Operator→qG,backTo→qI,codeAny→qJ,swappedStores→qK,cellsFrom→rL,closureFor→rM,interactive→rN,pyNext→rO,wpAny_holding→rP,wpAny_standAt→rQ,intKind_is→tF,noteFrame→tG,swapsWith→tJ,wpAny_assign_Name→tK,DictEntry→uO,bootBuiltins→uV,execs→uW,wpAny_Call_ofName→uX,call→xS,comprehension→xT,isTrue→xU,stored→xV,valueAt→xW,wpAny_call→xX,wpAny_execs_nil→xY,wpAny_pyIter_list→xZ,Arguments→AL,FuncData→AN,assignEach→AY,wpAny_execs_cons→AZ,wpAny_newObj_type→A0,BindsTo→D3,bindArgs→Eh,compPost→Ei,excClassObj→Ej,leaving→Ek,letOwnedTupleGo→Em,recursionLimit→En,setItem→Eo,standAt→Ep,typeLookup→Er,wpAny_call_entry→Et,wpAny_loadPart_at→Eu,wpAny_seqItems→Ew,wpAny_setField→Ey,wpAny_setField_rec→Ez,attributeBase→KY,behindInMarks→KZ,codeAny_call_builtin→K0,codeAny_loop→K1,constantsAlone→K2,foldedForSure→K3,keywordEach→K4,setFlight→K5,slicePick→K6,slot_list_getitem→K7,swapsWithSole→K8,theTreesLotGoes→K9,wpAny_callSpecial?_slot→K',wpAny_onRaise→La,wpAny_storeName_local→Lb,wpAny_truthy_bool→Lc,Spec→Xi,codeAny_call_def→Xm,exec_Assign_Name_used→Xn,slot_dict_getitem→Xo,slot_list_setitem→Xp,slot_listiter_next→Xq,wpAny_assignInOrder_more→Xr,wpAny_assignInOrder_none→Xs,wpAny_assign_Tuple→Xu,wpAny_getItem_of→Xv,wpAny_isInstance→Xw,wpAny_pyIter_enum→Xx,wpAny_pyIter_listiter→Xy,wpAny_pyIter_zip→Xz,wpAny_pyNext_list_end→XA,wpAny_pyNext_list_item→XC,wpAny_typeLookup_exc→XD
open PySem.NameKind renaming «local»→ey,globalImplicit→eY,cell→fK,free→gb
open PySem.Str renaming ofString→eE
open Or renaming inl→eH,inr→eI
open Lean.Meta.Occurrences renaming all→eO
open Decidable renaming decide→eU
open Option.some renaming inj→eX,injEq→WU
open PySem.Data renaming fields→fB,seq→kQ,dict→oO,func→xH
open List renaming length_map→fC,map_cons→gj,mem_cons_self→gp,mem_cons→gy,mem_cons_of_mem→gC,map_map→gJ,mem_singleton→gR,length_append→il,lookup_cons→iw,all_eq_true→iC,not_mem_nil→iI,replicate→iJ,getElem?_eq_getElem→jF,mem_map_of_mem→jY,map_congr_left→kf,sum_cons→kr,nodup_cons→kE,flatMap_cons→kY,length_zip→kZ,map_append→lb,mem_append→lc,getD_eq_getElem?_getD→lD,getElem?_map→lE,length_cons→lF,mem_filter→lG,mem_reverse→lH,mem_singleton_self→lR,mem_map→mj,append_nil→mJ,append_assoc→ng,map_eq_nil_iff→nj,map_reverse→nq,length_reverse→n6,nodup_nil→n8,reverse_cons→n9,length_eq_zero_iff→oK,map→pH,length→qz,length_filter_le→qA,mem_flatMap→qB,nodup_append→qC,of_mem_zip→rG,mem_of_getElem?→tm,range'→tq,take_append_drop→tt,getElem_mem→uG,map_nil→uH,zipWith→uI,filter_cons_of_pos→xt,getElem?_eq_some_iff→xu,length_replicate→xv,length_take→xw,pairwise_singleton→xx,zip_cons_cons→xy,any_cons→Aw,any_eq_true→Ay,getElem?_take_of_lt→Az,mem_range→AA,mem_range'_1→AB,mergeSort_perm→AC,nil_append→AD,range→AE,size_toArray→AF,any_eq_false→DA,filterMap_cons→DB,filter_nil→DC,find?_cons_of_neg→DD,find?_cons_of_pos→DE,flatMap_nil→DF,getElem?_eq_none→DG,getElem_zip→DH,getLast_mem→DI,idxOf_lt_length_iff→DJ,length_eq_one_iff→DK,length_pos_iff→DL,length_pos_of_mem→DM,lookup→DN,map_eq_cons_iff→DO,map_fst_zip→DP,mem_append_left→DQ,mem_filterMap→DR,mem_iff_getElem?→DS,reverse_nil→DT,toArray→DU,cons_append→Kc,dropLast_concat→Kd,drop_eq_getElem_cons→Ke,exists_mem_of_ne_nil→Kf,filter_cons_of_neg→Kg,filter_map→Kh,forIn_cons→Ki,getElem?_nil→Kj,length_zipIdx→Kk,lookup_cons_self→Kl,map_id→Km,map_take→Kn,mem_iff_getElem→Ko,mem_replicate→Kq,pairwise_reverse→Kr,replicate_succ→Ks,sum→Kt,take_of_length_le→Ku,Nodup→V8,all_cons→Wa,any_map→Wb,contains_iff_mem→We,drop_length→Wf,filterMap→Wg,filter_append→Wh,filter_eq_self→Wi,filter_sublist→Wj,flatMap_append→Wk,getElem?_zip_eq_some→Wl,getElem_map→Wm,getLast?_concat→Wn,length_nil→Wo,length_singleton→Wp,lookup_append→Wq,lookup_eq_none_iff→Wr,lookup_nil→Ws,map_drop→Wt,map_replicate→Wu,map_set→Wv,mem_append_right→Ww,mem_of_mem_take→Wx,pairwise_mergeSort→Wy,perm_middle→Wz,reverse_perm→WA,reverse_reverse→WB,take_length→WC,take_nil→WD,take_succ_eq_append_getElem→WE,zipIdx_cons→WF,zip_map_right→WG
open Inhabited renaming default→fU
open PySem.Flow renaming next→fY,ret→iV
open PySem.CmpOp renaming Eq→fZ,NotEq→gd,Gt→lh,Lt→lj,In→og,IsNot→uM,NotIn→xF
open Pure renaming pure→f9
open PySem.Expr renaming Name→gk,Tuple→iD,Call→jr,Attribute→jL,Constant→oP,ListComp→pK,Subscript→pL,DictComp→qD,Slice→xJ,UnaryOp→xK,List→AM,BoolOp→D5,Compare→D6,Starred→KH
open List.Mem renaming tail→gu,head→gL
open Ne renaming symm→gM
open PySem.Operator renaming Sub→gS,Add→io,Mult→jb,FloorDiv→pN
open PySem.Heap renaming get?_push_of_some→hY,get?_push_size→jf,get?_none_of_le→ku,SameBut→qE,dictOf_iff→tu,lt_size→tv,size_push→tx,get?_update_other→xM,get?_update_self→xN,FlyingW→D7,IsList→KI,NotedW→KL,ExtBut→Xd,get?_update_ne→Xg
open Nat renaming le_refl→ig,le_trans→im,le_of_ble_eq_true→iO,lt_irrefl→lg,not_lt_zero→pI,zero_le→pJ,ne_of_lt→rH,lt_succ_self→uJ,ne_of_gt→uK,add_assoc→xz,le_add_right→xA,le_of_eq→xB,le_succ→xC,lt_of_le_of_lt→AG,lt_trans→AI,min_le_left→AJ,min_self→DV,succ_le_succ→DX,add_comm→Kv,add_sub_cancel_left→Kw,not_lt→Kx,succ_ne_self→Ky,succ_ne_zero→Kz,le_add_left→WH,le_antisymm→WI,le_max_left→WJ,lt_asymm→WK,lt_of_lt_of_le→WL,lt_of_sub_pos→WM,lt_succ_of_le→WN,lt_succ_of_lt→WO,min_le_right→WP,not_succ_le_zero→WQ,sub_self→WR
open Int renaming le_refl→ja,le_trans→jX,not_le→rF,not_lt→tl,add_mul→xq,le_of_lt→xr,le_of_eq→Av,add_zero→Dw,mul_nonneg→Dx,one_mul→Dy,toNat_natCast→Dz,eq_ofNat_of_zero_le→Ka,le_antisymm→Kb,ediv_nonneg→V1,fdiv_eq_ediv_of_nonneg→V2,le_of_mul_le_mul_right→V3,le_total→V4,lt_succ→V5,zero_mul→V7
open PySem.W renaming nsIn→jg,envX→kR,hideAll→lq,fnOf→lJ,codeIn→pP,TopRead→rI,findIn→rJ,looseW→rK,keepIn→tz,KtsTurn→uU,callWith_of→xR,dictOf→AT,hideAll_get→AU,hideAll_none→AV,listOf→AW,of_hideAll→AX,handedIn→Ec,hasDictIn→Ed,hideAll_size→Ee,nsMap_none_of_in→Ef,plainGet→Eg,codeRec_of→KV,isNs_of_in→KW
open PySem.BoolOp renaming Or→jw,And→oM
open PySem.ScopeKind renaming function→jH
open Except renaming ok→kD,error→xo
open Prod renaming fst→kG,snd→DY
open PySem.Stmt renaming Assign→lm,Expr→qH,Try→uT,Return→xQ,Raise→Ea,FunctionDef→KU
open PySem.PyData renaming int→mn,list→ty,eqvAll→uS,tuple→xP,eqv→AQ,canLayAll0→D8,depthAll→D9,depth→KQ,keyHash→KR
open PyProof.Rows renaming envOfC→mK,tail_any→xE,IntsAre→DZ,Subscript_→KC,floordiv_int→XI,ge_int→XJ,gt_int→XM,le_int→XN,mod_int→XO,mul_int→XR,neg_int→XS,notin_list_ints→XT,sub_int→XU
open Nat.succ renaming inj→ny
open ForInStep renaming yield→rE
open Array renaming length_toList→tj,getElem?_eq_none_iff→Aq,getElem?_eq_some_iff→Ar,getElem?_eq_getElem→Ds,getElem?_toList→Dt,toList_append→J8,eraseIdxIfInBounds→VU,getElem?_setIfInBounds_ne→VV,toList_eraseIdx→VW
open ForIn renaming forIn→uE
open List.cons renaming injEq→uF,inj→Wc
open PySem.Code renaming builtin→uN,compLoop→xG,cUnits→KG,weight→W1
open PySem.ExceptHandler renaming ExceptHandler→uP
open PySem.Obj renaming mapFields→uQ,data_mapFields→KO,mapSeq→KP,isFreed_of_fields→Xh
open PySem.Env renaming blockKind→xI
open PySem.F renaming plainAttrs_list→xL,plainAttrs_dict→W3,slot_dict_get→W4,slot_dict_pop→W5,slot_int_rmul→W6,slot_list_extend→W7,slot_list_index→W8,slot_list_insert→W9,slot_list_pop→W',slot_list_remove→Xa,slot_zip_next→Xb,store_Exception→Xc
open PySem.Keeper renaming machine→xO
open Iff renaming rfl→Au
open Prod.mk renaming injEq→AK
open PySem.Heap.SameBut renaming refl→AP,update→KN
open PySem.W.Looks renaming of_pure→AS
open Char renaming toNat→Dv
open PySem.Around renaming frames_deeper→D0
open PySem.BindsTo renaming of_eq→D4
open Function renaming comp_def→J'
open PySem.Builtin.List renaming listFitsIndex→KD,listTooLong→KE,listSubscript?→XV
open PySem.Calls renaming Name_function_global→KF,loadGlobal_global→WZ
open PySem.Heap.IsList renaming push→KJ
open PySem.Heap.Ns renaming of_isNs→KM
open PySem.Shared renaming heap→KS
open Int.ofNat renaming inj→V6
open List.Perm renaming eq_of_pairwise→V9
open List.Sublist renaming refl→V'
open PySem.Builtin.SmallTypes renaming nextOf→WV,ownedTupleHandOut→WW,ownedTupleIsFree→WX
open PySem.Builtin renaming divisionGoesByPylong→WY
open PySem.Challenge renaming pw_ok0064_01→W0,rw_ok0064_01→XX
open PySem.EntryCells renaming newEntry→W2
open PySem.Heap.UpToSlots renaming of_keeps→Xe,trans→Xf
open PySem.Within renaming cons→Xk,nil→Xl
open List.Pairwise renaming map→XH
open PySem.Builtin.Range renaming rangeSize→XW
open PySem.Heap.IsSliceOf renaming new→XY
open PySem.MeetsSeq.EqGives renaming int→XZ
open PySem.W.Fast renaming ofString_ofList→X0
open PySem PySem.W PyProof.Rows PySem.Calls
set_option Elab.async false
set_option linter.all false
set_option maxRecDepth 100000
set_option genSizeOf false
set_option genCtorIdx false
set_option genInjectivity false
set_option tactic.hygienic false
set_option bootstrap.genMatcherCode false
set_option compiler.extract_closed false
set_option backward.match.sparseCases false
set_option maxHeartbeats 4000000
noncomputable section
namespace Mine.Internal
section
variable{a b c d e:Sort _}{G:Prop}
theorem fe{P Q:Prop}(h:P∧Q)(k:P->Q->G):G:=k h.1 h.2
theorem fL{P:a->Prop}(h:∃x,P x)(k:∀x,P x->G):G:=h.elim k
theorem gY{P Q R:Prop}(h:P∧Q∧R)(k:P->Q->R->G):G:=fe h.2 (k h.1)
theorem Ib{P:Prop}{Q:a->Prop}(h:P∧∃x,Q x)(k:P->∀x,Q x->G):G:=fL h.2 (k h.1)
theorem eR{P Q:a->Prop}(h:∃x,P x∧Q x)(k:∀x,P x->Q x->G):G:=h.elim λx h=>fe h (k x)
theorem uo{P:a->b->Prop}(h:∃x y,P x y)(k:∀x y,P x y->G):G:=h.elim λx h=>fL h (k x)
theorem zF{O:Type _}{Z:Type _}{d:O×Z->Prop}{z:O×Z->Prop}{G:Prop}(h:∃y:O×Z,d y∧z y)(k:∀y:O,∀o:Z,d (y,o)->z (y,o)->G):G:=h.elim λx h=>fe h (k x.1 x.2)
theorem i8{P Q R S:Prop}(h:P∧Q∧R∧S)(k:P->Q->R->S->G):G:=gY h.2 (k h.1)
theorem kB{P:Prop}{Q R:a->Prop}(h:P∧∃x,Q x∧R x)(k:P->∀x,Q x->R x->G):G:=eR h.2 (k h.1)
theorem f5{P Q R:a->Prop}(h:∃x,P x∧Q x∧R x)(k:∀x,P x->Q x->R x->G):G:=h.elim λx h=>gY h (k x)
theorem iH{P Q:a->b->Prop}(h:∃x y,P x y∧Q x y)(k:∀x y,P x y->Q x y->G):G:=h.elim λx h=>eR h (k x)
theorem RB{P:a->b->c->Prop}(h:∃x y z,P x y z)(k:∀x y z,P x y z->G):G:=h.elim λx h=>uo h (k x)
theorem md{P Q R S T:Prop}(h:P∧Q∧R∧S∧T)(k:P->Q->R->S->T->G):G:=i8 h.2 (k h.1)
theorem nR{P Q R S:a->Prop}(h:∃x,P x∧Q x∧R x∧S x)(k:∀x,P x->Q x->R x->S x->G):G:=h.elim λx h=>i8 h (k x)
theorem Ic{P:a->Prop}{Q R:a->b->Prop}(h:∃x,P x∧∃y,Q x y∧R x y)(k:∀x,P x->∀y,Q x y->R x y->G):G:=h.elim λx h=>kB h (k x)
theorem fT{P Q R:a->b->Prop}(h:∃x y,P x y∧Q x y∧R x y)(k:∀x y,P x y->Q x y->R x y->G):G:=h.elim λx h=>f5 h (k x)
theorem oC{P Q:a->b->c->Prop}(h:∃x y z,P x y z∧Q x y z)(k:∀x y z,P x y z->Q x y z->G):G:=h.elim λx h=>iH h (k x)
theorem lB{P:a->b->c->d->Prop}(h:∃x y z u,P x y z u)(k:∀x y z u,P x y z u->G):G:=h.elim λx h=>RB h (k x)
theorem zE{P Q R S T U:Prop}(h:P∧Q∧R∧S∧T∧U)(k:P->Q->R->S->T->U->G):G:=md h.2 (k h.1)
theorem oA{P Q R S T:a->Prop}(h:∃x,P x∧Q x∧R x∧S x∧T x)(k:∀x,P x->Q x->R x->S x->T x->G):G:=h.elim λx h=>md h (k x)
theorem jD{P Q R S:a->b->Prop}(h:∃x y,P x y∧Q x y∧R x y∧S x y)(k:∀x y,P x y->Q x y->R x y->S x y->G):G:=h.elim λx h=>nR h (k x)
theorem qp{P Q R:a->b->c->Prop}(h:∃x y z,P x y z∧Q x y z∧R x y z)(k:∀x y z,P x y z->Q x y z->R x y z->G):G:=h.elim λx h=>fT h (k x)
theorem wI{P Q R S T U V:Prop}(h:P∧Q∧R∧S∧T∧U∧V)(k:P->Q->R->S->T->U->V->G):G:=zE h.2 (k h.1)
theorem un{P Q R S T U:a->Prop}(h:∃x,P x∧Q x∧R x∧S x∧T x∧U x)(k:∀x,P x->Q x->R x->S x->T x->U x->G):G:=h.elim λx h=>zE h (k x)
theorem oB{P Q R S T:a->b->Prop}(h:∃x y,P x y∧Q x y∧R x y∧S x y∧T x y)(k:∀x y,P x y->Q x y->R x y->S x y->T x y->G):G:=h.elim λx h=>oA h (k x)
theorem mX{P Q R S:a->b->c->Prop}(h:∃x y z,P x y z∧Q x y z∧R x y z∧S x y z)(k:∀x y z,P x y z->Q x y z->R x y z->S x y z->G):G:=h.elim λx h=>jD h (k x)
theorem RC{P Q R S:a->b->c->d->Prop}(h:∃x y z u,P x y z u∧Q x y z u∧R x y z u∧S x y z u)(k:∀x y z u,P x y z u->Q x y z u->R x y z u->S x y z u->G):G:=h.elim λx h=>mX h (k x)
theorem uq{P Q R S:a->b->c->d->e->Prop}(h:∃x y z u v,P x y z u v∧Q x y z u v∧R x y z u v∧S x y z u v)(k:∀x y z u v,P x y z u v->Q x y z u v->R x y z u v->S x y z u v->G):G:=h.elim λx h=>RC h (k x)
end
section
@[elab_as_elim] theorem rwE {L:Sort _} {a b:L} {m:L->Prop} (h:a=b) (k:m b):m a:=h▸k
@[elab_as_elim] theorem rwF {L:Sort _} {a b:L} {m:L->Prop} (h:a=b) (k:m a):m b:=h▸k
end
open Lean in
local macro_rules (kind := Lean.Parser.Tactic.rewriteSeq)
  | s => do
    let a := s[2][1].getSepArgs
    if s[1][0].getNumArgs != 0 then Macro.throwUnsupported
    if a.size > 1 then return mkNullNode (a.map fun r => s.setArg 2 (s[2].setArg 1 (mkNullNode #[r])))
    let n := a[0]![0].isNone
    let h : Lean.Term := ⟨a[0]![1]⟩
    if s[3].isNone then
      let q ← `(?_)
      let u ← `(_)
      let f n t : Syntax := mkNode ``Parser.Tactic.refine #[mkAtom "refine ", Syntax.mkApp (mkIdent n) #[t, q]]
      let g t : Syntax := mkNode `group #[mkAtom "| ", mkNode ``Parser.Tactic.tacticSeq #[mkNode ``Parser.Tactic.tacticSeq1Indented #[mkNullNode #[f `rwE t]]]]
      return if n then mkNode ``Parser.Tactic.first #[mkAtom "first", mkNullNode #[g h, g (Syntax.mkApp h #[u]), g (Syntax.mkApp h #[u, u])]] else f `rwF h
    let l := s[3][0][1][0]
    let x : Ident := ⟨l[0]⟩
    if n && x.raw.isIdent && l.getNumArgs == 1 then `(tactic| replace $x := $h ▸ $x) else Macro.throwUnsupported
section
section
variable{a b c d e:Sort _}
theorem eu{P Q:a->Prop}(x:a)(D:P x)(C:Q x):∃x,P x∧Q x:=⟨x,D,C⟩
theorem fQ{P Q R:a->Prop}(x:a)(D:P x)(C:Q x)(r:R x):∃x,P x∧Q x∧R x:=⟨x,D,C,r⟩
theorem lO{P Q R S:a->Prop}(x:a)(D:P x)(C:Q x)(r:R x)(X:S x):∃x,P x∧Q x∧R x∧S x:=⟨x,D,C,r,X⟩
theorem wc{P Q R S T:a->Prop}(x:a)(D:P x)(C:Q x)(r:R x)(X:S x)(t:T x):∃x,P x∧Q x∧R x∧S x∧T x:=⟨x,D,C,r,X,t⟩
theorem Cd{P Q R S T U:a->Prop}(x:a)(D:P x)(C:Q x)(r:R x)(X:S x)(t:T x)(O:U x):∃x,P x∧Q x∧R x∧S x∧T x∧U x:=⟨x,D,C,r,X,t,O⟩
theorem ib{P Q:a->b->Prop}(x:a)(y:b)(D:P x y)(C:Q x y):∃x y,P x y∧Q x y:=⟨x,y,D,C⟩
theorem fS{P Q R:a->b->Prop}(x:a)(y:b)(D:P x y)(C:Q x y)(r:R x y):∃x y,P x y∧Q x y∧R x y:=⟨x,y,D,C,r⟩
theorem kK{P Q R S:a->b->Prop}(x:a)(y:b)(D:P x y)(C:Q x y)(r:R x y)(X:S x y):∃x y,P x y∧Q x y∧R x y∧S x y:=⟨x,y,D,C,r,X⟩
theorem y9{P Q R S T:a->b->Prop}(x:a)(y:b)(D:P x y)(C:Q x y)(r:R x y)(X:S x y)(t:T x y):∃x y,P x y∧Q x y∧R x y∧S x y∧T x y:=⟨x,y,D,C,r,X,t⟩
theorem Ce{P Q R S T U:a->b->Prop}(x:a)(y:b)(D:P x y)(C:Q x y)(r:R x y)(X:S x y)(t:T x y)(O:U x y):∃x y,P x y∧Q x y∧R x y∧S x y∧T x y∧U x y:=⟨x,y,D,C,r,X,t,O⟩
theorem pg{P Q:a->b->c->Prop}(x:a)(y:b)(z:c)(D:P x y z)(C:Q x y z):∃x y z,P x y z∧Q x y z:=⟨x,y,z,D,C⟩
theorem mT{P Q R:a->b->c->Prop}(x:a)(y:b)(z:c)(D:P x y z)(C:Q x y z)(r:R x y z):∃x y z,P x y z∧Q x y z∧R x y z:=⟨x,y,z,D,C,r⟩
theorem ph{P Q R S:a->b->c->Prop}(x:a)(y:b)(z:c)(D:P x y z)(C:Q x y z)(r:R x y z)(X:S x y z):∃x y z,P x y z∧Q x y z∧R x y z∧S x y z:=⟨x,y,z,D,C,r,X⟩
theorem Cf{P Q R S T:a->b->c->Prop}(x:a)(y:b)(z:c)(D:P x y z)(C:Q x y z)(r:R x y z)(X:S x y z)(t:T x y z):∃x y z,P x y z∧Q x y z∧R x y z∧S x y z∧T x y z:=⟨x,y,z,D,C,r,X,t⟩
theorem we{P Q R S T:a->b->c->d->Prop}(x:a)(y:b)(z:c)(u:d)(D:P x y z u)(C:Q x y z u)(r:R x y z u)(X:S x y z u)(t:T x y z u):∃x y z u,P x y z u∧Q x y z u∧R x y z u∧S x y z u∧T x y z u:=⟨x,y,z,u,D,C,r,X,t⟩
end
theorem nS{L:Type _}{a:L}{C:Prop}(h:eh=d9 a):C:=nomatch h
theorem iX{L:Type _}{a:L}{C:Prop}(h:d9 a=eh):C:=nomatch h
theorem nB{C:Prop}(h:em=eb):C:=nomatch h
theorem CE{C:Prop}(h:eb=em):C:=nomatch h
theorem nL{L:Type _}{a:L}{l:List L}{C:Prop}(h:[]=a::l):C:=nomatch h
theorem wF{L:Type _}{a:L}{l:List L}{C:Prop}(h:a::l=[]):C:=nomatch h
theorem nZ{n:Nat}{C:Prop}(h:0=n+1):C:=nomatch h
theorem rz{n:Nat}{C:Prop}(h:n+1=0):C:=nomatch h
theorem fq{a b:Bool}(h:(a&&b)=eb){G:Prop}(k:a=eb->b=eb->G):G:=fe (m9.mp h) k
theorem fP{L j:Type _}{f:L->j}{l:List L}{b:j}(h:b∈l.map f){G:Prop}(k:∀a,a∈l->f a=b->G):G:=eR (mj.1 h) k
theorem qm{L:Type _}{a:L}{l:List L}(h:(a::l).Nodup){G:Prop}(k:a∉l->l.Nodup->G):G:=fe (kE.mp h) k
theorem ry{L j:Type _}{f:L->List j}{l:List L}{b:j}(h:b∈l.flatMap f){G:Prop}(k:∀a,a∈l->b∈f a->G):G:=eR (qB.1 h) k
theorem wy{L j:Type _}{o:Option L}{f:L->j}{b:j}(h:o.map f=d9 b){G:Prop}(k:∀a,o=d9 a->f a=b->G):G:=eR (xD.mp h) k
theorem wi{L:Type _}{o:Option L}(h:o.isSome=eb){G:Prop}(k:∀a,o=d9 a->G):G:=fL (Option.isSome_iff_exists.mp h) k
theorem CC{L t j:Type _}{f:L×t->j}{l:List (L×t)}{b:j}(h:b∈l.map f){G:Prop}(k:∀x y,(x,y)∈l->f (x,y)=b->G):G:=zF (mj.1 h) k
end
section
noncomputable def nv:ed->ed
 |ej i _=>ej i 0
 |eC s _=>eC s 0
 |.float b _=>.float b 0
 |.bytes b _=>.bytes b 0
 |v=>v
noncomputable abbrev vi(i:Int):Value:=ej i 0
theorem um{v:ed}{i:Int}(h:nv v=ej i 0):∃t,v=ej i t:=by
 cases v<;>first|exact⟨0,h⟩ |(cases h;exact⟨_,rfl⟩)|cases h
theorem ik{v:ed}{i:Int}(h:nv v=ej i 0){G:Prop}(N:∀t,v=ej i t->G):G:=fL (um h) N
theorem RA{v:ed}{x:ft}(h:nv v=eC x 0):∃t,v=eC x t:=by
 cases v<;>first|exact⟨0,h⟩ |(cases h;exact⟨_,rfl⟩)|cases h
theorem gX{v:ed}{a:et}(h:nv v=ec a):v=ec a:=by
 cases v<;>first|exact h|cases h
theorem wH{v:ed}(h:nv v=ez):v=ez:=by
 cases v<;>first|exact h|cases h
theorem zC{v:ed}{b:Bool}(h:nv v=fF b):v=fF b:=by
 cases v<;>first|exact h|cases h
theorem zD{v:ed}{b:String}(h:nv v=eK b):v=eK b:=by
 cases v<;>first|exact h|cases h
theorem HY{v:ed}{b:String}(h:nv v=iP b):v=iP b:=by
 cases v<;>first|exact h|cases h
theorem Gl(s:String):eE s=⟨(s.toList.map Dv).toArray⟩ :=by
 have:=X0 s.toList;rwa [String.ofList_toList] at this
theorem oE{a b:String}:eE a=eE b↔a=b:=by
 constructor
 ·intro h
  rw[Gl,Gl] at h;have K:=congrArg (λx=>x.cps.toList) h;simp only at K;have Z:∀(x y:List Char),x.map Dv=y.map Dv->x=y:=by
   intro x
   induction x with
   |nil=>intro y h;cases y<;>simp_all
   |cons c r D=>
    intro y h;cases y with
    |nil=>simp at h
    |cons d t=>
     simp only[gj,uF] at h;have:c=d:=by
      apply Char.ext;have:=h.1;unfold Dv at this;exact UInt32.toNat_inj.mp this
     rw[this,D t h.2]
  exact String.toList_inj.mp (Z _ _ K)
 ·rintro rfl;rfl
set_option genCtorIdx false in
set_option genInjectivity true in
inductive AO where
 |a (vs:List ed)
 |f (vs:List ed)
 |e (kvs:List (Int×ed))
 |h (C d:et)
 |b (fs:List (String×ed))
 |g (v:Option ed)
 |c (o:fN)
noncomputable def AO.ctorIdx(o:AO):Nat:=AO.casesOn (motive:=λU=>Nat) o (λU=>0) (λU=>1) (λU=>2) (λU U=>3) (λU=>4) (λU=>5) (λU=>6)
abbrev AH:=et->Option AO
noncomputable def eQ(H:AH)(a:et)(o:AO):AH:=λb=>if b=a then d9 o else H b
theorem gA(H:AH)(a:et)(o:AO):eQ H a o a=d9 o:=if_pos rfl
theorem fw(H:AH){a b:et}(o:AO)(h:b≠a):eQ H a o b=H b:=if_neg h
section
variable(Y:lI)(w:kS)
def OR:AO->fN->Prop
 |.a J,o=>∃F n,o=AW F n∧F.toList.map nv=J
 |.f J,o=>∃F n,o={ cls:=eK "tuple",data:=kQ F n }∧F.toList.map nv=J
 |.e P,o=>∃a,o.IsDictOf (pR Y w) a∧a.map (λp=>(p.1,nv p.2))=P
 |.h C d,o=>o=instObj C d
 |.b B,o=>∃c n,o=AT c n∧c.map (λe=>(nv e.key,nv e.val))=B.map (λp=>(eC (eE p.1) 0,p.2))
 |.g v,o=>∃b,o.data=.cell b∧b.map nv=v
 |.c X,o=>o=X
end
set_option genInjectivity false in
structure Cx where
 l:lI
 k:kS
 t:jZ
 b:jZ
 m:fH
 o:List iN
 n:iN
 a:iN
 f:fH
 h:et
 r:ft->Option ed
 s:ft->Option ed
 p:lI
 e:Frag
 u:OsState
 i:Option (ft->Option ed)
 j:et->fN->Prop
noncomputable abbrev Cx.g(c:Cx):Model:=jI c.l c.k
structure Cx.d(c:Cx):Prop where
 f:Below c.t c.m c.o c.f
 a:c.e.In c.f
 d:rI c.p (rK c.p []) c.r c.s c.f
 e:c.b.frames=d9 (c.n::c.o)
 g:c.n.frame=d9 c.h
 h:c.n.scope.kind=jH
 b:c.a.scope.kind=jH
 i:c.a.globals=ky
 j:c.a.builtins=builtinsNs
abbrev eJ:=String->Option ed
noncomputable def ic(V:eJ)(x:String)(v:ed):eJ:=λy=>if y=x then d9 v else V y
def j4(V:eJ)(m:ft->Option ed):Prop:=∀x v,V x=d9 v->∃b,m (eE x)=d9 b∧nv b=v
theorem j4.a{V:eJ}{m:ft->Option ed}(h:j4 V m)(x:String)(v:ed):j4 (ic V x (nv v)) (λy=>if y=eE x then d9 v else m y):=by
 intro y u B;unfold ic at B;by_cases O:y=x
 ·rw[if_pos O] at B
  cases B;exact⟨v,by dsimp only;rw[if_pos (by rw[O])],rfl⟩
 ·rw[if_neg O] at B
  obtain⟨b,K,I⟩ :=h y u B;exact⟨b,by dsimp only;rw[if_neg (λe=>O (oE.mp e))];exact K,I⟩
structure jP(c:Cx)(H:AH)(h:fH):Prop where
 f:∀a o,H a=d9 o->∃ro,h.get? a=d9 ro∧OR c.l c.k o ro
 b:∀a o,H a=d9 o->a≠c.h∧c.f.get? a=eh
structure St(c:Cx)(ρ:eJ)(H:AH)(s:eZ):Prop where
 e:∃m,Fr c.f c.h s.heap m∧(match c.i with
  |none=>c.a.locals=c.h∧j4 ρ m
  |some m₀=>m=m₀∧∃mc,s.heap.Ns c.a.locals mc∧j4 ρ mc∧c.a.locals≠c.h∧c.f.get? c.a.locals=eh∧H c.a.locals=eh)
 b:jP c H s.heap
 d:∀a o,c.j a o->s.heap.get? a=d9 o∧a≠c.h∧a≠c.a.locals∧c.f.get? a=eh∧H a=eh
 p:s.gens=#[]
 n:s.os=c.u
def TE(c:Cx)(e:eP)(V:eJ)(H:AH)(Q:ed->AH->Prop):Prop:=
 ∀E s,St c V H s->fi c.g c.b (jc e c.a) (λv P=>∃M,St c V M P∧Q (nv v) M) E s
def TB(c:Cx)(e:eP)(V:eJ)(H:AH)(Q:Bool->AH->Prop):Prop:=
 ∀E s,St c V H s->fi c.g c.b (xU e c.a (jc e c.a)) (λv P=>∃M,St c V M P∧Q v M) E s
def nf:gr->gr
 |iV v=>iV (nv v)
 |f=>f
def T1(c:Cx)(u:fG)(V:eJ)(H:AH)(Q:gr->eJ->AH->Prop):Prop:=
 ∀E s,St c V H s->fi c.g c.b (exec u c.a) (λf P=>∃l M,St c l M P∧Q (nf f) l M) E s
def TS(c:Cx)(O:List fG)(V:eJ)(H:AH)(Q:gr->eJ->AH->Prop):Prop:=
 ∀E s,St c V H s->fi c.g c.b (uW O c.a) (λf P=>∃l M,St c l M P∧Q (nf f) l M) E s
variable{c:Cx}{V:eJ}{H:AH}
theorem qS{Q:gr->eJ->AH->Prop}(h:Q fY V H):TS c [] V H Q:=λE s S=>
 xY ⟨V,H,S,h⟩
theorem kI{u:fG}{o:List fG}{Q:gr->eJ->AH->Prop}
  (h:T1 c u V H (λf l M=>match f with|fY=>TS c o l M Q|f=>Q f l M)):TS c (u::o) V H Q:=λE s S=>by
 refine AZ (fc (h E s S) (λf P G=>?_) λU U x=>x);obtain⟨l,M,A,G⟩ :=G;cases f with
 |next=>exact G E P A
 |brk=>exact⟨l,M,A,G⟩
 |cont=>exact⟨l,M,A,G⟩
 |ret v=>exact⟨l,M,A,G⟩
theorem MS{L B O d}{Q:gr->eJ->AH->Prop}
  (h:TB c L V H (λb M=>if b then TS c B V M Q else TS c O V M Q)):T1 c (.If L B O d) V H Q:=λE s S=>by
 refine wpAny_If (fc (h E s S) (λb P G=>?_) λU U x=>x);obtain⟨M,A,G⟩ :=G;cases b
 ·exact G E P A
 ·exact G E P A
theorem yk{e d}{Q:gr->eJ->AH->Prop}(h:TE c e V H (λv M=>Q (iV v) V M)):T1 c (xQ (d9 e) d) V H Q:=λE s S=>by
 refine wpAny_Return_some (fc (h E s S) (λv P G=>?_) λU U x=>x);obtain⟨M,A,G⟩ :=G;exact⟨V,M,A,G⟩
theorem MT{d}{Q:gr->eJ->AH->Prop}(h:Q (iV ez) V H):T1 c (xQ eh d) V H Q:=λE s S=>
 wpAny_Return_none ⟨V,H,S,h⟩
theorem tO{e d}{Q:gr->eJ->AH->Prop}(h:TE c e V H (λv M=>Q fY V M))
  (R:rN c.a=em) (W:tJ e eh d.line c.a=f9 em):T1 c (qH e d) V H Q:=λE s S=>by
 refine wpAny_Expr_any (fc (h E s S) (λv P G=>?_) λU U x=>x) R W;obtain⟨M,A,G⟩ :=G;exact⟨V,M,A,G⟩
theorem TE.a{e:eP}{Q O:ed->AH->Prop}(h:TE c e V H Q)(C:∀v M,Q v M->O v M):TE c e V H O:=λE s S=>
 fc (h E s S) (λv P w=>eR w λM d b=>⟨M,d,C _ _ b⟩) λU U x=>x
end
section
theorem l8{h:fH}{a:et}{o:fN}(e:h.get? a=d9 o):a<h.objs.size:=tv e
noncomputable def sf(q:fH)(L:et)(h:fH):List (et×fN):=
 (AE h.objs.size).filterMap λa=>if a=L∨(q.get? a).isSome then eh else(h.get? a).map λo=>(a,o)
set_option tactic.hygienic true in
theorem wz{q:fH}{L:et}{h:fH}{p:et×fN}:p∈sf q L h↔h.get? p.1=d9 p.2∧p.1≠L∧q.get? p.1=none:=by
 unfold sf;rw(occs:=eO) [DR]
 constructor
 ·rintro⟨a,M,K⟩
  split at K
  ·exact nS K
  ·rename_i W
   rw[not_or] at W
   (refine wy K λo D O=>?_;(clear K;obtain rfl:=O))
   exact⟨D,W.1,by simpa using W.2⟩
 ·rintro⟨K,I,g⟩
  refine(eu p.1 (AA.mpr (l8 K)) ?_);rw[if_neg (by rw[not_or];exact⟨I,by rw[g];simp⟩),K];rfl
theorem HM{q:fH}{L:et}{h:fH}:News q L h (sf q L h):=λU J=>wz.mp J
set_option tactic.hygienic true in
theorem OH{q:fH}{L:et}{h:fH}{d:et}{o:fN}(K:h.get? d=d9 o)(I:d≠L)(g:q.get? d=eh):
  ∃H z,sf q L h=H++(d,o)::z∧(∀p∈H,p.1≠d)∧∀p∈z,p.1≠d:=by
 have E:((sf q L h).map (·.1)).Nodup:=by
  unfold sf;have S:∀(l:List Nat),l.Nodup->((l.filterMap λa=>if a=L∨(q.get? a).isSome then eh else(h.get? a).map λo=>(a,o)).map (·.1)).Nodup:=by
   intro l
   induction l with
   |nil=>intro _;exact n8
   |cons x r D=>
    intro W;refine qm W λZ R=>?_;rw[DB]
    split
    ·exact D R
    ·rename_i y B
     rw[gj];refine kE.mpr ⟨?_,D R⟩;intro Y;refine fP Y λp J C=>?_;refine eR (DR.mp J) λa M j=>?_;have O:y.1=x:=by
      split at B
      ·exact nS B
      ·(refine wy B λo U m=>?_;(clear Y C B;obtain rfl:=m));rfl
     have m:p.1=a:=by
      split at j
      ·exact nS j
      ·(refine wy j λo U b=>?_;(clear J C j;obtain rfl:=b));rfl
     rw[←m,C,O] at M;exact Z M
  exact S _ List.nodup_range
 refine uo (List.append_of_mem (wz (q:=q) (L:=L) (h:=h) (p:=(d,o)) |>.mpr ⟨K,I,g⟩)) λH z e=>?_;refine(fS H z e ?_ ?_)
 ·intro p J T
  rw[e,lb,gj,qC] at E;exact E.2.2 _ (jY J) _ (gp) T
 ·intro p J T
  rw[e,lb,gj,qC] at E;exact(kE.mp E.2.1).1 (mj.mpr (eu p J T))
def Fk(L d:et)(h u:fH):Prop:=∀a o,a≠d->a≠L->h.get? a=d9 o->u.get? a=d9 o
theorem Pf{q h u:fH}{L d:et}{m b:ft->Option ed}{X:fN}{H z:List (et×fN)}{o:fN}(F:Fr q L h m)(A:Fr q L u b)
  (e:sf q L h=H++(d,o)::z) (l:News q L u (H++(d,X)::z)):Fk L d h u:=λa x O I Z=>by
 cases G:q.get? a with
 |some y=>
  have:=F.keep a y G;rw[Z] at this;obtain rfl:=eX this;exact A.keep a x G
 |none=>
  have Y:=(wz (p:=(a,x))).mpr ⟨Z,I,G⟩;rw[e] at Y;rcases lc.mp Y with Y|Y
  ·exact(l (a,x) (lc.mpr (eH Y))).1
  ·rcases gy.mp Y with Y|Y
   ·clear I Z G
    cases Y;exact absurd rfl O
   ·exact(l (a,x) (lc.mpr (eI (gu _ Y)))).1
variable{c:Cx}{V:eJ}{H:AH}
theorem jP.d{h:fH}(R:jP c H h)(a:et)(o:AO)(e:H a=d9 o){G:Prop}(k:∀n,h.get? a=d9 n->OR c.l c.k o n->G):G:=eR (R.f a o e) k
theorem St.w(O:c.d){s:eZ}(S:St c V H s):c.e.In s.heap:=by
 refine eR S.e λm F U=>?_;exact O.a.keeps F.keep
theorem St.v{s:eZ}(S:St c V H s){u:fH}{d:et}{o X:AO}{L:fN}(p:H d=d9 o)
  (D:∃m,Fr c.f c.h u m∧(match c.i with
   |none=>c.a.locals=c.h∧j4 V m
   |some W=>m=W∧∃T,s.heap.Ns c.a.locals T∧j4 V T∧c.a.locals≠c.h∧c.f.get? c.a.locals=eh∧H c.a.locals=eh)) (j:Fk c.h d s.heap u) (A:u.get? d=d9 L) (h:OR c.l c.k X L) {q:Nat}:
  St c V (eQ H d X) { s with heap:=u,toks:=q }:=by
 obtain⟨_,R,f,b,k⟩ :=S;refine eR D λm F Y=>?_;refine⟨(eu m F ?_),⟨λa x Z=>?_,λa x Z=>?_⟩,λa x Z=>?_,b,k⟩
 ·cases i:c.i with
  |none=>rw[i] at Y;exact Y
  |some W=>
   rw[i] at Y
   (refine kB Y λK T I P=>?_;refine i8 P λg y J N=>?_)
   have G:c.a.locals≠d:=λe=>by rw[e,p] at N;exact iX N
   refine⟨K,T,?_,g,y,J,by rw[fw _ _ G];exact N⟩;refine oC I λn w B C r=>?_;exact(pg n w B (j _ _ G y C) r)
 ·by_cases M:a=d
  ·clear p j
   subst M;rw[gA] at Z;obtain rfl:=eX Z;exact(eu L A h)
  ·rw[fw _ _ M] at Z
   refine R.d a x Z λl K I=>?_;exact(eu l (j a l M (R.b a x Z).1 K) I)
 ·by_cases M:a=d
  ·clear j A Z
   subst M;exact R.b a o p
  ·rw[fw _ _ M] at Z;exact R.b a x Z
 ·refine md (f a x Z) λQ E t v U=>?_
  have M:a≠d:=λe=>by rw[e,p] at U;exact iX U
  exact⟨j a x M E Q,E,t,v,by rw[fw _ _ M];exact U⟩
theorem St.q{s:eZ}(S:St c V H s){u:fH}{d:et}{X:AO}{L:fN}(W:s.heap.get? d=eh)
  (z:∀aa o,s.heap.get? aa=d9 o->u.get? aa=d9 o) (A:u.get? d=d9 L) (D:OR c.l c.k X L) {p:Nat}:
  H d=eh∧St c V (eQ H d X) { s with heap:=u,toks:=p }:=by
 obtain⟨⟨m,F,Y⟩,R,f,b,k⟩ :=S;have T:H d=none:=by
  cases h:H d with
  |none=>rfl
  |some x=>refine R.d d x h λl K P=>?_;rw[W] at K;exact nS K
 refine⟨T,(eu m (F.keeps z) ?_),⟨λa x Z=>?_,λa x Z=>?_⟩,λa x Z=>?_,b,k⟩
 ·cases i:c.i with
  |none=>rw[i] at Y;exact Y
  |some ac=>
   rw[i] at Y
   (refine kB Y λK O I n=>?_;refine i8 n λg y J N=>?_)
   have G:c.a.locals≠d:=λe=>by
    refine oC I λj w B C r=>?_;rw[e,W] at C;exact nS C
   exact⟨K,O,I.keeps z,g,y,J,by rw[fw _ _ G];exact N⟩
 ·by_cases M:a=d
  ·clear W T
   subst M;rw[gA] at Z;obtain rfl:=eX Z;exact(eu L A D)
  ·rw[fw _ _ M] at Z
   refine R.d a x Z λl K I=>?_;exact(eu l (z a l K) I)
 ·by_cases M:a=d
  ·clear A T Z
   subst M
   constructor
   ·rintro rfl
    refine oC F.ns λj w B C r=>?_;rw[W] at C;exact nS C
   ·cases h:c.f.get? a with
    |none=>rfl
    |some q=>have:=F.keep a q h;rw[W] at this;exact nS this
  ·rw[fw _ _ M] at Z;exact R.b a x Z
 ·refine md (f a x Z) λQ E t v U=>?_
  have M:a≠d:=λe=>by rw[e,W] at Q;exact nS Q
  exact⟨z a x Q,E,t,v,by rw[fw _ _ M];exact U⟩
theorem St.i{s:eZ}(S:St c V H s){u:fH}{d:et}{X:AO}{L:fN}(W:s.heap.get? d=eh)
  (z:∀a o,s.heap.get? a=d9 o->u.get? a=d9 o) (A:u.get? d=d9 L) (D:OR c.l c.k X L) {p:Nat} {G:Prop} (N:H d=eh->St c V (eQ H d X) { s with heap:=u,toks:=p }->G):G:=fe (St.q S W z A D) N
theorem St.k{s:eZ}(S:St c V H s){u:fH}(z:∀L o,s.heap.get? L=d9 o->u.get? L=d9 o){p:Nat}:St c V H { s with heap:=u,toks:=p }:=by
 obtain⟨⟨m,F,Y⟩,R,f,d,k⟩ :=S;refine⟨(eu m (F.keeps z) ?_),⟨λa x Z=>?_,R.b⟩,λa x Z=>⟨z a x (f a x Z).1,(f a x Z).2⟩,d,k⟩
 ·cases i:c.i with
  |none=>rw[i] at Y;exact Y
  |some h=>
   rw[i] at Y;refine kB Y λK O I g=>?_;exact⟨K,O,I.keeps z,g⟩
 ·refine R.d a x Z λl K I=>?_
  exact(eu l (z a l K) I)
theorem St.g{s:eZ}(S:St c V H s)(p:Nat):St c V H { s with toks:=p }:=S.k (u:=s.heap) λU U e=>e
theorem St.N{s:eZ}(S:St c V H s){M:AH}(z:∀a o,M a=d9 o->H a=d9 o):St c V M s:=by
 obtain⟨⟨m,F,Y⟩,R,f,d,k⟩ :=S;refine⟨(eu m F ?_),⟨λa x Z=>R.f a x (z _ _ Z),λa x Z=>R.b a x (z _ _ Z)⟩,λa x Z=>?_,d,k⟩
 rotate_left
 ·refine md (f a x Z) λQ E t v U=>?_
  refine⟨Q,E,t,v,?_⟩;cases h:M a with
  |none=>rfl
  |some j=>rw[z _ _ h] at U;exact iX U
 cases i:c.i with
 |none=>rw[i] at Y;exact Y
 |some e=>
  rw[i] at Y
  (refine kB Y λb O I K=>?_;refine i8 K λg y J N=>?_)
  refine⟨b,O,I,g,y,J,?_⟩;cases h:M c.a.locals with
  |none=>rfl
  |some x=>rw[z _ _ h] at N;exact iX N
noncomputable def o9(H:AH)(a:et):AH:=λb=>if b=a then eh else H b
theorem B2(H:AH){a b:et}(h:b≠a):o9 H a b=H b:=if_neg h
theorem yQ(H:AH)(a:et):o9 H a a=none:=if_pos rfl
noncomputable def gO(c:Cx)(p:List (et×fN)):Cx:={ c with j:=λa o=>(a,o)∈p∨c.j a o }
theorem Cx.d.k(O:c.d){p:List (et×fN)}:(gO c p).d:=⟨O.f,O.a,O.d,O.e,O.g,O.h,O.b,O.i,O.j⟩
structure rU(c:Cx)(H:AH)(a:et):Prop where
 f:a≠c.h
 e:a≠c.a.locals
 g:c.f.get? a=eh
 d:H a=eh
 b:∀o,¬c.j a o
theorem St.O{s:eZ}(S:St c V H s){a:et}{o:AO}(M:H a=d9 o):a≠c.h∧a≠c.a.locals∧c.f.get? a=eh∧∀o,¬c.j a o:=by
 refine fe (S.b.b a o M) λK I=>?_;refine⟨K,?_,I,λx Z=>?_⟩
 ·obtain⟨⟨m,F,Y⟩,_⟩ :=S
  cases i:c.i with
  |none=>rw[i] at Y;rw[Y.1];exact K
  |some h=>
   rw[i] at Y
   (refine kB Y λU U U O=>?_;refine i8 O λU U U N=>?_)
   rintro rfl;rw[M] at N;exact iX N
 ·have:=(S.d a x Z).2.2.2.2
  rw[M] at this;exact iX this
theorem St.h{s:eZ}(S:St c V H s){a:et}(W:s.heap.get? a=eh):rU c H a:=by
 obtain⟨⟨m,F,Y⟩,R,f,_,_⟩ :=S;refine⟨?_,?_,?_,?_,λo D=>?_⟩
 ·rintro rfl
  refine oC F.ns λj w B C r=>?_;rw[W] at C;exact nS C
 ·cases i:c.i with
  |none=>
   rw[i] at Y;rw[Y.1];rintro rfl;refine oC F.ns λj w B C r=>?_;rw[W] at C;exact nS C
  |some b=>
   rw[i] at Y;refine kB Y λU U I U=>?_;rintro rfl;refine oC I λj w B C r=>?_;rw[W] at C;exact nS C
 ·cases h:c.f.get? a with
  |none=>rfl
  |some y=>have:=F.keep a y h;rw[W] at this;exact nS this
 ·cases h:H a with
  |none=>rfl
  |some x=>refine R.d a x h λl K U=>?_;rw[W] at K;exact nS K
 ·have:=(f a o D).1;rw[W] at this;exact nS this
theorem St.f{s:eZ}{p v:List (et×fN)}(S:St (gO c p) V H s)(y:∀a∈p,∀o,¬c.j a.1 o){u:fH}(z:∀X o,(∀a∈p,a.1≠X)->s.heap.get? X=d9 o->u.get? X=d9 o)
  (J:∀a∈v,u.get? a.1=d9 a.2∧((∃o,(a.1,o)∈p)∨s.heap.get? a.1=eh)) {A:Nat}:St (gO c v) V H { s with heap:=u,toks:=A }:=by
 have M:=S;obtain⟨⟨m,F,Y⟩,R,f,d,k⟩ :=S;have I:∀a∈p,a.1≠c.h∧a.1≠c.a.locals∧c.f.get? a.1=eh∧H a.1=none:=λa G=>(f a.1 a.2 (eH G)).2;have D:Fr c.f c.h u m:=by
  obtain⟨⟨j,w,B,C,r⟩,t,P⟩ :=F;exact⟨(pg j w B (z _ _ (λa G=>(I a G).1) C) r),λX x e=>z X x (λa G b=>by have:=(I a G).2.2.1;rw[b] at this;have e:c.f.get? X=d9 x:=e;rw[e] at this;exact iX this) (t X x e),P⟩
 refine⟨(eu m D ?_),⟨λX x Z=>?_,R.b⟩,λX x Z=>?_,d,k⟩
 ·have Y:(match c.i with
   |none=>c.a.locals=c.h∧j4 V m
   |some h=>m=h∧∃O,s.heap.Ns c.a.locals O∧j4 V O∧c.a.locals≠c.h∧c.f.get? c.a.locals=eh∧H c.a.locals=eh):=Y
  show(match c.i with
   |none=>c.a.locals=c.h∧j4 V m
   |some h=>m=h∧∃O,u.Ns c.a.locals O∧j4 V O∧c.a.locals≠c.h∧c.f.get? c.a.locals=eh∧H c.a.locals=eh)
  cases i:c.i with
  |none=>rw[i] at Y;exact Y
  |some h=>
   rw[i] at Y
   (refine kB Y λn O U g=>?_;refine oC U λj w B C r=>?_)
   exact⟨n,O,(pg j w B (z _ _ (λa G=>(I a G).2.1) C) r),g⟩
 ·refine R.d X x Z λl L T=>?_
  exact(eu l (z X l (λa G e=>by have:=(I a G).2.2.2;rw[e,Z] at this;exact iX this) L) T)
 ·rcases Z with Z|Z
  ·refine fe (J (X,x) Z) λL T=>?_
   rcases T with ⟨o,q⟩ |W
   ·exact⟨L,I (X,o) q⟩
   ·have K:=M.h W
    exact⟨L,K.f,K.e,K.g,K.d⟩
  ·refine fe (f X x (eI Z)) λQ E=>?_
   exact⟨z X x (λa G e=>y a G x (e▸Z)) Q,E⟩
theorem St.j{s:eZ}{p:List (et×fN)}(S:St (gO c p) V H s):St c V H s:=by
 obtain⟨f,R,b,d,k⟩ :=S;exact⟨f,⟨R.f,R.b⟩,λa o h=>b a o (eI h),d,k⟩
theorem St.u{s:eZ}{a:et}{o:fN}(S:St c V (eQ H a (.c o)) s)(W:H a=eh):St (gO c [(a,o)]) V H s:=by
 have O:=S.O (gA _ _ _);refine S.b.d a _ (gA _ _ _) λl L T=>?_;obtain rfl:l=o:=T;have A:=S.N (M:=H) λb x Z=>by
  rw[fw _ _ (λe=>by rw[e,W] at Z;exact nS Z)];exact Z
 obtain⟨f,R,g,d,k⟩ :=A;refine⟨f,⟨R.f,R.b⟩,λb x Z=>?_,d,k⟩;rcases Z with Z|Z
 ·clear S
  obtain⟨rfl,rfl⟩ :b=a∧x=l:=by simpa using Z
  exact⟨L,O.1,O.2.1,O.2.2.1,W⟩
 ·exact g b x Z
theorem St.J{s:eZ}{a:et}{o:fN}(S:St (gO c [(a,o)]) V H s)(y:∀W,¬c.j a W):H a=eh∧St c V (eQ H a (.c o)) s:=by
 have C:=S.j;obtain⟨n,M,T,_,r⟩:=S;refine md (T a o (eH (by simp))) λQ E t v U=>?_;obtain⟨⟨m,F,Y⟩,R,f,d,k⟩ :=C;refine⟨U,(eu m F ?_),⟨λb W Z=>?_,λb W Z=>?_⟩,λb W Z=>?_,d,k⟩
 ·cases i:c.i with
  |none=>rw[i] at Y;exact Y
  |some h=>
   rw[i] at Y
   (refine kB Y λK O I L=>?_;refine i8 L λg p J N=>?_)
   exact⟨K,O,I,g,p,J,(fw _ _ (gM t)).trans N⟩
 ·by_cases j:b=a
  ·clear y T E t v U
   clear n M r;subst j;rw[gA] at Z;obtain rfl:=eX Z;exact(eu o Q rfl)
  ·rw[fw _ _ j] at Z;exact R.f b W Z
 ·by_cases j:b=a
  ·clear y T Q t U Z
   clear n M r;subst j;exact⟨E,v⟩
  ·rw[fw _ _ j] at Z;exact R.b b W Z
 ·refine md (f b W Z) λq l u X A=>?_
  have j:b≠a:=λe=>y W (e▸Z);exact⟨q,l,u,X,by rw[fw _ _ j];exact A⟩
theorem St.I{s:eZ}(S:St c V H s):∃m,s.heap.Ns c.a.locals m∧j4 V m:=by
 obtain⟨⟨m,F,Y⟩,R,f,d,k⟩ :=S;cases i:c.i with
 |none=>rw[i] at Y;exact(eu m (Y.1▸F.ns) Y.2)
 |some h=>rw[i] at Y;(refine kB Y λK O I Z=>?_;refine fe Z λg U=>?_);exact(eu O I g)
theorem St.A{s:eZ}(S:St c V H s){u:fH}{x:String}{v:ed}{m:ft->Option ed}(C:s.heap.Ns c.a.locals m)(Y:j4 V m)
  (W:u.Ns c.a.locals (λU=>if U=eE x then d9 v else m U)) (j:qE c.a.locals s.heap u) {p:Nat}:St c (ic V x (nv v)) H { s with heap:=u,toks:=p }:=by
 obtain⟨⟨G,F,A⟩,R,f,d,k⟩ :=S;have w:∀a o,c.j a o->u.get? a=d9 o∧a≠c.h∧a≠c.a.locals∧c.f.get? a=eh∧H a=none:=λa x Z=>by
  refine i8 (f a x Z) λQ E t e=>?_;exact⟨(j.2 a t).trans Q,E,t,e⟩
 cases i:c.i with
 |none=>
  rw[i] at A;have T:c.a.locals=c.h:=A.1;rw[T] at W j C;refine⟨(eu _ (F.set W j) ?_),⟨λa x Z=>?_,R.b⟩,w,d,k⟩
  ·rw[i];exact⟨T,Y.a x v⟩
  ·refine R.d a x Z λl K I=>?_
   exact(eu l ((j.2 a (R.b a x Z).1).trans K) I)
 |some h=>
  rw[i] at A
  (refine kB A λK O I M=>?_;refine i8 M λg y J N=>?_)
  refine⟨(eu G (F.change j y J) ?_),⟨λa U Z=>?_,R.b⟩,w,d,k⟩
  ·rw[i];exact⟨K,_,W,Y.a x v,y,J,N⟩
  ·refine R.d a U Z λl L b=>?_
   refine(eu l ((j.2 a ?_).trans L) b);rintro rfl;rw[N] at Z;exact nS Z
theorem lr{x:String}{d:fE}{v:ed}{Q:ed->AH->Prop}(O:c.d)(Z:c.a.kindOf (eE x)=d9 ey)(N:V x=d9 v)(h:Q v H)
  (p:(eE x==("__debug__":ft))=em):TE c (gk (eE x) d) V H Q:=λE s S=>by
 refine eR S.I λm W Y=>?_
 (refine eR (Y x v N) λb K q=>?_;(clear N;obtain rfl:=q))
 exact wpAny_Name (wpAny_loadName_local O.b Z W K (eu H S h)) p
theorem NQ{x:String}{d:fE}{v:ed}{Q:ed->AH->Prop}(O:c.d)(Z:c.a.kindOf (eE x)=d9 eY)
  (e:jg c.e ky (eE x)=d9 (d9 v)) (h:Q (nv v) H)
  (p:(eE x==("__debug__":ft))=em):TE c (gk (eE x) d) V H Q:=λE s S=>by
 refine eR S.e λm F U=>?_;exact KF O.b Z (WZ (O.i▸O.d.g.keeps F.keep) (mg_of O.a O.d.g e) (eu H S h)) p
theorem rT{x:String}{d:fE}{v:ed}{Q:ed->AH->Prop}(O:c.d)(Z:c.a.kindOf (eE x)=d9 eY)
  (e:jg c.e ky (eE x)=d9 eh) (N:uV (eE x)=d9 v) (W:eE x≠"__name__") (h:Q (nv v) H)
  (p:(eE x==("__debug__":ft))=em):TE c (gk (eE x) d) V H Q:=λE s S=>by
 refine eR S.e λm F U=>?_;exact KF O.b Z (loadGlobal_builtin (O.i▸O.d.g.keeps F.keep) (mg_none_of O.a O.d.g e) (O.j▸O.d.b.keeps F.keep) ((O.d.builtins _ W).trans N) (eu H S h)) p
def TN(c:Cx)(x:String)(v:ed)(V:eJ)(H:AH)(Q:eJ->AH->Prop):Prop:=
 ∀E s b,St c V H s->nv b=v->fi c.g c.b (storeName c.a (eE x) b) (λU P=>∃l M,St c l M P∧Q l M) E s
theorem oR{x:String}{v:ed}{Q:eJ->AH->Prop}(O:c.d)(Z:c.a.kindOf (eE x)=d9 ey)(h:Q (ic V x v) H):TN c x v V H Q:=λE s b S N=>by
 refine eR S.I λm W Y=>?_;refine Lb Z W (λu K I=>(ib _ H (S.A W Y K I) (N▸h))) ?_;rw[O.b];rfl
theorem tM{x:String}{z:fE}{e:eP}{d:fE}{Q:gr->eJ->AH->Prop}
  (h:TE c e V H (λv M=>TN c x v V M (λl R=>Q fY l R)))
  (W:tJ e (d9 (gk (eE x) z)) d.line c.a=f9 em):T1 c (lm [gk (eE x) z] e d) V H Q:=λE s S=>by
 refine wpAny_Assign_Name (fc (h E s S) (λv P G=>?_) λU U x=>x) W;refine eR G λM A F=>?_;exact fc (F E P v A rfl) (λU m F=>F) λU U x=>x
theorem ym{i:Int}{k d}{Q:ed->AH->Prop}(h:Q (vi i) H):TE c (oP (.int i) k d) V H Q:=λE s S=>
 wpAny_Constant_int (eu H (S.g _) h)
theorem E9{k d}{Q:ed->AH->Prop}(h:Q ez H):TE c (oP .none k d) V H Q:=λE s S=>wpAny_Constant_none (eu H S h)
theorem E3{b k d}{Q:ed->AH->Prop}(h:Q (fF b) H):TE c (oP (.bool b) k d) V H Q:=λE s S=>wpAny_Constant_bool (eu H S h)
theorem NW{x:ft}{k d}{Q:ed->AH->Prop}(h:Q (eC x 0) H):TE c (oP (.str x) k d) V H Q:=λE s S=>wpAny_Constant_str (eu H (S.g _) h)
end
section
variable{c:Cx}{V:eJ}{H:AH}
def TA(c:Cx)(w:List eP)(V:eJ)(H:AH)(Q:List ed->AH->Prop):Prop:=
 ∀E s d,St c V H s->fi c.g c.b (spliced (qI d (kz w c.a))) (λJ P=>∃M,St c V M P∧Q (J.map nv) M) E s
def TC(c:Cx)(f:ed)(w:List ed)(V:eJ)(H:AH)(Q:ed->AH->Prop):Prop:=
 ∀E s J,St c V H s->J.map nv=w->fi c.g c.b (xS f J []) (λv P=>∃M,St c V M P∧Q (nv v) M) E s
theorem kA{Q:List ed->AH->Prop}(h:Q [] H):TA c [] V H Q:=λE s d S=>spliced_nil (eu H S h)
theorem jk{e:eP}{w:List eP}{Q:List ed->AH->Prop}(h:TE c e V H (λv Z=>TA c w V Z (λJ T=>Q (v::J) T)))
  (n:∀B,kz (e::w) B=(em,jc e B)::kz w B):TA c (e::w) V H Q:=λE s d S=>by
 rw[n];refine spliced_cons (fc (h E s S) (λv P G=>?_) λU U x=>x);refine eR G λM A F=>?_;exact fc (F E P d A) (λJ m f=>eR f λR a b=>⟨R,a,b⟩) λU U x=>x
def nF(c:Cx)(f:ed):Prop:=∀h,c.e.In h->∃k,(k=Keeper.frame∨k=xO∨k=Keeper.boundFrame)∧Looks c.g h (keeperOf f) k
theorem u9{f:ed}(h:tz c.e f=eb):nF c f:=λJ X=>keeps_K h J X
theorem nF.b{T:String}:nF c (eK T):=λJ X=>(eu (xO) (eI (eH rfl)) (AS rfl))
theorem nF.a{T:String}:nF c (iP T):=λJ X=>(eu (xO) (eI (eH rfl)) (AS rfl))
noncomputable def iQ:List eP->Bool
 |[]=>eb
 |KH .. ::_=>em
 |_::r=>iQ r
theorem tb{e:eP}{r:List eP}(h:iQ (e::r)=eb):iQ r=eb∧(∀B,kz (e::r) B=(em,jc e B)::kz r B)∧∀B,AY (e::r) B=(em,oh e B)::AY r B:=by
 cases e<;>first|exact⟨h,λU=>rfl,λU=>rfl⟩ |exact absurd h VY
theorem qn{d:fE}{B:iN}{w:List eP}(h:iQ w=eb):(qI d (kz w B)).any (·.1)=false:=by
 induction w with
 |nil=>rfl
 |cons e r D=>rw[(tb h).2.1];exact D (tb h).1
theorem sN{M:Model}{A:jZ}{E:ed->eZ->Prop}{s:eZ}{f:ed}{d:fE}{B:iN}{w:List eP}{Q:Args->eZ->Prop}(W:iQ w=eb)
  (h:fi M A (spliced (qI d (kz w B))) (λJ P=>Q ⟨J,[]⟩ P) E s):fi M A (evalArgs f eb (qI d (kz w B)) []) Q E s:=by
 cases w with
 |nil=>exactλZ p o=>evalArgs_nil3 (h Z p o) Z p o
 |cons e r=>rw[(tb W).2.1] at h ⊢;exact evalArgs_plain h
theorem Bg{f:ed}{first:List ed}{w:List eP}{d:fE}{Q:ed->AH->Prop}(O:c.d)(W:iQ w=eb)(z:nF c f)
  (h:TA c w V H (λJ M=>TC c f (first.map nv++J) V M Q)) {E s} (S:St c V H s):
  fi c.g c.b (callWith d f first (qI d (kz w c.a)) []) (λv P=>∃M,St c V M P∧Q (nv v) M) E s:=by
 refine xR (P:=λh=>c.e.In h) (by rw[qn W];rfl) z (sN W (fc (h E s d S) (λJ P G=>?_) λU U x=>x));refine eR G λM A F=>?_;exact⟨A.w O,F E P (first++J) A (by rw[lb])⟩
theorem tQ{x:ft}{r d:fE}{w:List eP}{Q:ed->AH->Prop}{f:ed}(O:c.d)(W:iQ w=eb)
  (y:TE c (gk x r) V H (λv M=>v=f∧nv f=f∧(∀u,nv u=f->u=f)∧nF c f∧TA c w V M (λJ R=>TC c f J V R Q))):TE c (jr (gk x r) w [] d) V H Q:=λE s S=>by
 refine uX (fc (y E s S) (λv P G=>?_) λU U x=>x);refine un G λM A F K I z Z=>?_;clear y K;clear G;obtain rfl:=I v F;exact Bg (first:=[]) O W z (by simpa using Z) A
noncomputable def j9(H:AH)(h:fH):List (et×fN):=(AE h.objs.size).filterMap λa=>if(H a).isSome then(h.get? a).map λo=>(a,o) else eh
theorem sY{H:AH}{h:fH}{p:et×fN}:p∈j9 H h↔(H p.1).isSome=eb∧h.get? p.1=d9 p.2:=by
 unfold j9;rw(occs:=eO) [DR]
 constructor
 ·rintro⟨a,M,K⟩
  split at K
  ·rename_i W
   (refine wy K λo D O=>?_;(clear K;obtain rfl:=O))
   exact⟨W,D⟩
  ·exact nS K
 ·rintro⟨K,I⟩
  refine(eu p.1 (AA.mpr (l8 I)) ?_);rw[if_pos K,I];rfl
theorem jP.k{h:fH}(R:jP c H h):News c.f c.h h (j9 H h):=λp J=>by
 refine fe (sY.mp J) λK I=>?_;refine wi K λo D=>?_;exact⟨I,R.b _ _ D⟩
set_option backward.match.sparseCases true in
noncomputable def pA:gr->ed
 |iV v=>v
 |_=>ez
theorem CU(f:gr):pA (nf f)=nv (pA f):=by cases f<;>rfl
noncomputable def iM(c:Cx)(g:fH)(a:et)(B:iN):Cx:=
 { c with t:=c.b,b:=c.b.deeper B,o:=c.n::c.o,n:=B,a:=B,f:=g,h:=a,i:=eh,j:=λU U=>False }
noncomputable def iR(Y:List String)(w:List ed):eJ:=λx=>((Y.zip w).reverse).lookup x
theorem HA{Y:List String}{J:List ed}(x:String):((Y.map eE).zip J).reverse.lookup (eE x)=((Y.zip J).reverse).lookup x:=by
 have S:∀(l:List (String×ed)),(l.map λp=>(eE p.1,p.2)).lookup (eE x)=l.lookup x:=by
  intro l
  induction l with
  |nil=>rfl
  |cons p r D=>
   rw[gj,iw,iw,D];by_cases Z:x=p.1
   ·rw[Z];simp
   ·have:(eE x==eE p.1)=false:=by
     rw(occs:=eO) [beq_eq_false_iff_ne];exactλe=>Z (oE.mp e)
    rw[this,beq_eq_false_iff_ne.mpr Z]
 rw(occs:=eO) [←S,nq]
 congr 2
 rw(occs:=eO) [List.zip_map_left];rfl
theorem BT{Y:List String}{J:List ed}:j4 (iR Y (J.map nv)) (λy=>((Y.map eE).zip J).reverse.lookup y):=by
 intro x v N;unfold iR at N;dsimp only;rw[HA];have S:∀(l:List (String×ed)),(l.map λp=>(p.1,nv p.2)).lookup x=d9 v->∃b,l.lookup x=d9 b∧nv b=v:=by
  intro l
  induction l with
  |nil=>intro h;exact nS h
  |cons p r D=>
   intro h;rw[gj,iw] at h;rw[iw]
   split at h
   ·rename_i e;exact(eu p.2 (by simp_all) (by simpa using h))
   ·exact D h
 refine S _ ?_;rw[nq];rw[WG] at N;exact N
set_option backward.match.sparseCases true in
def lL(c:Cx)(f:ed)(w:List ed)(V:eJ)(H:AH)(Q:ed->AH->Prop):Prop:=
 ∀(E:ed->eZ->Prop) (s:eZ) (J:List ed),St c V H s->J.map nv=w->qJ c.g c.b (.call f ⟨J,[]⟩) (λ(r:pO) (P:eZ)=>match r with|kD (iV v)=>(∃M,St c V M P∧Q (nv v) M)|kD _=>False|xo e=>E e P) s
theorem yl{f:ed}{w:List ed}{Q:ed->AH->Prop}(h:lL c f w V H Q):TC c f w V H Q:=λE s J S N=>xX (h E s J S N)
theorem St.F{X:pO->eZ->Prop}{s:eZ}(S:St c V H s)(O:c.d):∃m,Fr c.f c.h s.heap m∧Fr c.f c.h (lq s.heap ((j9 H s.heap).map (·.1))) m∧Below c.b c.m (c.n::c.o) (lq s.heap ((j9 H s.heap).map (·.1)))∧c.f.StaysIn (lq s.heap ((j9 H s.heap).map (·.1)))∧
  ∀{ac:iN} {ae:eJ} {H':AH} {s':eZ} {aa:ed},St (iM c (lq s.heap ((j9 H s.heap).map (·.1))) s.heap.objs.size ac) ae H' s'->(St c V H' s'->X (kD (iV aa)) s')->X (kD (iV aa)) s':=by
 obtain⟨⟨m,F,Y⟩,R,f,af,aj⟩ :=S;refine i8 (groundX (R:=X) O.f F R.k O.e O.g O.h) λW Z u l=>?_;refine(wc m F W Z u λ{ac ae H' s' aa} I k=>?_);obtain⟨⟨G,D,ag⟩,L,_,b,p⟩ :=I;have x:∀a o,(lq s.heap ((j9 H s.heap).map (·.1))).get? a=d9 o->H' a=none:=λa o A=>by
  cases z:H' a with
  |none=>rfl
  |some au=>
   have:(lq s.heap ((j9 H s.heap).map (·.1))).get? a=none:=(L.b _ _ z).2;rw[A] at this;exact iX this
 have h:∀a o,s.heap.get? a=d9 o->H a=eh->(lq s.heap ((j9 H s.heap).map (·.1))).get? a=d9 o:=λa o K I=>AU _ K λq=>by
  refine fP q λaq M n=>?_;have:=(sY.mp M).1;rw[n,I] at this;exact nB this
 refine l _ _ (mT s.heap.objs.size G (j9 H' s'.heap) D L.k (λd e=>k ⟨(eu m d ?_),⟨L.f,λa o T=>?_⟩,λa o T=>?_,b,p⟩))
 ·cases i:c.i with
  |none=>rw[i] at Y;exact Y
  |some ak=>
   rw[i] at Y;obtain⟨K,P,⟨j,w,B,C,r⟩,g,y,J,N⟩ :=Y;have A:=h _ _ C N;exact⟨K,P,(pg j w B (D.keep _ _ A) r),g,y,J,x _ _ A⟩
 ·refine L.d a o T λro K I=>?_
  exact(e (a,ro) (sY.mpr ⟨by rw[T];rfl,K⟩)).2
 ·obtain⟨Q,E,t,v,U⟩ :=f a o T
  have A:=h _ _ Q U;exact⟨D.keep _ _ A,E,t,v,x _ _ A⟩
noncomputable def qy(H:AH)(L:et)(i:List (Option ed)):AH:=λa=>if L<a then(i[a-(L+1)]?).map .g else H a
def vU(t:jG)(Y:List String)(w:List ed):eJ:=λx=>if t.names.lookup (eE x)=d9 ey then iR Y w x else eh
theorem FX(k:ft->Option fX)(y:ft):∀(j:List (ft×ed)) (m:ft->Option ed),
  bindL k j m y=if k y=d9 ey then(match j.reverse.lookup y with|some v=>d9 v|none=>m y) else m y:=by
 intro j
 induction j with
 |nil=>intro m;simp[bindL]
 |cons p r D=>
  intro m;obtain⟨n,v⟩ :=p;unfold bindL;rw[D,n9,Wq];by_cases z:k y=d9 ey
  ·simp only[z,if_true]
   cases R:r.reverse.lookup y with
   |some u=>simp
   |none=>
    by_cases W:y=n
    ·subst W;simp[z]
    ·simp only[WT,iw,Ws,beq_eq_false_iff_ne.mpr W]
     split<;>simp[W]
  ·simp only[z,if_false]
   split
   ·rename_i K;simp only[ite_eq_right_iff];rintro rfl;exact absurd K z
   ·rfl
theorem FV(k:ft->Option fX)(y:ft):∀(j:List (ft×ed)) (m:ft->Option ed),
  bindC k j m y=if k y=d9 ey then m y else(match j.reverse.lookup y with|some v=>d9 v|none=>m y):=by
 intro j
 induction j with
 |nil=>intro m;simp[bindC]
 |cons p r D=>
  intro m;obtain⟨n,v⟩ :=p;unfold bindC;rw[D,n9,Wq];by_cases z:k y=d9 ey
  ·simp only[z,if_true]
   split
   ·rfl
   ·rename_i K;simp only[ite_eq_right_iff];rintro rfl;exact absurd z K
  ·simp only[z,if_false]
   cases R:r.reverse.lookup y with
   |some u=>simp
   |none=>
    by_cases W:y=n
    ·subst W;simp[z]
    ·simp only[WT,iw,Ws,beq_eq_false_iff_ne.mpr W]
     split<;>simp[W]
theorem OC{n a:Nat}(h:n<a):a=n+1+(a-(n+1)):=by omega
theorem OB(n i:Nat):n+1+i≠n:=by lia
theorem Fy(n i:Nat):¬n+1+i<n:=by lia
theorem EX{f:et}{w:List ed}{Q:ed->AH->Prop}{W j:ft}{ae:AL}{aa:List fG}{t:jG}{m kV d E N A oc:ed}{an od:Option et}{aX:Array (Option ed)}(O:c.d)
  (D:c.e.lookup f=d9 ⟨oc,od,xH (lJ W j ae aa t m kV d E an N A),aX⟩) (az:pP c.e N j=eb) (aS:c.b.depth<En)
  (Y S:List String) (C:∀s J,c.e.In s.heap->J.length=w.length->D3 s (lJ W j ae aa t m kV d E an N A) ⟨J,[]⟩ ((Y.map eE).zip J))
  (aH:∀x∈Y,t.names.lookup (eE x)=d9 ey∨(t.names.lookup (eE x)=d9 fK∧x∈S))
  (aA:∀k,rL k t.names []=((S.map eE).zip (tq k S.length)).reverse)
  (aK:S.Nodup) (aB:∀x∈S,t.names.lookup (eE x)=d9 fK)
  (aC:t.isCoroutine=em) (aE:t.isGenerator=em) (z:t.kind=jH)
  (aw:∀g L,(iM c g L (mK j t L f N)).d->(∀a o,H a=d9 o->a<L)->
   TS (iM c g L (mK j t L f N)) aa (vU t Y w) (qy H L (S.map (iR Y w))) (λX U M=>Q (pA X) M)):
  lL c (ec f) w V H Q:=λaq s J hs p=>by
 have aG:J.length=w.length:=by rw[←p,fC]
 refine oA (hs.F O (X:=λ(r:pO) (P:eZ)=>match r with|kD (iV v)=>(∃M,St c V M P∧Q (nv v) M)|kD _=>False|xo e=>aq e P)) λaY F FG BG u au=>?_;obtain⟨_,R,_,aF,aP⟩ :=hs;have ag:∀i x k,S[i]? =d9 x->(rL k t.names []).lookup (eE x)=d9 (k+i):=by
  intro i x k Z;refine fL (xu.mp Z) λhi n=>?_;rw[aA];apply lookup_of_mem_nodup
  ·rw[nq,DP (by simp)]
   refine Kr.mpr (XH _ (λa b (e:a≠b)=>?_) aK);exactλq=>e (oE.mp q).symm
  ·rw(occs:=eO) [lH,Ko]
   refine⟨i,by simpa using hi,?_⟩;rw(occs:=eO) [DH];simp[n]
 have hl:∀k,∀y∈(Y.map eE).zip J,t.names.lookup y.1=d9 ey∨(t.names.lookup y.1=d9 fK∧((rL k t.names []).lookup y.1).isSome=eb):=by
  intro k y B;refine fP (rG B).1 λx Z n=>?_;rw[←n];refine(aH x Z).imp id λq=>⟨q.1,?_⟩;refine fL (DS.mp q.2) λi hi=>?_;rw[ag i x k hi];rfl
 refine(codeAny_call_function (fd:=lJ W j ae aa t m kV d E an N A) aS (F.keep _ _ (O.a _ _ D)) rfl aC aE rfl (KV (O.a.keeps F.keep) az) (C s J (O.a.keeps F.keep) aG _ _ _ _ ?_));refine wpAny_newFunctionEnv_cells z (hl _) λav n aZ x=>?_;have aD:av=mK j t s.heap.objs.size f N:=n;clear n;subst aD;have h:=x.toInCall.keep;refine⟨(O.d.nolimit.keeps F.keep).keeps h,codeAny_func ?_⟩;refine iH x.done λak tk aU U=>?_;subst aU;have F':Fr (lq s.heap ((j9 H s.heap).map (·.1))) s.heap.objs.size ak (bindL (mK j t s.heap.objs.size f N).kindOf ((Y.map eE).zip J) λU=>eh):=⟨x.toInCall.ns,λb o e=>h b o (AX _ e),xB (Ee _ _)⟩;have O':(iM c (lq s.heap ((j9 H s.heap).map (·.1))) s.heap.objs.size (mK j t s.heap.objs.size f N)).d:=⟨BG,O.a.keeps u,O.d.keeps u,D0 O.e,rfl,z,z,rfl,rfl⟩;have aJ:∀a o,H a=d9 o->a<s.heap.objs.size:=λa o T=>by
  refine R.d a o T λl K U=>?_;exact l8 K
 have af:∀a o,qy H s.heap.objs.size (S.map (iR Y w)) a=d9 o->H a=d9 o∨∃i y,S[i]? =d9 y∧a=s.heap.objs.size+1+i∧o=.g (iR Y w y):=by
  intro a o T;unfold qy at T
  split at T
  ·rename_i aI
   rw[lE,Option.map_map,xD] at T
   (refine eR T λy B e1=>?_;(clear T;obtain rfl:=e1))
   exact eI (fS _ y B (OC aI) rfl)
  ·exact eH T
 have aT:St (iM c (lq s.heap ((j9 H s.heap).map (·.1))) s.heap.objs.size (mK j t s.heap.objs.size f N)) (vU t Y w) (qy H s.heap.objs.size (S.map (iR Y w))) { s with heap:=ak,toks:=tk }:=by
  refine⟨(eu _ F' ?_),⟨λa o T=>?_,λa o T=>?_⟩,(λa o q=>q.elim),aF,aP⟩
  ·refine⟨rfl,?_⟩
   intro y v hv;unfold vU at hv
   split at hv
   ·rename_i B
    rw(occs:=eO) [FX];rw(occs:=eO) [if_pos (show(mK j t s.heap.objs.size f N).kindOf (eE y)=d9 ey from B)];refine eR (BT (Y:=Y) (J:=J) y v (p▸hv)) λv' K I=>?_;dsimp only at K;exact(eu v' (by rw(occs:=eO) [K]) I)
   ·exact nS hv
  ·rcases af a o T with G|⟨i,y,B,rfl,rfl⟩
   ·refine R.d a o G λl K I=>?_
    exact(eu l (h _ _ K) I)
   ·have I:=ag i y (s.heap.objs.size+1) B
    refine eR (x.cell _ _ I) λaW aM aO=>?_;refine(eu aW aM (eu _ aO ?_));rw(occs:=eO) [FV];have aL:(mK j t s.heap.objs.size f N).kindOf (eE y)=d9 fK:=aB y (tm B);rw(occs:=eO) [aL];simp only[reduceCtorEq,if_false,WU];have hz:iR Y w y=(((Y.map eE).zip J).reverse.lookup (eE y)).map nv:=by
     rw[HA,←p];unfold iR;rw[WG,←nq];generalize (Y.zip J).reverse=aV
     induction aV with
     |nil=>rfl
     |cons ac r ih=>
      rw(occs:=eO) [gj,iw,iw];dsimp only[Prod.map];by_cases hp:y=ac.1
      ·rw[hp];simp
      ·have aj:(y==ac.1)=false:=beq_eq_false_iff_ne.mpr hp
       have aQ:(y==id ac.1)=false:=aj;rw[aj,aQ];exact ih
    rw[hz];cases((Y.map eE).zip J).reverse.lookup (eE y)<;>rfl
  ·rcases af a o T with G|⟨i,y,B,rfl,rfl⟩
   ·refine R.d a o G λl K I=>?_
    exact⟨rH (l8 K),AV _ (jY (sY (p:=(a,l)) |>.mpr ⟨by rw[G];rfl,K⟩))⟩
   ·refine⟨OB _ _,?_⟩
    cases q:(lq s.heap ((j9 H s.heap).map (·.1))).get? (s.heap.objs.size+1+i) with
    |none=>exact q
    |some o=>exact absurd (l8 (AX _ q)) (Fy _ _)
 refine fc (aw _ _ O' aJ _ _ aT) (λX P G=>?_) λU U x=>x;refine iH G λba M I aR=>?_;exact au I λh3=>(eu M h3 (CU X▸aR))
theorem HQ{l:List (ft×fX)}{k:Nat}{z:List (ft×et)}(h:∀x∈l,x.2≠fK):rL k l z=z:=by
 induction l with
 |nil=>rfl
 |cons p r D=>
  show(if(p.2==fK)=eb then _ else rL k r z)=z;rw[if_neg (by simpa using h p (gp ..))];exact D λx Z=>h x (gC _ Z)
theorem EW{f:et}{w:List ed}{Q:ed->AH->Prop}{W j:ft}{i:AL}{B:List fG}{t:jG}{m k d E N A R:ed}{G od:Option et}{I:Array (Option ed)}(O:c.d)
  (D:c.e.lookup f=d9 ⟨R,od,xH (lJ W j i B t m k d E G N A),I⟩) (P:pP c.e N j=eb) (K:c.b.depth<En)
  (Y:List String) (C:∀s J,c.e.In s.heap->J.length=w.length->D3 s (lJ W j i B t m k d E G N A) ⟨J,[]⟩ ((Y.map eE).zip J))
  (y:∀x∈Y,t.names.lookup (eE x)=d9 ey) (b:∀x∈t.names,x.2≠fK)
  (T:t.isCoroutine=em) (p:t.isGenerator=em) (z:t.kind=jH)
  (h:∀g L,(iM c g L (kR j t L f N [])).d->TS (iM c g L (kR j t L f N [])) B (iR Y w) H (λX U M=>Q (pA X) M)):
  lL c (ec f) w V H Q:=by
 refine EX O D P K Y [] C (λx Z=>eH (y x Z)) (λaa=>HQ b) n8 (λU h=>absurd h iI) T p z λg L r S=>?_;have l:mK j t L f N=kR j t L f N []:=by unfold mK;rw[HQ b]
 have n:qy H L ([].map (iR Y w))=H:=funext λa=>by
  show(if L<a then eh else H a)=H a
  split
  ·rename_i q;cases e:H a with
   |none=>rfl
   |some o=>exact absurd (S a o e) (WK q)
  ·rfl
 have u:vU t Y w=iR Y w:=funext λx=>by
  show(if _ then _ else eh)=_
  split
  ·rfl
  ·rename_i q
   cases e:iR Y w x with
   |none=>rfl
   |some v=>
    refine iH (List.lookup_eq_some_iff.mp e) λl1 l2 F U=>?_;exact absurd (y x (rG (lH.mp (F▸Ww l1 (gp ..)))).1) q
 rw[l] at r ⊢;rw[n,u];exact h g L r
noncomputable def kW(a:String)(v:ed):List (String×ed)->List (String×ed)
 |[]=>[(a,v)]
 |p::r=>if p.1=a then(p.1,v)::r else p::kW a v r
theorem zP{a:String}{v:ed}{p:String×ed}{r:List (String×ed)}:kW a v (p::r)=if p.1=a then(p.1,v)::r else p::kW a v r:=rfl
theorem Il{W:ft}{O:Int}{k v:ed}{e:uO}{r:List uO}:putL W O k v (e::r)=if e.key.isStr W then⟨e.hash,e.key,v⟩ ::r else e::putL W O k v r:=rfl
theorem wj{k:ed}{a:String}:k.isStr (eE a)=eb↔nv k=eC (eE a) 0:=by
 cases k<;>simp[Value.isStr,nv]
set_option tactic.hygienic true in
theorem HV{w:List uO}{B:List (String×ed)}{a:String}{u:ed}(h:w.map (λe=>(nv e.key,nv e.val))=B.map (λp=>(eC (eE p.1) 0,p.2)))
  (C:B.lookup a=d9 u):∃v,getL (eE a) w=d9 (d9 v)∧nv v=u:=by
 induction B generalizing w with
 |nil=>exact nS C
 |cons p r D=>
  cases w with
  |nil=>exact nL h
  |cons e w=>
   rw[gj,gj,uF,AK] at h
   (refine fe h λL g=>?_;refine fe L λK I=>?_)
   rw[iw] at C;by_cases J:a=p.1
   ·clear D
    subst J;simp only[beq_self_eq_true,WU] at C;refine(eu e.val ?_ (by rw[I,C]));unfold getL;rw[DE (by exact wj.mpr K)]
   ·rw[beq_eq_false_iff_ne.mpr J] at C
    refine eR (D g C) λv R H=>?_;refine(eu v ?_ H);have G:¬(e.key.isStr (eE a)=eb):=λq=>by
     rw[wj,K] at q;injection q with q
     exact J (oE.mp q).symm
    have Z:∃P,w.find? (·.key.isStr (eE a))=d9 P∧P.val=v:=by
     unfold getL at R
     split at R
     ·rename_i P Y;exact(eu P Y (by simpa using R))
     ·split at R<;>cases R
    refine eR Z λP Q n=>?_;unfold getL;rw[DD (by exact G),Q];exact congrArg (λz=>d9 (d9 z)) n
theorem Rv{w:List uO}{B:List (String×ed)}(h:w.map (λe=>(nv e.key,nv e.val))=B.map (λp=>(eC (eE p.1) 0,p.2))):
  w.any (·.refKey)=false:=by
 rw(occs:=eO) [DA];intro e n;have Y:(nv e.key,nv e.val)∈B.map (λp=>(eC (eE p.1) 0,p.2)):=h▸jY n;refine fP Y λp J G=>?_;rw[AK] at G;refine fL (RA G.1.symm) λt z=>?_;simp[DictEntry.refKey,z]
theorem HW{w:List uO}{B:List (String×ed)}{a:String}(h:w.map (λe=>(nv e.key,nv e.val))=B.map (λp=>(eC (eE p.1) 0,p.2)))
  (C:B.lookup a=eh):getL (eE a) w=d9 none:=by
 unfold getL;have y:w.find? (·.key.isStr (eE a))=none:=by
  rw(occs:=eO) [List.find?_eq_none];intro e n q;have Y:(nv e.key,nv e.val)∈B.map (λp=>(eC (eE p.1) 0,p.2)):=h▸jY n;refine fP Y λp J G=>?_;rw[AK,wj.mp q] at G;have:p.1=a:=by have:=G.1;injection this with this;exact oE.mp this
  rw[Wr] at C;have:=C p J
  simp_all
 rw[y,Rv h];rfl
theorem Rw{w:List uO}{B:List (String×ed)}{a:String}{O:Int}{t:Tok}{v:ed}(h:w.map (λe=>(nv e.key,nv e.val))=B.map (λp=>(eC (eE p.1) 0,p.2))):
  (putL (eE a) O (eC (eE a) t) v w).map (λe=>(nv e.key,nv e.val))=(kW a (nv v) B).map (λp=>(eC (eE p.1) 0,p.2)):=by
 induction B generalizing w with
 |nil=>
  cases w with
  |nil=>rfl
  |cons e w=>exact wF h
 |cons p r D=>
  cases w with
  |nil=>exact nL h
  |cons e w=>
   rw[gj,gj,uF,AK] at h
   (refine fe h λT g=>?_;refine fe T λK I=>?_)
   rw[Il,zP];by_cases J:p.1=a
   ·clear D
    subst J;rw[if_pos (wj.mpr K),if_pos rfl,gj,gj,K,g]
   ·have G:¬(e.key.isStr (eE a)=eb):=λq=>by
     rw[wj,K] at q;injection q with q
     exact J (oE.mp q)
    rw[if_neg G,if_neg J,gj,gj,K,I,D g]
theorem SL{W:ft}{O:Int}{k v:ed}:∀w:List uO,(putL W O k v w).length≤w.length+1:=by
 intro w
 induction w with
 |nil=>exact ig _
 |cons e r D=>
  rw[Il];by_cases h:e.key.isStr W=eb
  ·rw[if_pos h];exact xC _
  ·rw[if_neg h];exact DX D
def PB(y:eP):Prop:=∀(L:ft) (B:iN) (O:Sem ed),KY y L B O=O
def CA(c:Cx)(C:et)(a:String):Prop:=Eg c.e C (eE a)=eb∧Ed c.e C=eb∧rJ c.e (ec C) (eE a)=d9 eh
def CS(c:Cx)(C:et)(a:String):Prop:=rJ c.e (ec C) "__setattr__"=d9 (d9 (iP "object.__setattr__"))∧plainOver c.e C=eb∧takerIn c.e C (eE a)=d9 eh∧Ed c.e C=eb
theorem jP.m{h:fH}(R:jP c H h){x C d:et}{B:List (String×ed)}(Z:H x=d9 (.h C d))(b:H d=d9 (.b B)):
  ∃w n,h.get? d=d9 (AT w n)∧w.map (λo=>(nv o.key,nv o.val))=B.map (λp=>(eC (eE p.1) 0,p.2))∧InstAt h x (instObj C d) C (d9 (AT w n)):=by
 refine R.d x _ Z λa K I=>?_
 (refine R.d d _ b λf g W=>?_;refine iH W λw n y J=>?_)
 have I:a=instObj C d:=I;clear W;subst I y;exact(fS w n g J ⟨K,rfl,rfl,g⟩)
theorem qP{y:eP}{a:String}{k:fE}{Q:ed->AH->Prop}(O:c.d)(j:PB y)
  (h:TE c y V H (λv M=>∃x C d B u,v=ec x∧M x=d9 (.h C d)∧M d=d9 (.b B)∧B.lookup a=d9 u∧CA c C a∧Ec u=eb∧Q u M)):
  TE c (jL y (eE a) k) V H Q:=λE s S=>by
 refine Attribute_any_ (fc (h E s S) (λv P G=>?_) λU U x=>x) ?_
 ·obtain⟨M,A,x,C,d,B,u,N,Z,p,e,⟨i,t,R⟩,g,G⟩ :=G
  obtain rfl:=gX N;obtain⟨w,n,L,T,I⟩ :=A.b.m Z p;obtain⟨b,D,f⟩ :=HV T e;obtain⟨m,F,_⟩ :=A.e;refine get_own F O.a I i t R rfl D ?_ (eu M (A.g _) (f▸G));clear e G;subst f;clear D;cases b<;>first|rfl|exact g
 ·show(do let o←KY y (eE a) c.a (jc y c.a);Ep k.atName;let r←holding [o] (getAttr o (eE a) eb);letTemporaryGo y o r;f9 r)=_
  rw[j _ _ _]
def qd(c:Cx)(r:ed)(a:String)(v:ed)(V:eJ)(H:AH)(Q:AH->Prop):Prop:=
 ∀E s b,St c V H s->nv b=v->fi c.g c.b (setAttr r (eE a) b) (λU P=>∃M,St c V M P∧Q M) E s
theorem pX{x C d:et}{B:List (String×ed)}{a:String}{v:ed}{Q:AH->Prop}(O:c.d)(Z:H x=d9 (.h C d))(p:H d=d9 (.b B))(X:CS c C a)(J:B.length<1000)
  (h:Q (eQ H d (.b (kW a v B)))):qd c (ec x) a v V H Q:=λE s b S P=>by
 refine i8 X λi t q r=>?_;refine fT (S.b.m Z p) λw n L T I=>?_;have W:=S;obtain⟨⟨m,F,Y⟩,R,f,ac,k⟩ :=S;refine fe (R.b _ _ p) λy G=>?_;refine fT (OH L y G) λaa z e p1 p2=>?_;have N:=HM (q:=c.f) (L:=c.h) (h:=s.heap);have l:News c.f c.h s.heap (aa++(d,AT w n)::z):=e▸N;have ae:w.length=B.length:=by have:=congrArg qz T;simpa using this
 have K:(lookIn (eE a) (AT w n)).isSome=true:=by
  rw(occs:=eO) [lookIn_dict];cases g:B.lookup a with
  |some af=>refine eR (HV T g) λv1 D U=>?_;rw(occs:=eO) [D];rfl
  |none=>rw(occs:=eO) [HW T g];rfl
 refine set_plain (O.a.keeps F.keep) I i ?_;refine osa_dict (s:={ s with toks:=s.toks+1 }) (es:=putL (eE a) (KR c.k.params (eE a)) (eC (eE a) (s.toks+1)) b w) (n:=putN (eE a) w n) F l (O.a.keeps F.keep) I rfl t q r K p1 p2 (putName_dict _ _ _ _ _ _) rfl ?_ λu A o=>?_
 ·have:=@SL (eE a) (KR c.k.params (eE a)) (eC (eE a) (s.toks+1)) b w
  lia
 ·have j:=Pf F A e o
  have M:=(o (d,_) (lc.mpr (eI (gL _)))).1;exact(eu _ (W.v (X:=.b (kW a v B)) p (eu m A Y) j M (ib _ _ rfl (P▸Rw T))) h)
theorem pW{o:eP}{a:String}{p d:fE}{e:eP}{Q:gr->eJ->AH->Prop}
  (h:TE c e V H (λv Z=>TE c o V Z (λr T=>∃x,r=ec x∧qd c (ec x) a v V T (λL=>Q fY V L))))
  (W:tJ e (d9 (jL o (eE a) p)) d.line c.a=f9 em):T1 c (lm [jL o (eE a) p] e d) V H Q:=λE s S=>by
 refine plainObj_wpAny_Assign_Attribute (fc (h E s S) (λv P G=>?_) λU U x=>x) W;refine eR G λM A F=>?_;refine fc (F E P A) (λr m F=>?_) λU U x=>x;obtain⟨f,k,x,R,F⟩ :=F;obtain rfl:=gX R;exact fc (F E m v k rfl) (λU y w=>eR w λK a b=>⟨V,K,a,b⟩) λU U x=>x
theorem Bi{O:List eP}{d:fE}{Q:ed->AH->Prop}(h:TA c O V H (λJ M=>J.length≤sizeLine∧∀a,M a=eh->Q (ec a) (eQ M a (.a J)))):
  TE c (AM O d) V H Q:=λE s S=>by
 refine wpAny_List (fc (h E s d S) (λJ P G=>?_) λU U x=>x);refine f5 G λM A C F=>?_;refine⟨by simpa using C,?_⟩;refine A.i (d:=P.heap.objs.size) (X:=.a (J.map nv)) (L:={ cls:=eK "list",data:=kQ J.toArray }) (u:=P.heap.push _) (p:=P.toks)
  (ku (ig _)) (λb o e=>hY _ e) (jf _ rfl) (ib _ _ rfl (by simp)) λW q=>?_
 exact(eu _ q (F _ W))
theorem Bk{O:List eP}{k:Nat}{d:fE}{Q:ed->AH->Prop}(h:TA c O V H (λJ M=>J.length≤sizeLine∧∀a,M a=eh->Q (ec a) (eQ M a (.f J)))):
  TE c (iD O k d) V H Q:=λE s S=>by
 refine wpAny_Tuple_spliced (fc (h E s d S) (λJ P G=>?_) λU U x=>x);refine f5 G λM A C F=>?_;refine⟨by simpa using C,?_⟩;refine A.i (d:=P.heap.objs.size) (X:=.f (J.map nv)) (L:={ cls:=eK "tuple",data:=kQ J.toArray }) (u:=P.heap.push _) (p:=P.toks)
  (ku (ig _)) (λb o e=>hY _ e) (jf _ rfl) (ib _ _ rfl (by simp)) λW q=>?_
 exact(eu _ q (F _ W))
theorem Ra{o:eP}{W:ft}{Y d:fE}{w:List eP}{B:iN}(j:PB o)(a:iQ w=eb)(C:w.length<30)(z:(Y.endLine==d.line)=eb):
  jc (jr (jL o W Y) w [] d) B=(do
   let O←jc o B
   Ep Y.atName
   let(f,first)←holding [O] (getMethod O W (do return(←importBound o B).getD eb))
   callWith d f first (qI d (kz w B)) (backToKw d (K4 [] B))):=by
 have R:methodCallForm (w.length+([]:List Keyword).length) (qI d (kz w B)) (backToKw d (K4 [] B))=true:=by
  unfold methodCallForm;have K:=qn (d:=d) (B:=B) a;have I:(qI d (kz w B)).all (λx=>!x.1)=true:=by
   rw[DA] at K;rw(occs:=eO) [iC];intro x Z;simpa using K x Z
  rw[I];exact decide_eq_true (p:=w.length<30) C
 show(do
  let O←KY o W B (jc o B)
  Ep Y.atName
  methodCall o W Y d B O (w.length+([]:List Keyword).length) (qI d (kz w B)) (backToKw d (K4 [] B)))=_
 rw[j _ _ _];unfold methodCall;rw[R];unfold calleeOf methodCallPos;simp only[if_true,V0,VZ,z];rfl
def yr(c:Cx)(C:et)(a:String)(f:et):Prop:=Eg c.e C (eE a)=eb∧rJ c.e (ec C) (eE a)=d9 (d9 (ec f))∧isFn c.e (ec f)=eb∧tz c.e (ec f)=eb
theorem NS{o:eP}{a:String}{Y b:fE}{w:List eP}{Q:ed->AH->Prop}(O:c.d)(j:PB o)(W:iQ w=eb)(g:w.length<30)(z:(Y.endLine==b.line)=eb)
  (h:TE c o V H (λv M=>∃x C d B f,v=ec x∧M x=d9 (.h C d)∧M d=d9 (.b B)∧B.lookup a=eh∧yr c C a f∧TA c w V M (λJ R=>TC c (ec f) (ec x::J) V R Q))):
  TE c (jr (jL o (eE a) Y) w [] b) V H Q:=λE s S=>by
 refine methodCall_KW (pl:=do return(←importBound o c.a).getD eb) (fc (h E s S) (λv P G=>?_) λU U x=>x) (Ra j W g z);obtain⟨M,A,x,C,d,B,f,N,Z,p,y,⟨i,t,e,n⟩,G⟩ :=G;obtain rfl:=gX N;obtain⟨k,l,L,T,I⟩ :=A.b.m Z p;obtain⟨m,F,_⟩ :=A.e;refine method_inst F O.a I i t e (HW T y) ?_;exact Bg (first:=[ec x]) O W (u9 n) G A
theorem qQ{o:eP}{a:String}{Y d:fE}{w:List eP}{T id:String}{Q:ed->AH->Prop}(O:c.d)(j:PB o)(W:iQ w=eb)(C:w.length<30)(z:(Y.endLine==d.line)=eb)
  (L:PlainAttrs T) (q:Slot T (eE a) id) (g:typeOf (iP id)=f9 (eK "method_descriptor"))
  (h:TE c o V H (λv M=>∃x k,v=ec x∧M x=d9 k∧(∀X,OR c.l c.k k X->X.cls=eK T∧X.dict=eh)∧TA c w V M (λJ R=>TC c (iP id) (ec x::J) V R Q))):
  TE c (jr (jL o (eE a) Y) w [] d) V H Q:=λE s S=>by
 refine wpAny_Call_method (j _ _ _) ?_ z L q g (fc (h E s S) (λv P G=>?_) λU U x=>x)
 ·have K:=qn (d:=d) (B:=c.a) W
  have I:(qI d (kz w c.a)).all (λx=>!x.1)=true:=by
   rw[DA] at K;rw(occs:=eO) [iC];intro x Z;simpa using K x Z
  rw[I];exact decide_eq_true (p:=w.length<30) C
 ·obtain⟨M,A,x,k,N,Z,D,G⟩ :=G
  obtain rfl:=gX N;obtain⟨l,e,y⟩ :=A.b.f x k Z;obtain⟨K,I⟩ :=D l y;refine⟨(eu l e K),?_,?_⟩
  ·intro b j
   cases j;exact(eu l e I)
  ·exact Bg (first:=[ec x]) O W nF.a G A
theorem ut{c:Cx}{J:List ed}:∀X,OR c.l c.k (.a J) X->X.cls=eK "list"∧X.dict=none:=by
 rintro X ⟨F,n,rfl,_⟩;exact⟨rfl,rfl⟩
theorem vb{T id:String}{W:ft}{b:Builtin}{x:ed}{w:List ed}{Q:ed->AH->Prop}(q:Slot T W id)(j:entryFor table id=d9 b)
  (h:∀s v J,St c V H s->nv v=x->J.map nv=w->s.TypeIs v T∧argsOk id ⟨v::J,[]⟩ ∧∃S:Xi,Meets (b ⟨v::J,[]⟩) S∧
   ∀A E,S A (wants (λr P=>∃M,St c V M P∧Q (nv r) M) E) s):TC c (iP id) (x::w) V H Q:=λE s J a p=>by
 cases J with
 |nil=>exact nL p
 |cons v J=>
  rw[gj,uF] at p
  (refine gY (h s v J a p.1 p.2) λK I L=>?_;refine eR L λS g y=>?_)
  refine xX (K0 q.plain j (q.check _ _ _ _ _ _ _ _ K I ?_));exact g c.l c.k c.b _ s (y c.b E)
theorem jP.i{h:fH}(R:jP c H h){l:et}{J:List ed}(C:H l=d9 (.a J)):∃F n,h.get? l=d9 (AW F n)∧F.toList.map nv=J:=by
 (refine R.d l _ C λa K T=>?_;refine iH T λF n O I=>?_;(clear T;obtain rfl:=O))
 exact(ib F n K I)
theorem jP.e{h:fH}(R:jP c H h){l:et}{J:List ed}(C:H l=d9 (.a J)){G:Prop}(N:∀F n,h.get? l=d9 (AW F n)->F.toList.map nv=J->G):G:=iH (jP.i R C) N
theorem jP.l{h:fH}(R:jP c H h){l:et}{J:List ed}(C:H l=d9 (.f J)):∃F n,h.get? l=d9 ({ cls:=eK "tuple",data:=kQ F n }:fN)∧F.toList.map nv=J:=by
 (refine R.d l _ C λa K P=>?_;refine iH P λF n d I=>?_;(clear P;obtain rfl:=d))
 exact(ib F n K I)
theorem jP.j{h:fH}(R:jP c H h){l:et}{J:List ed}(C:H l=d9 (.f J)){G:Prop}(N:∀F n,h.get? l=d9 ({ cls:=eK "tuple",data:=kQ F n }:fN)->F.toList.map nv=J->G):G:=iH (jP.l R C) N
theorem LD{h:fH}(R:jP c H h){d:et}{P:List (Int×ed)}(C:H d=d9 (.e P)):∃a,h.DictOf (pR c.l c.k) d a∧a.map (λp=>(p.1,nv p.2))=P:=by
 refine Ic (R.f d _ C) λl K a I g=>?_;exact(eu a (tu.mpr (eu l K I)) g)
theorem jP.g{h:fH}(R:jP c H h){d:et}{P:List (Int×ed)}(C:H d=d9 (.e P)){G:Prop}(N:∀a,h.DictOf (pR c.l c.k) d a->a.map (λp=>(p.1,nv p.2))=P->G):G:=eR (LD R C) N
theorem iU{h:fH}{l:et}{F:Array ed}{n:Nat}(x:h.get? l=d9 (AW F n)):h.IsList l F:=(fQ _ x rfl ⟨n,rfl⟩)
theorem Cj{h:fH}{l:et}{F:Array ed}{n:Nat}(x:h.get? l=d9 ({ cls:=eK "tuple",data:=kQ F n }:fN)):IsTup h l F:=(fQ _ x rfl ⟨n,rfl⟩)
theorem St.l{s:eZ}(S:St c V H s){u:fH}{d:et}{o X:AO}{L:fN}(p:H d=d9 o)(j:qE d s.heap u)(A:u.get? d=d9 L)(D:OR c.l c.k X L){g:Nat}:
  St c V (eQ H d X) { s with heap:=u,toks:=g }:=by
 obtain⟨⟨m,F,Y⟩,R,f,b,k⟩ :=S;refine fe (R.b _ _ p) λK I=>?_;exact St.v ⟨(eu m F Y),R,f,b,k⟩ p (eu m (F.change j K I) Y) (λa o M U e=>(j.2 a M).trans e) A D
theorem St.t{s:eZ}(S:St c V H s){l:et}{F:Array ed}{n:Nat}{J i:List ed}{f:Array ed->Array ed}(C:H l=d9 (.a J))(A:s.heap.get? l=d9 (AW F n))
  (y:(f F).toList.map nv=i) {p:Nat}:St c V (eQ H l (.a i)) { s with heap:=s.heap.update l (KP f),toks:=p }:=by
 refine S.l C (KN _ _ _) (xN _ A rfl) ?_;exact(ib (f F) _ rfl y)
theorem GU{F:Array ed}{J:List ed}(h:F.toList.map nv=J){k:Nat}{u:ed}(z:J[k]? =d9 u):∃v,F[k]? =d9 v∧nv v=u:=by
 rw[←h,lE,xD] at z;refine eR z λv K I=>?_;exact(eu v (by rw[←Dt];exact K) I)
theorem rq{F:Array ed}{J:List ed}(h:F.toList.map nv=J){k:Nat}{u:ed}(z:J[k]? =d9 u){G:Prop}(N:∀v,F[k]? =d9 v->nv v=u->G):G:=eR (GU h z) N
theorem ke{F:Array ed}{J:List ed}(h:F.toList.map nv=J):F.size=J.length:=by
 rw[←h];simp
def qX(j:eP):Prop:=∀o i:ed,subscripted j em o i=operate [o,i] (getItem o i)
def qZ(c:Cx)(y j:eP)(o i:ed)(V:eJ)(H:AH)(Q:ed->AH->Prop):Prop:=
 ∀E s v u,St c V H s->nv v=o->nv u=i->fi c.g c.b (subscriptTail y j v u) (λr P=>∃M,St c V M P∧Q (nv r) M) E s
theorem Bj{y j:eP}{d:fE}{Q:ed->AH->Prop}(h:TE c y V H (λo Z=>TE c j V Z (λi T=>qZ c y j o i V T Q))):TE c (pL y j d) V H Q:=λE s S=>by
 refine KC (fc (h E s S) (λv P G=>?_) λU U x=>x);refine eR G λM A F=>?_;refine fc (F E P A) (λu m F=>?_) λU U x=>x;refine eR F λR k q=>?_;exact q E m v u k rfl rfl
theorem yp{y j:eP}{l:et}{J:List ed}{i:Int}{u:ed}{Q:ed->AH->Prop}(C:H l=d9 (.a J))(w:0≤i)(K:i<2^63)(R:J[i.toNat]? =d9 u)(h:Q u H)
  (W:qX j):qZ c y j (ec l) (vi i) V H Q:=λE s v k S N z=>by
 obtain rfl:=gX N
 (refine ik z λt P=>?_;(clear z;obtain rfl:=P))
 refine S.b.e C λF n L T=>?_
 (refine rq T R λx r B=>?_;(clear R;obtain rfl:=B))
 exact xE (iU L).typeIs K7.lookup (wpAny_getItem_list (iU L) w K r (eu H S h)) (W _ _)
theorem Oj{y j:eP}{l:et}{J:List ed}{i:Int}{u:ed}{Q:ed->AH->Prop}(C:H l=d9 (.a J))(w:i<0)(K:-(2^63)≤i)(I:-(J.length:Int)≤i)(R:J[(i+J.length).toNat]? =d9 u)(h:Q u H)
  (W:qX j):qZ c y j (ec l) (vi i) V H Q:=λE s v k S N z=>by
 obtain rfl:=gX N
 (refine ik z λt Z=>?_;(clear z;obtain rfl:=Z))
 refine S.b.e C λF n L T=>?_;rw[←ke T] at R I
 (refine rq T R λx r m=>?_;(clear R;obtain rfl:=m))
 exact xE (iU L).typeIs K7.lookup (wpAny_getItem_list_neg (iU L) w I K r (eu H S h)) (W _ _)
theorem Ol{y j:eP}{l:et}{J:List ed}{i:Int}{u:ed}{Q:ed->AH->Prop}(C:H l=d9 (.f J))(w:0≤i)(K:i<2^63)(R:J[i.toNat]? =d9 u)(h:Q u H)
  (W:qX j):qZ c y j (ec l) (vi i) V H Q:=λE s v k S N z=>by
 obtain rfl:=gX N
 (refine ik z λt d=>?_;(clear z;obtain rfl:=d))
 refine S.b.j C λF n L T=>?_
 (refine rq T R λx r Y=>?_;(clear R;obtain rfl:=Y))
 have B:i.toNat<F.size:=(Ar.mp r).1;refine xE (Cj L).typeIs slot_tuple_getitem.lookup (getItem_tuple (j:=i.toNat) (Cj L) (by lia) K ?_ r (eu H S h)) (W _ _);unfold seqIndex?;simp only[show¬(i<0) by lia,if_false];have:i.toNat<F.size:=B
 first|(rw[if_pos (by lia)])|(simp;lia)
theorem Dj{a:List (Int×ed)}{P:List (Int×ed)}(h:a.map (λp=>(p.1,nv p.2))=P){k:Int}{u:ed}(z:P.lookup k=d9 u):∃v,xW a k=d9 v∧nv v=u:=by
 subst h
 induction a with
 |nil=>exact nS z
 |cons p r D=>
  rw[gj,iw] at z;unfold xW;by_cases J:p.1=k
  ·rw[DE (by simpa using J)]
   clear D;subst J;simp at z;exact(eu p.2 rfl z)
  ·rw[DD (by simpa using J)]
   have:(k==p.1)=false:=by rw(occs:=eO) [beq_eq_false_iff_ne];exactλe=>J e.symm
   rw[this] at z;exact D z
theorem JX{a:List (Int×ed)}{P:List (Int×ed)}(h:a.map (λp=>(p.1,nv p.2))=P){k:Int}:(xW a k).isSome=(P.lookup k).isSome:=by
 subst h
 induction a with
 |nil=>rfl
 |cons p r D=>
  rw[gj,iw];unfold xW;by_cases J:p.1=k
  ·rw[DE (by simpa using J)]
   clear D;subst J;simp
  ·rw[DD (by simpa using J)]
   have:(k==p.1)=false:=by rw(occs:=eO) [beq_eq_false_iff_ne];exactλe=>J e.symm
   rw[this];exact D
theorem Bp{y j:eP}{d:et}{P:List (Int×ed)}{i:Int}{u:ed}{Q:ed->AH->Prop}(C:H d=d9 (.e P))(R:P.lookup i=d9 u)(h:Q u H)
  (W:qX j):qZ c y j (ec d) (vi i) V H Q:=λE s v k S N z=>by
 obtain rfl:=gX N
 (refine ik z λt f=>?_;(clear z;obtain rfl:=f))
 refine S.b.g C λa L T=>?_
 (refine eR (Dj T R) λx r q=>?_;(clear R;obtain rfl:=q))
 exact xE L.typeIs Xo.lookup (Xv (tF _ _ _ _) L.mapOf r (eu H (S.g _) h)) (W _ _)
theorem qo{F:Array ed}{J:List ed}(h:F.toList.map nv=J)(f:J.length≤100000):F.size≤sizeLine:=by
 rw[ke h,nz];lia
theorem OL{x:ed}{J:List ed}{a:ed}(h:J.map nv=[a]):∃v,J=[v]∧nv v=a:=by
 cases J with
 |nil=>exact nL h
 |cons v r=>cases r with
  |nil=>simp at h;exact(eu v rfl h)
  |cons=>simp at h
theorem BJ{J:List ed}{a b:ed}(h:J.map nv=[a,b]):∃v u,J=[v,u]∧nv v=a∧nv u=b:=by
 (refine fT (DO.mp h) λv U O K g=>?_;(clear h;obtain rfl:=O))
 (refine fT (DO.mp g) λu U j I k=>?_;(clear g;obtain rfl:=j))
 obtain rfl:=nj.mp k;exact(fS v u rfl K I)
theorem Nd{l:et}{J:List ed}{v:ed}{Q:ed->AH->Prop}(C:H l=d9 (.a J))(f:J.length≤100000)(h:Q ez (eQ H l (.a (J++[v])))):
  TC c (iP "list.append") [ec l,v] V H Q:=λa s W S E=>by
 (refine fT (BJ E) λx y o Z O=>?_;(clear E;obtain rfl:=o);obtain rfl:=O)
 obtain rfl:=gX Z;refine S.b.e C λF n L T=>?_;refine append_at (hsz:=qo T f) L λu K I=>(eu _ (S.l (X:=.a (J++[nv y])) C K I (ib (F.push y) (n+1) rfl ?_)) h);simp[T]
theorem Nn{l:et}{J:List ed}{v:ed}{Q:ed->AH->Prop}(C:H l=d9 (.a (J++[v])))(f:J.length<100000)(h:Q v (eQ H l (.a J))):
  TC c (iP "list.pop") [ec l] V H Q:=by
 refine vb W' F.entry_list_pop λs x W S Z E=>?_;obtain rfl:=gX Z;obtain rfl:W=[]:=by simpa using E
 refine S.b.e C λa n L T=>?_;have r:=ke T;simp only[il,lF,Wo] at r;have B:∃y,a[a.size-1]? =d9 y∧nv y=v:=by
  apply GU T;rw[r];simp
 (refine eR B λy o I=>?_;(clear B;obtain rfl:=I))
 refine⟨(iU L).typeIs,F.args_list_pop_1 _,_,MeetsSeq.list_pop_last l a n y o (qo T (by simp;lia)),λA b=>⟨L,_,S.t C L ?_,h⟩⟩;rw[VU,dif_pos (by lia),VW,r];have O:a.toList=a.toList.take J.length++a.toList.drop J.length:=(tt _ _).symm;have m:(a.toList.take J.length).map nv=J:=by rw[Kn,T];simp
 have d:(a.toList.take J.length).length=J.length:=by rw[xw];simp;lia
 have M:(a.toList.drop J.length).length=1:=by rw[List.length_drop];simp;lia
 rw[O,List.eraseIdx_append_of_length_le (by rw[d];simp),lb,m,d];refine fL (DK.1 M) λz p=>?_;rw[p];simp
theorem Nh{l b:et}{J A:List ed}{Q:ed->AH->Prop}(C:H l=d9 (.a J))(j:H b=d9 (.a A))(f:J.length+A.length≤100000)(h:Q ez (eQ H l (.a (J++A)))):
  TC c (iP "list.extend") [ec l,ec b] V H Q:=by
 refine vb W7 F.entry_list_extend λs x W S Z E=>?_;obtain rfl:=gX Z
 (refine eR (OL (x:=ez) E) λy o B=>?_;(clear E;obtain rfl:=o))
 obtain rfl:=gX B;refine S.b.e C λa n L T=>?_;refine S.b.e j λO e d k=>?_;have I:=ke T;have w:=ke k;refine⟨(iU L).typeIs,F.args_list_extend_2 _ _,_,AutoSeq1.list_extend_list_list_0 l a n b O e ?_ ?_ ?_,λg i=>⟨L,d,_,S.t C L ?_,h⟩⟩
 ·have:KE (a.size+O.size)=false:=by
   unfold KE;rw[I,w];have:=nz;simp;lia
  rw[this];simp
 ·exact qo T (by lia)
 ·have K:a.size+O.size≤100000:=by rw[I,w];exact f
  exact im K (by rw[nz];lia)
 ·rw[J8,lb,T,k]
theorem Nj{l:et}{J:List ed}{i:Int}{v:ed}{Q:ed->AH->Prop}(C:H l=d9 (.a J))(w:0≤i)(K:i≤J.length)(f:J.length<100000)(h:Q ez (eQ H l (.a (J.take i.toNat++v::J.drop i.toNat)))):
  TC c (iP "list.insert") [ec l,vi i,v] V H Q:=by
 refine vb W9 F.entry_list_insert λs x W S Z E=>?_;obtain rfl:=gX Z
 (refine fT (BJ E) λy u O B Y=>?_;(clear E;obtain rfl:=O);obtain rfl:=Y)
 (refine ik B λt M=>?_;(clear B;obtain rfl:=M))
 refine S.b.e C λa n L T=>?_;have I:=ke T;refine⟨(iU L).typeIs,F.args_list_insert_3 _ _ _,_,AutoListH.list_insert_list_int_val_1 l a n i t u ?_ (qo T (by lia)),λA b=>⟨L,_,S.t C L ?_,h⟩⟩
 ·have:KD i=true:=by
   unfold KD;simp;lia
  rw[this];simp
 ·simp only[show¬i<0 by lia,if_false]
  rw[show min i.toNat a.size=i.toNat by lia];simp only[J8,Array.toList_push,Array.toList_extract,lb,ng,gj,uH];rw[←T];simp only[List.extract_eq_take_drop,List.drop_zero,Nat.sub_zero,←Kn,←Wt,AD,Kc,List.append_cancel_left_eq,uF,true_and,tj];rw[Ku (by simp)]
structure Lv(c:Cx)(n:Nat):Prop where
 b:c.b.depth+n≤900
 a:c.b.units+10*n+1000≤9900
theorem Lv.g{n m:Nat}(h:Lv c n)(Y:m≤n):Lv c m:=⟨by have:=h.b;lia,by have:=h.a;lia⟩
theorem Lv.e{n:Nat}(h:Lv c (n+1)){g:fH}{L:et}{B:iN}:Lv (iM c g L B) n:=
 ⟨by have:=h.b;show c.b.depth+1+n≤900;lia,by have:=h.a;show c.b.units+3+10*n+1000≤9900;lia⟩
theorem Lv.f{n:Nat}(h:Lv c n):c.b.depth<recursionLimit:=by have:=h.b;show c.b.depth<1000;lia
def Rd(H:AH)(a:ed)(d:mm):Prop:=∀(c:Cx) (h:fH),jP c H h->∀v,nv v=a->∃as,Reads h v d as
def p8(H:AH)(a:List ed)(d:List mm):Prop:=∀(c:Cx) (h:fH),jP c H h->∀v,v.map nv=a->∃as,ReadsAll h v d as
theorem Rd.e:Rd H ez .none:=λU U U v N=>wH N▸⟨_,.none⟩
theorem Rd.g(c:Bool):Rd H (fF c) (.bool c):=λU U U v N=>zC N▸⟨_,.bool c⟩
theorem Rd.d(i:Int):Rd H (ej i 0) (mn i):=λU U U v N=>let⟨t,c⟩ :=um N;c▸⟨_,.int i t⟩
theorem Rd.a{i:et}{J:List ed}{Z:List mm}(C:H i=d9 (.a J))(M:p8 H J Z):Rd H (ec i) (ty Z):=λc h R v N=>by
 refine R.e C λF n L T=>?_;refine fL (M c h R F.toList T) λas j=>?_;exact gX N▸⟨_,.list L rfl rfl j⟩
theorem Rd.f{i:et}{J:List ed}{Z:List mm}(C:H i=d9 (.f J))(M:p8 H J Z):Rd H (ec i) (xP Z):=λc h R v N=>by
 obtain⟨F,n,L,T⟩ :=R.l C;obtain⟨as,j⟩ :=M c h R F.toList T;exact gX N▸⟨_,.tuple L rfl rfl j⟩
theorem p8.a:p8 H [] []:=λU U U v N=>nj.mp N▸⟨_,.nil⟩
theorem p8.b{v:ed}{J:List ed}{d:mm}{Z:List mm}(K:Rd H v d)(I:p8 H J Z):p8 H (v::J) (d::Z):=λc h R u N=>by
 obtain⟨x,r,rfl,f,m⟩ :=DO.mp N;obtain⟨as,O⟩ :=K c h R x f;obtain⟨X,e⟩ :=I c h R r m;exact⟨_,.cons O e⟩
theorem Rd.b{h:fH}(R:jP c H h){i:ed}{j:mm}(k:Rd H i j):∀v,nv v=i->∃as,Reads h v j as:=k c h R
theorem ye:∀(X:List Int),p8 H (X.map vi) (X.map mn):=by
 intro G
 induction G with
 |nil=>
  exact .a
 |cons n r D=>
  exact .b (.d n) (D)
theorem yP:∀(X:List Int),D8 (X.map mn)=true:=by
 intro G
 induction G with
 |nil=>
  exact rfl
 |cons n r D=>
  show(PyData.canLay0 (mn n)&&D8 (r.map mn))=eb;rw[D];rfl
theorem B9:∀(X F:List Int),uS (X.map mn) (F.map mn)=eU (X=F)
 |[],[]=>by simp[uS]
 |[],_::_=>by simp[uS]
 |_::_,[]=>by simp[uS]
 |n::r,m::t=>by
  show(AQ (mn n) (mn m)&&uS (r.map mn) (t.map mn))=_;rw[B9 r t];show((n==m)&&_)=_;by_cases h:n=m<;>simp[h]
def jQ(c:Cx)(z:oN)(a b:ed)(V:eJ)(H:AH)(Q:Bool->AH->Prop):Prop:=
 ∀E s v u,St c V H s->nv v=a->nv u=b->fi c.g c.b (compareOp z v u) (λr P=>∃t M,r=fF t∧St c V M P∧Q t M) E s
theorem Nw{i j:Int}{Q:Bool->AH->Prop}(h:Q (eU (i=j)) H):jQ c fZ (vi i) (vi j) V H Q:=λE s v u S N R=>by
 (refine ik N λt O=>?_;(clear N;obtain rfl:=O));(refine ik R λD m=>?_;(clear R;obtain rfl:=m))
 refine cmp_ofEq (wpAny_eq_int (fS _ H rfl S ?_));rwa [show(i==j)=eU (i=j) from by by_cases e:i=j<;>simp[e]]
theorem NH{i j:Int}{Q:Bool->AH->Prop}(h:Q (eU (i≠j)) H):jQ c gd (vi i) (vi j) V H Q:=λE s v u S N R=>by
 (refine ik N λt d=>?_;(clear N;obtain rfl:=d));(refine ik R λD M=>?_;(clear R;obtain rfl:=M))
 refine IsLeap.wpAny_ne_int (fS _ H rfl S ?_);rwa [show(i !=j)=eU (i≠j) from by by_cases e:i=j<;>simp[e]]
theorem NG{i j:Int}{Q:Bool->AH->Prop}(h:Q (eU (i<j)) H):jQ c lj (vi i) (vi j) V H Q:=λE s v u S N R=>by
 (refine ik N λt P=>?_;(clear N;obtain rfl:=P));(refine ik R λD B=>?_;(clear R;obtain rfl:=B))
 exact wpAny_lt_int (fS _ H rfl S h)
theorem Nz{i j:Int}{Q:Bool->AH->Prop}(h:Q (eU (j<i)) H):jQ c lh (vi i) (vi j) V H Q:=λE s v u S N R=>by
 (refine ik N λt Z=>?_;(clear N;obtain rfl:=Z));(refine ik R λD m=>?_;(clear R;obtain rfl:=m))
 exact XM (fS _ H rfl S h)
theorem NF{i j:Int}{Q:Bool->AH->Prop}(h:Q (eU (i≤j)) H):jQ c .LtE (vi i) (vi j) V H Q:=λE s v u S N R=>by
 (refine ik N λt d=>?_;(clear N;obtain rfl:=d));(refine ik R λD Y=>?_;(clear R;obtain rfl:=Y))
 exact XN (fS _ H rfl S h)
theorem Ny{i j:Int}{Q:Bool->AH->Prop}(h:Q (eU (j≤i)) H):jQ c .GtE (vi i) (vi j) V H Q:=λE s v u S N R=>by
 (refine ik N λt f=>?_;(clear N;obtain rfl:=f));(refine ik R λD q=>?_;(clear R;obtain rfl:=q))
 exact XJ (fS _ H rfl S h)
theorem HX{v:ed}:(v==ez)=(nv v==ez):=by cases v<;>rfl
theorem NE{a:ed}{Q:Bool->AH->Prop}(h:Q (a==ez) H):jQ c .Is a ez V H Q:=λE s v u S N R=>by
 obtain rfl:=wH R;subst N;exact is_none_gen (fS _ H rfl S (by rw[HX];exact h))
theorem NC{a:ed}{Q:Bool->AH->Prop}(h:Q (!(a==ez)) H):jQ c uM a ez V H Q:=λE s v u S N R=>by
 obtain rfl:=wH R;subst N;exact isnot_none_gen (fS _ H rfl S (by rw[HX];exact h))
theorem E0{a b:ed}{O o:mm}{Q:Bool->AH->Prop}(z:Rd H a O)(L:Rd H b o)(M:O.canLay0=eb)(j:o.canLay0=eb)(R:c.b.units+min O.depth o.depth<9900)(h:Q (AQ O o) H):
  jQ c fZ a b V H Q:=λE s v u S N C=>by
 refine fL (z.b S.b v N) λas Z=>?_;refine fL (L.b S.b u C) λX y=>?_;exact SeqAt.compareEq_reads Z y M j R (fS _ H rfl S h)
theorem E1{a b:ed}{O o:mm}{Q:Bool->AH->Prop}(z:Rd H a O)(L:Rd H b o)(M:O.canLay0=eb)(j:o.canLay0=eb)(R:c.b.units+min O.depth o.depth<9900)(h:Q (!AQ O o) H):
  jQ c gd a b V H Q:=λE s v u S N C=>by
 refine fL (z.b S.b v N) λas Z=>?_;refine fL (L.b S.b u C) λX y=>?_;exact SeqAt.compareNe_reads Z y M j R (fS _ H rfl S h)
theorem Gm:∀(X:List Int),KQ (ty (X.map mn))≤2:=by
 intro X;have:∀X:List Int,D9 (X.map mn)≤1:=by
  intro X
  induction X with
  |nil=>simp[D9]
  |cons n r D=>simp only[gj,D9,KQ];lia
 have:=this X;simp only[KQ];lia
theorem Nx{a b:et}{X F:List Int}{Q:Bool->AH->Prop}{k:Nat}(C:Lv c k)(z:H a=d9 (.a (X.map vi)))(L:H b=d9 (.a (F.map vi)))(h:Q (eU (X=F)) H):jQ c fZ (ec a) (ec b) V H Q:=by
 refine E0 (.a z (ye X)) (.a L (ye F)) (yP X) (yP F) ?_ ?_
 ·have:=Gm X;have:=C.a;lia
 ·show Q (uS _ _) H
  rw[B9];exact h
theorem NI{a b:et}{X F:List Int}{Q:Bool->AH->Prop}{k:Nat}(C:Lv c k)(z:H a=d9 (.a (X.map vi)))(L:H b=d9 (.a (F.map vi)))(h:Q (eU (X≠F)) H):jQ c gd (ec a) (ec b) V H Q:=by
 refine E1 (.a z (ye X)) (.a L (ye F)) (yP X) (yP F) ?_ ?_
 ·have:=Gm X;have:=C.a;lia
 ·show Q (!uS _ _) H
  rw[B9];rwa [show(!eU (X=F))=eU (X≠F) from by by_cases e:X=F<;>simp[e]]
theorem NA{i:Int}{d:et}{P:List (Int×ed)}{Q:Bool->AH->Prop}(p:H d=d9 (.e P))(U:d≠mL)(h:Q (P.lookup i).isSome H):jQ c og (vi i) (ec d) V H Q:=λE s v u S N R=>by
 (refine ik N λt O=>?_;(clear N;obtain rfl:=O));obtain rfl:=gX R
 refine S.b.g p λa L T=>?_;exact wpAny_in_of (tF _ _ _ _) (beq_eq_false_iff_ne.mpr U) L.mapOf (fS _ H rfl (S.g _) (by rw[JX T];exact h))
theorem NJ{i:Int}{d:et}{P:List (Int×ed)}{Q:Bool->AH->Prop}(p:H d=d9 (.e P))(U:d≠mL)(h:Q (!(P.lookup i).isSome) H):jQ c xF (vi i) (ec d) V H Q:=λE s v u S N R=>by
 (refine ik N λt j=>?_;(clear N;obtain rfl:=j));obtain rfl:=gX R
 refine S.b.g p λa L T=>?_;exact wpAny_notIn_of (tF _ _ _ _) (beq_eq_false_iff_ne.mpr U) L.mapOf (fS _ H rfl (S.g _) (by rw[JX T];exact h))
theorem zc:∀{J:List ed} {X:List Int},J.map nv=X.map vi->DZ J X:=by
 intro J
 induction J with
 |nil=>
  intro X h;cases X with
  |nil=>exact .nil
  |cons=>exact nL h
 |cons v r D=>
  intro X h;cases X with
  |nil=>exact wF h
  |cons n t=>
   rw[gj,gj,uF] at h
   (refine ik h.1 λk o=>?_;obtain rfl:=o)
   exact .cons _ _ (D h.2)
theorem NB{i:Int}{l:et}{X:List Int}{Q:Bool->AH->Prop}(C:H l=d9 (.a (X.map vi)))(h:Q (eU (i∈X)) H):jQ c og (vi i) (ec l) V H Q:=λE s v u S N R=>by
 (refine ik N λt O=>?_;(clear N;obtain rfl:=O));obtain rfl:=gX R
 refine S.b.e C λF n L T=>?_;refine in_list_ints (vs:=F.toList) (ns:=X) (by simpa using iU L) (zc T) (fS _ H rfl S ?_);rwa [show X.any (·==i)=eU (i∈X) from by rw[As];simp[Ay]]
theorem M'{l r:eP}{z:oN}{d:fE}{Q:Bool->AH->Prop}(h:TE c l V H (λa Z=>TE c r V Z (λb T=>jQ c z a b V T Q)))(Y:KZ z r=em):
  TB c (D6 l [z] [r] d) V H Q:=λE s S=>by
 refine wpAny_isTrue_Compare1 (fc (h E s S) (λv P G=>?_) λU U x=>x) Y;refine eR G λM A F=>?_;refine fc (F E P A) (λu m F=>?_) λU U x=>x;refine eR F λR k q=>?_;refine fc (q E m v u k rfl rfl) (λr y q=>?_) λU U x=>x;obtain⟨t,K,rfl,I,q⟩ :=q;exact Lc (eu K I q)
theorem NO{l r:eP}{z:oN}{d:fE}{Q:ed->AH->Prop}(h:TE c l V H (λa Z=>TE c r V Z (λb T=>jQ c z a b V T (λt L=>Q (fF t) L))))(Y:KZ z r=em):
  TE c (D6 l [z] [r] d) V H Q:=λE s S=>by
 refine wpAny_Compare1 (fc (h E s S) (λv P G=>?_) λU U x=>x) Y;refine eR G λM A F=>?_;refine fc (F E P A) (λu m F=>?_) λU U x=>x;refine eR F λR k q=>?_;refine fc (q E m v u k rfl rfl) (λr y q=>?_) λU U x=>x;obtain⟨t,K,rfl,I,q⟩ :=q;exact(eu K I q)
theorem Na{x:eP}{d:fE}{Q:Bool->AH->Prop}(h:TB c x V H (λb M=>Q (!b) M)):TB c (xK .Not x d) V H Q:=λE s S=>
 wpAny_isTrue_Not (fc (h E s S) (λb P w=>eR w λM a b=>⟨M,a,b⟩) λU U x=>x)
def qc(c:Cx)(z:BoolOp)(w:List eP)(V:eJ)(H:AH)(Q:Bool->AH->Prop):Prop:=
 ∀E s,St c V H s->fi c.g c.b (allTrue z w c.a) (λv P=>∃M,St c V M P∧Q v M) E s
theorem ET{z:BoolOp}{w:List eP}{d:fE}{Q:Bool->AH->Prop}(h:qc c z w V H Q):TB c (D5 z w d) V H Q:=λE s S=>
 wpAny_isTrue_BoolOp (h E s S)
theorem M5{Q:Bool->AH->Prop}(h:Q eb H):qc c oM [] V H Q:=λE s S=>wpAny_allTrue_And_nil (eu H S h)
theorem M7{Q:Bool->AH->Prop}(h:Q em H):qc c jw [] V H Q:=λE s S=>wpAny_allTrue_Or_nil (eu H S h)
theorem M6{e:eP}{w:List eP}{Q:Bool->AH->Prop}(h:TB c e V H (λb M=>if b then qc c oM w V M Q else Q em M)):qc c oM (e::w) V H Q:=λE s S=>by
 refine wpAny_allTrue_And_cons (fc (h E s S) (λb P G=>?_) λU U x=>x);refine eR G λM A F=>?_;clear G;cases b
 ·exact(eu M A F)
 ·exact F E P A
theorem M8{e:eP}{w:List eP}{Q:Bool->AH->Prop}(h:TB c e V H (λb M=>if b then Q eb M else qc c jw w V M Q)):qc c jw (e::w) V H Q:=λE s S=>by
 refine wpAny_allTrue_Or_cons (fc (h E s S) (λb P G=>?_) λU U x=>x);refine eR G λM A F=>?_;clear G;cases b
 ·exact F E P A
 ·exact(eu M A F)
def PT(e:eP):Prop:=∀(B:iN) (O:Sem ed),xU e B O=(do let v←O;Ep e.pos;holding [v] (truthy v))
theorem Nb{e:eP}{Q:Bool->AH->Prop}(h:TE c e V H (λv M=>∃b,v=fF b∧Q b M))(J:PT e):TB c e V H Q:=λE s S=>by
 refine wpAny_isTrue_value (fc (h E s S) (λv P G=>?_) λU U x=>x) (J _ _);obtain⟨M,A,b,N,G⟩ :=G;obtain rfl:=zC N;exact Lc (eu M A G)
theorem NR{L B O:eP}{d:fE}{Q:ed->AH->Prop}(h:TB c L V H (λb M=>if b then TE c B V M Q else TE c O V M Q)):TE c (.IfExp L B O d) V H Q:=λE s S=>by
 refine wpAny_IfExp (fc (h E s S) (λb P G=>?_) λU U x=>x);refine eR G λM A F=>?_;clear G;cases b
 ·exact F E P A
 ·exact F E P A
theorem NK{x y:eP}{d:fE}{Q:ed->AH->Prop}(h:TE c x V H (λv M=>∃b,v=fF b∧if b then TE c y V M Q else Q (fF em) M)):TE c (D5 oM [x,y] d) V H Q:=λE s S=>by
 refine wpAny_And2 (fc (h E s S) (λv P G=>?_) λU U x=>x);obtain⟨M,A,b,N,G⟩ :=G;obtain rfl:=zC N;refine Lc ?_;clear N;cases b
 ·exact(eu M A G)
 ·exact G E P A
theorem E8{x:eP}{d:fE}{Q:ed->AH->Prop}(h:TE c x V H (λv M=>∃i,v=vi i∧Q (vi (-i)) M)):TE c (xK .USub x d) V H Q:=λE s S=>by
 refine wpAny_UnaryOp (fc (h E s S) (λv P G=>?_) λU U x=>x);obtain⟨M,A,i,N,G⟩ :=G;obtain⟨t,rfl⟩ :=um N;exact XS (eu M (A.g _) G)
def nH(c:Cx)(z:qG)(a b:ed)(V:eJ)(H:AH)(Q:ed->AH->Prop):Prop:=
 ∀E s v u,St c V H s->nv v=a->nv u=b->fi c.g c.b (binaryOp z v u) (λr P=>∃M,St c V M P∧Q (nv r) M) E s
theorem E2{l r:eP}{z:qG}{d:fE}{Q:ed->AH->Prop}(h:TE c l V H (λa Z=>TE c r V Z (λb T=>nH c z a b V T Q))):TE c (.BinOp l z r d) V H Q:=λE s S=>by
 refine wpAny_BinOp (fc (h E s S) (λv P G=>?_) λU U x=>x);refine eR G λM A F=>?_;refine fc (F E P A) (λu m F=>?_) λU U x=>x;refine eR F λR k q=>?_;exact q E m v u k rfl rfl
theorem Fd{i j:Int}{Q:ed->AH->Prop}(h:Q (vi (i+j)) H):nH c io (vi i) (vi j) V H Q:=λE s v u S N R=>by
 (refine ik N λt I=>?_;(clear N;obtain rfl:=I));(refine ik R λD o=>?_;(clear R;obtain rfl:=o))
 exact wpAny_add_int (eu H (S.g _) h)
theorem N8{i j:Int}{Q:ed->AH->Prop}(h:Q (vi (i-j)) H):nH c gS (vi i) (vi j) V H Q:=λE s v u S N R=>by
 (refine ik N λt O=>?_;(clear N;obtain rfl:=O));(refine ik R λD Y=>?_;(clear R;obtain rfl:=Y))
 exact XU (eu H (S.g _) h)
theorem N6{i j:Int}{Q:ed->AH->Prop}(Y:IntMulOk i j)(h:Q (vi (i*j)) H):nH c jb (vi i) (vi j) V H Q:=λE s v u S N R=>by
 (refine ik N λt M=>?_;(clear N;obtain rfl:=M));(refine ik R λD O=>?_;(clear R;obtain rfl:=O))
 exact XR (eu H (S.g _) h) Y
theorem N5{i j:Int}{Q:ed->AH->Prop}(w:j≠0)(h:Q (vi (i.fmod j)) H):nH c .Mod (vi i) (vi j) V H Q:=λE s v u S N R=>by
 (refine ik N λt y=>?_;(clear N;obtain rfl:=y));(refine ik R λD I=>?_;(clear R;obtain rfl:=I))
 exact XO w (eu H (S.g _) h)
theorem N4{i j:Int}{Q:ed->AH->Prop}(w:j≠0)(J:WY i j=em)(h:Q (vi (i.fdiv j)) H):nH c pN (vi i) (vi j) V H Q:=λE s v u S N R=>by
 (refine ik N λt L=>?_;(clear N;obtain rfl:=L));(refine ik R λD O=>?_;(clear R;obtain rfl:=O))
 exact XI w (eu H (S.g _) h) (eH J)
theorem Rq{i j:Int}(R:-(2^20)<j∧j<2^20):WY i j=false:=PyProof.noPylong_small (by omega)
theorem Ri{i j:Int}(R:-(2^40)<i∧i<2^40)(J:-(2^40)<j∧j<2^40):IntMulOk i j:=by mul_fits
theorem Ag(H:AH)(a:et)(o X:AO):eQ (eQ H a o) a X=eQ H a X:=by
 funext b;unfold eQ;by_cases j:b=a<;>simp[j]
theorem MV{L:eP}{B:List fG}{d:fE}{Q:gr->eJ->AH->Prop}(J:Nat->eJ->AH->Prop){n:Nat}(w:J n V H)
  (h:∀n V H,J n V H->TB c L V H (λb M=>if b then TS c B V M (λf l R=>match f with
   |fY|.cont=>∃m,m<n∧J m l R
   |.brk=>Q fY l R
   |iV v=>Q (iV v) l R) else Q fY V M)):T1 c (.While L B [] d) V H Q:=λE s S=>by
 refine wpAny_While (K1 rfl (λn s=>∃l M,St c l M s∧J n l M) (λn s O=>?_) n (ib V H S w));refine iH O λl M A D=>?_;show fi _ (c.b.under _) ((whileTurn L B [] c.a).onRaise (λx=>do tG x c.a;K9 x)) _ _ s;rw[Around.under_of_weight (c:=Code.whileLoop L B [] c.a) rfl];refine La ?_;unfold whileTurn;refine fv (fc (h n l M D _ s A) (λb P G=>?_) λU U x=>x);refine eR G λZ r F=>?_;cases b with
 |false=>
  have F:Q fY l Z:=F;exact fv (xY (iA (ib l Z r F)))
 |true=>
  refine fv (fc (F _ P r) (λf y F=>?_) λU U x=>x);refine iH F λj K I q=>?_;cases f with
  |next=>refine eR q λm Y a=>?_;exact iA ⟨rfl,m,Y,j,K,I,a⟩
  |cont=>refine eR q λm Y a=>?_;exact iA ⟨rfl,m,Y,j,K,I,a⟩
  |brk=>exact iA (ib j K I q)
  |ret v=>exact iA (ib j K I q)
structure pZ(prog:lI)(w:kS)(A:jZ)(target:eP)(names:List String)(it:ed)(n:Nat)(bind:Nat->eJ->eJ)(need:AH->Prop)(ks:List et)(P:Nat->List (et×fN)->Prop):Prop where
 e:∀i p,P i p->∀q∈p,q.1∈ks
 d:∀c2:Cx,c2.l=prog->c2.k=w->c2.b=A->∀i p ρ H E s,P i p->need H->St (gO c2 p) ρ H s->fi c2.g c2.b (pyIter it) (λit' s1=>it'=it∧St (gO c2 p) ρ H s1) E s
 b:∀c2:Cx,c2.l=prog->c2.k=w->c2.b=A->c2.d->(∀x∈names,c2.a.kindOf (eE x)=d9 ey)->(∀a∈ks,∀o,¬c2.j a o)->∀i p ρ H E s,i<n->P i p->need H->St (gO c2 p) ρ H s->
  fi c2.g c2.b (rO it) (λr s1=>∃v,r=d9 v∧fi c2.g c2.b (Em target it v) (λU s2=>fi c2.g c2.b (oh target c2.a v) (λU s3=>∃p',P (i+1) p'∧St (gO c2 p') (bind i ρ) H s3) E s2) E s1) E s
 c:∀c2:Cx,c2.l=prog->c2.k=w->c2.b=A->(∀a∈ks,∀o,¬c2.j a o)->∀p ρ H E s,P n p->need H->St (gO c2 p) ρ H s->fi c2.g c2.b (rO it) (λr s1=>r=eh∧St c2 ρ H s1) E s
def j6(c:Cx)(f e:eP)(Y:List String)(V:eJ)(H:AH)(Q:Nat->(Nat->eJ->eJ)->(AH->Prop)->AH->Prop):Prop:=
 ∀E s,St c V H s->fi c.g c.b (jc f c.a) (λx I=>fi c.g c.b (pyIter x) (λN w=>∃n g u C P p Z,pZ c.l c.k c.b e Y N n g u C P∧P 0 p∧(∀a∈C,(∀o,¬c.j a o)∧∃o,w.heap.get? a=d9 o)∧
  St (gO c p) V Z w∧u Z∧Q n g u Z) E I) E s
def Dh(Q:gr->eJ->AH->Prop)(P:eJ->AH->Prop):gr->eJ->AH->Prop:=λf V H=>match f with
 |fY|.cont=>P V H
 |.brk=>Q fY V H
 |iV v=>Q (iV v) V H
theorem j6.a{f e:eP}{Y:List String}{Q O:Nat->(Nat->eJ->eJ)->(AH->Prop)->AH->Prop}(h:j6 c f e Y V H Q)(k:∀{n b d Z},Q n b d Z->O n b d Z):j6 c f e Y V H O:=λE s S=>
 fc (h E s S) (λx I q=>fc q (λN w q=>by
  (refine lB q λn b d C R=>?_;refine mX R λP p Z r g X o=>?_;refine gY o λy L K=>?_)
  exact⟨n,b,d,C,P,p,Z,r,g,X,y,L,k K⟩) λU U x=>x) λU U x=>x
theorem rm{k i n:Nat}(h:k+i=n)(R:i<n):k-1<k∧k-1+(i+1)=n:=by omega
theorem GQ{k i n:Nat}(h:k+i=n)(R:¬i<n):i=n:=by omega
noncomputable def cg(c:Cx)(g:fH):Cx:={ c with f:=g }
theorem GP{t:Type}{f:t->fH}{W:t->Prop}{R:t->gr->eJ->AH->Prop}{E:ed->eZ->Prop}{s:eZ}{r:t}{e aa:eP}{Y:List String}{B:List fG}{aC:fE}(av:∀g,W g->(cg c (f g)).d)(h0:W r)
  (aw:∀{p V H s},St (gO c p) V H s->St (gO (cg c (f r)) p) V H s) (C:∀x∈Y,c.a.kindOf (eE x)=d9 ey)
  (ak:j6 c aa e Y V H (λn ac u Z=>∃J:Nat->eJ->AH->Prop,J 0 V Z∧(∀i V H,J i V H->u H)∧
   (∀g,W g->∀i l M p,i<n->J i l M->∀E s,St (gO (cg c (f g)) p) (ac i l) M s->fi c.g c.b (uW B c.a) (λX P=>∃o y I,W o∧St (gO (cg c (f o)) p) y I P∧Dh (R o) (J (i+1)) (nf X) y I) E s)∧
   (∀g l M,W g->J n l M->R g fY l M)))
  (N:∀v,pQ aa c.a v=f9 v) (hs:St c V H s):fi c.g c.b (exec (.For e aa B [] aC) c.a) (λX P=>∃g l M,W g∧St (cg c (f g)) l M P∧R g (nf X) l M) E s:=by
 refine wpAny_For (fc (ak E s hs) (λx j G=>fc G (λit aE G=>?_) λU U x=>x) λU U x=>x) N
 (refine lB G λn ac u ks g1=>?_;refine mX g1 λag p Z d hP au T=>?_;refine gY T λq aG g3=>?_;refine nR g3 λJ aq ae af aj=>?_)
 have m:∀a∈ks,∀aB,¬c.j a aB:=λa ha=>(au a ha).1;refine codeAny_forLoop_any (λk s=>∃g i l M p,W g∧k+i=n∧ag i p∧St (gO (cg c (f g)) p) l M s∧J i l M) (λk s O=>?_) n ⟨r,0,V,Z,p,h0,rfl,hP,aw q,aq⟩
 (refine uq O λg i l M p' z Q S g4=>?_;refine fe g4 λA D=>?_)
 by_cases L:i<n
 ·refine fc (d.b (cg c (f g)) rfl rfl rfl (av g z) C m i p' l M _ s L S (ae _ _ _ D) A) (λaD j G=>?_) λU U x=>x
  obtain⟨v,rfl,G⟩ :=G;refine fc G (λU aE G=>fc G (λU aF G=>?_) λU U x=>x) λU U x=>x;refine eR G λK w aA=>?_;refine fc (af g z i l M K L D _ aF aA) (λX aH G=>?_) λU U x=>x;refine qp G λo y I h b F=>?_;cases X with
  |next=>exact(eu (k-1) (rm Q L).1 ⟨o,(i+1),y,I,K,h,(rm Q L).2,w,b,F⟩)
  |cont=>exact(eu (k-1) (rm Q L).1 ⟨o,(i+1),y,I,K,h,(rm Q L).2,w,b,F⟩)
  |brk=>exact(mT o y I h (St.j (c:=cg c (f o)) b) F)
  |ret v=>exact(mT o y I h (St.j (c:=cg c (f o)) b) F)
 ·have hi:i=n:=GQ Q L
  clear g1 T g3 af O Q L;subst hi;refine fc (d.c (cg c (f g)) rfl rfl rfl m p' l M _ s S (ae _ _ _ D) A) (λaD j G=>?_) λU U x=>x
  (refine fe G λe5 az=>?_;(clear G;obtain rfl:=e5))
  exact xY (mT g l M z az (aj g l M z D))
theorem Ba{e f:eP}{Y:List String}{B:List fG}{d:fE}{Q:gr->eJ->AH->Prop}(O:c.d)(C:∀x∈Y,c.a.kindOf (eE x)=d9 ey)
  (h:j6 c f e Y V H (λn g u Z=>∃J:Nat->eJ->AH->Prop,J 0 V Z∧(∀i V H,J i V H->u H)∧
   (∀i l M p,i<n->J i l M->TS (gO c p) B (g i l) M (Dh Q (J (i+1))))∧(∀l M,J n l M->Q fY l M)))
  (N:∀v,pQ f c.a v=f9 v):T1 c (.For e f B [] d) V H Q:=λE s S=>by
 refine fc (GP (t:=Unit) (f:=λU=>c.f) (W:=λU=>True) (R:=λU=>Q) (r:=()) (λU U=>O) trivial (λh=>h) C (h.a λq=>?_) N S) (λX P q=>qp q λU l M U a b=>⟨l,M,a,b⟩) λU U x=>x;refine nR q λJ K I j y=>?_;exact lO J K I (λU U i l M p R D E s S=>fc (j i l M p R D E s S) (λX P q=>iH q λL A a b=>⟨(),L,A,trivial,a,b⟩) λU U x=>x) λU l M U=>y l M
def Ct(l N:et):Nat->List (et×fN)->Prop:=λi p=>∃o:fN,p=[(N,o)]∧o.cls=eK "list_iterator"∧o.data=fB #[ec l,ej i 0]
theorem sU{s:eZ}{l N:et}{i:Nat}{p:List (et×fN)}(h:Ct l N i p)(S:St (gO c p) V H s):s.heap.IsListIter N l i:=by
 (refine f5 h λo B K I=>?_;(clear h;obtain rfl:=B))
 exact(fQ o ((S.d N o (eH (by simp))).1) K I)
theorem SG{aa:lI}{w:kS}{A:jZ}{l N:et}{J:List ed}{x:String}{z:fE}(g:A.handled=eh):
  pZ aa w A (gk (eE x) z) [x] (ec N) J.length (λi V=>ic V x (J.getD i ez)) (λH=>H l=d9 (.a J)) [N] (Ct l N) where
 e:=by rintro i p ⟨o,rfl,_⟩ q G;simp at G;simp[G]
 d:=by
  rintro t rfl rfl rfl i p V H E s D W S;exact Xy (sU D S) ⟨rfl,S⟩
 b:=by
  rintro t rfl rfl rfl O C f i p V H E s R D W S;refine S.b.e W λF n L T=>?_;refine rq T (jF R) λy B h=>?_;refine XC (sU D S) (iU L) B λu a j=>?_;refine f5 a λX Q k k3=>?_;refine(eu y rfl (iA (tK ?_)))
  (refine f5 D λo Z K I=>?_;(clear D;obtain rfl:=Z))
  have r:St (gO t [(N,X)]) V H { s with heap:=u }:=S.f (A:=s.toks) (by simpa using f N (by simp)) (λb x v e=>(j.2 b (λq=>v (N,o) (by simp) q.symm)).trans e)
   (by intro q G;simp only[gR] at G;subst G;exact⟨Q,eH ⟨o,by simp⟩⟩)
  refine fc (oR (c:=gO t [(N,X)]) (Q:=λc M=>c=ic V x (J.getD i ez)∧M=H) O.k (C x (by simp)) ⟨rfl,rfl⟩ _ _ y r ?_) (λU ac G=>?_) λU U x=>x
  ·rw[h,lD,jF R];rfl
  ·(refine fT G λc M P m d=>?_;obtain rfl:=m;(clear W S r G;obtain rfl:=d))
   exact(eu _ (fQ X rfl k (by simpa using k3)) P)
 c:=by
  rintro t rfl rfl rfl f p V H E s D W S;refine S.b.e W λF n L T=>?_;have R:F[J.length]? =none:=by rw(occs:=eO) [Aq,ke T];exact ig _
  refine XA g (sU D S) (iU L) R λu j=>⟨rfl,?_⟩
  (refine f5 D λo Y K I=>?_;(clear D;obtain rfl:=Y))
  exact(S.f (v:=[]) (A:=s.toks) (by simpa using f N (by simp)) (λb x v e=>j b x (λq=>v (N,o) (by simp) q.symm) e) (by simp)).j
theorem Og{f:eP}{x:String}{z:fE}{Q:Nat->(Nat->eJ->eJ)->(AH->Prop)->AH->Prop}(g:c.b.handled=eh)
  (h:TE c f V H (λv Z=>∃l J,v=ec l∧Z l=d9 (.a J)∧Q J.length (λi V=>ic V x (J.getD i ez)) (λH=>H l=d9 (.a J)) Z)):
  j6 c f (gk (eE x) z) [x] V H Q:=λE s S=>by
 refine fc (h E s S) (λv j G=>?_) λU U x=>x;obtain⟨Z,m,l,J,N,C,G⟩ :=G;obtain rfl:=gX N;obtain⟨F,n,L,T⟩ :=m.b.i C;refine xZ (iU L) ?_;have R:j.heap.get? j.heap.objs.size=none:=ku (ig _);have K:=m.h R;obtain⟨W,q⟩ :=m.q (d:=j.heap.objs.size) (X:=.c { cls:=eK "list_iterator",data:=fB #[ec l,ej 0 0] }) (u:=j.heap.push _) (p:=j.toks) R
  (λb o e=>hY _ e) (jf _ rfl) rfl
 exact⟨_,_,_,([j.heap.objs.size]),_,([(j.heap.objs.size,_)]),Z,(SG g),(fQ _ rfl rfl rfl),(by simpa using⟨K.b,_,jf _ rfl⟩),(q.u W),C,G⟩
noncomputable def cc(c:Cx)(t:jG)(X:List (ft×et))(C:et)(m:ft->Option ed)(r:et->fN->Prop):Cx:=
 { c with a:=compEnvC t X C c.a,i:=d9 m,j:=r }
theorem Cx.d.m(O:c.d){t:jG}{X:List (ft×et)}{C:et}{m:ft->Option ed}{r:et->fN->Prop}(z:t.kind=jH):(cc c t X C m r).d:=
 ⟨O.f,O.a,O.d,O.e,O.g,O.h,z,O.i,O.j⟩
theorem St.K{s:eZ}{t:jG}{X:List (ft×et)}{C:et}{h:ft->Option ed}{r:et->fN->Prop}{w:eJ}(S:St (cc c t X C h r) w H s)(i:c.i=eh)(T:c.a.locals=c.h)(Y:j4 V h)
  {u:fH} (j:qE C s.heap u) {p:Nat}:St { c with j:=r } V H { s with heap:=u,toks:=p }:=by
 obtain⟨⟨m,F,A⟩,R,f,d,k⟩ :=S;obtain⟨rfl,O,I,g,y,J,N⟩ :m=h∧∃O,s.heap.Ns C O∧j4 w O∧C≠c.h∧c.f.get? C=eh∧H C=none:=A;refine⟨(eu m (F.change j y J) ?_),⟨λa x Z=>?_,R.b⟩,λa x Z=>?_,d,k⟩
 ·show(match c.i with
   |none=>c.a.locals=c.h∧j4 V m
   |some h=>m=h∧∃O,u.Ns c.a.locals O∧j4 V O∧c.a.locals≠c.h∧c.f.get? c.a.locals=eh∧H c.a.locals=eh)
  rw[i];exact⟨T,Y⟩
 ·refine R.d a x Z λl L b=>?_
  exact(eu l ((j.2 a (λe=>by rw[e,N] at Z;exact nS Z)).trans L) b)
 ·refine md (f a x Z) λQ E n v U=>?_
  exact⟨(j.2 a n).trans Q,E,by rw[T];exact E,v,U⟩
theorem St.M{s:eZ}{t:jG}{X:List (ft×et)}{C:et}{h:ft->Option ed}(S:St c V H s)(D:Fr c.f c.h s.heap h){u:fH}(w:s.heap.get? C=eh)
  (z:∀Y o,s.heap.get? Y=d9 o->u.get? Y=d9 o) {O:ft->Option ed} (W:u.Ns C O) {p:Nat}:St (cc c t X C h c.j) (λU=>eh) H { s with heap:=u,toks:=p }:=by
 have K:=S.h w;obtain⟨⟨m,F,A⟩,R,f,d,k⟩ :=S;refine⟨(fQ h (D.keeps z) rfl (wc O W ?_ K.f K.g K.d)),⟨λa x Z=>?_,R.b⟩,λa x Z=>?_,d,k⟩
 ·intro x b N;exact nS N
 ·refine R.d a x Z λl L T=>?_
  exact(eu l (z _ _ L) T)
 ·refine i8 (f a x Z) λQ E g v=>?_
  exact⟨z _ _ Q,E,λe=>K.b x ((show a=C from e)▸Z),v⟩
theorem St.y{s:eZ}{a:et}{o:fN}{k:AO}(S:St c V (eQ H a (.c o)) s)(D:OR c.l c.k k o):St c V (eQ H a k) s:=by
 refine S.b.d a _ (gA _ _ _) λl L T=>?_;obtain rfl:l=o:=T;have:=S.l (X:=k) (L:=l) (u:=s.heap) (g:=s.toks) (gA _ _ _) (AP _ _) L D;rwa [Ag] at this
theorem St.r{s:eZ}{f:et->fN->Prop}(S:St c V H s)(n:∀a o,f a o->c.j a o):St { c with j:=f } V H s:=by
 obtain⟨g,R,b,d,k⟩ :=S;exact⟨g,⟨R.f,R.b⟩,λa o h=>b a o (n a o h),d,k⟩
def TT(c:Cx)(a:List eP)(V:eJ)(H:AH)(Q:Bool->AH->Prop):Prop:=
 ∀E s,St c V H s->fi c.g c.b (uE a eb λd r=>if r=eb then do let W←xU d c.a (jc d c.a);f9 (rE W) else f9 (rE r)) (λb P=>∃M,St c V M P∧Q b M) E s
theorem Bq{Q:Bool->AH->Prop}(h:Q eb H):TT c [] V H Q:=λE s S=>wpAny_tests_nil (eu H S h)
theorem Om{d:eP}{Q:Bool->AH->Prop}(h:TB c d V H Q):TT c [d] V H Q:=λE s S=>wpAny_tests_one (h E s S)
theorem Pr{Y:lI}{w:kS}{A:jZ}{R:pO->eZ->Prop}{s:eZ}{T e f:eP}{a:List eP}{t:jG}{d:fE}{N z:ed}{B:iN}(I:Nat->eZ->Prop)
  (i:∀n s,I n s->∀E,fi (jI Y w) A (rO N) (λr j=>match r with
   |none=>R (kD fY) j
   |some v=>fi (jI Y w) A (Em e N v) (λU L=>fi (jI Y w) A (oh e B v) (λU K=>
     fi (jI Y w) A (uE a eb λc r=>if r=eb then do let W←xU c B (jc c B);f9 (rE W) else f9 (rE r)) (λW y=>
      if W=eb then fi (jI Y w) A (jc T B) (λx q=>
       fi (jI Y w) A (xS (iP "list.append") [z,x]) (λU l=>∃m,m<n∧I m l) E q) E y
      else∃m,m<n∧I m y) E K) E L) E j) E s)
  (n:Nat) (h:I n s):qJ (jI Y w) A (xG (pK T [⟨e,f,a,0⟩] t d) 0 N z B) R s:=by
 refine K1 rfl I (λn s O=>?_) n h;show fi _ A ((compTurn (pK T [⟨e,f,a,0⟩] t d) 0 N z B).onRaise (λx=>do tG x B;K9 x)) _ _ s;refine wpAny_noted ?_;rw(occs:=eO) [compTurn_list];refine fv (rQ (fv (fc (i n s O _) (λr j V=>?_) λU U u=>u)));cases r with
 |none=>exact iA V
 |some v=>
  refine fv (fc V (λU L g=>?_) λU U u=>u);refine fv (fc g (λU K k=>fv (fc k (λW y M=>?_) λU U u=>u)) λU U u=>u);cases W with
  |false=>exact iA ⟨rfl,M⟩
  |true=>exact fv (fv (fc M (λx q J=>fv (fc J (λU l b=>iA (iA ⟨rfl,b⟩)) λU U u=>u)) λU U u=>u))
structure Br{α:Type}(El:Cx->eJ->AH->List α->(List α->AH->Prop)->Prop)(c:Cx)(scope:jG)(cl:List (ft×et))(ifs:List eP)(n:Nat)(bind:Nat->eJ->eJ)(need:AH->Prop)(H1:AH)(J:Nat->List α->AH->Prop):Prop where
 a:J 0 [] H1
 e:∀i acc H,J i acc H->need H∧acc.length≤100000
 d:∀i acc H' C m fz ρc,i<n->J i acc H'->(cc c scope cl C m fz).d->TT (cc c scope cl C m fz) ifs (bind i ρc) H' (λb H2=>if b then El (cc c scope cl C m fz) (bind i ρc) H2 acc (J (i+1)) else J (i+1) acc H2)
theorem Gi{α:Type}{mk:List α->AO}{El:Cx->eJ->AH->List α->(List α->AH->Prop)->Prop}{W:fN}{k aA f:eP}{bF:Sem ed}{aY:et->iN->(eZ->Prop)->(ed->eZ->Prop)->eZ->Prop}
  {aT:List eP} {t:jG} {Y:List String} {X:List (ft×et)} {aF:ed->eZ->Prop} {aB:Option (ed->Sem Unit)} {E:ed->eZ->Prop} {s:eZ} {ps:fE} (bU:clausesOf k=[⟨aA,f,aT,0⟩]) (bY:W.isFreed=em)
  (bR:∀{R:ed->eZ->Prop} {E s},R (ec s.heap.objs.size) { s with heap:=s.heap.push W }->fi c.g c.b bF R E s) (bo:OR c.l c.k (mk []) W)
  (ci:∀{R:pO->eZ->Prop} {s N D B} (I:Nat->eZ->Prop),
   (∀n s,I n s->∀E,fi c.g c.b (rO N) (λaa j=>match aa with
    |none=>R (kD fY) j
    |some aW=>fi c.g c.b (Em aA N aW) (λU cE=>fi c.g c.b (oh aA B aW) (λU K=>
     fi c.g c.b (uE aT eb λc aa=>if aa=eb then do let ok←xU c B (jc c B);f9 (rE ok) else f9 (rE aa)) (λok y=>
      if ok=eb then aY D B (λs=>∃m,m<n∧I m s) E y else∃m,m<n∧I m y) E K) E cE) E j) E s)->
   ∀n,I n s->qJ c.g c.b (xG k 0 N (ec D) B) R s)
  (hX:∀{c2:Cx} {V H z ae D o R E s},c2.g=c.g->c2.b=c.b->St c2 V H s->El c2 V H z ae->z.length≤100000->OR c.l c.k (mk z) o->(∀V H s,St c2 V H s->s.heap.get? D=d9 o)->
   (∀au ac aq o' aj p,St c2 V ac aq->ae au ac->OR c.l c.k (mk au) o'->aj.get? D=d9 o'->qE D aq.heap aj->R { aq with heap:=aj,toks:=p })->aY D c2.a R E s)
  (cw:∀{R:pO->eZ->Prop} {s N z B},qJ c.g c.b (xG k 0 N z B) R s->fi c.g c.b (pyIter N) (λbB P=>qJ c.g c.b (xG k 0 bB z B) R P) (notedBy c.g c.b B λx P=>R (xo x) P) s->qJ c.g c.b (.compStart k 0 N z B) R s)
  (aE:c.d) (bg:c.i=eh)
  (bZ:∀x,pQ f c.a x=f9 x) (bW:rM t c.a=f9 X) (bV:∀aC∈t.names,aC.2≠fK) (A:t.kind=jH)
  (co:∀aC∈t.names,aC.2=ey->t.names.lookup aC.1=d9 ey) (hl:∀x∈Y,t.names.lookup (eE x)=d9 ey)
  (S:St c V H s) {ae:List α->AH->Prop}
  (bN:j6 c f aA Y V H (λn g bE H1=>∃J,Br El c t X aT n g bE H1 J∧∀z M,J n z M->ae z M))
  (bL:∀z M D C P,ae z M->M D=eh->(D==mL)=em->(∀u p,qE C P.heap u->St c V (eQ M D (mk z)) { P with heap:=u,toks:=p })->rU c (eQ M D (mk z)) C->(∃m,P.heap.Ns C m)->Ei c.g c.b E aB aF (ec D) C (kD fY) P):
  fi c.g c.b (xT k t c.a ps bF em (jc f c.a) aB) aF E s:=by
 refine wpAny_comprehension_free (use:=aB) bU bZ bW A co (fc (bN E s S) (λx j G=>fc G (λN K G=>?_) λU U x=>x) λU U x=>x)
 (refine lB G λn g bE ks g9=>?_;refine mX g9 λaX az H1 d hP bj aZ=>?_;refine gY aZ λaO cq ba=>?_;refine eR ba λJ cj bX=>?_)
 have cb:∀a∈ks,∀o,¬c.j a o:=λa ha=>(bj a ha).1
 --aV cF
 refine bR ?_;have af:K.heap.get? K.heap.objs.size=none:=ku (ig _);have aU:=aO.h af;have aK:(K.heap.objs.size==mL)=false:=let⟨_,aD,_⟩ :=aO.e;aD.notModules (modules_low aE.d.nolimit);refine aO.i (d:=K.heap.objs.size) (X:=.c W) (u:=K.heap.push W) (p:=K.toks) af
  (λb o e=>hY _ e) (jf _ bY) rfl λaI ag=>?_
 have aJ:K.heap.objs.size∉ks:=λq=>by
  refine Ib (bj _ q) λU o ho=>?_;rw[af] at ho;exact nS ho
 have aw:∀o,¬c.j K.heap.objs.size o:=λo q=>aU.b o (eI q);generalize K.heap.objs.size=D at aI ag aU af aJ aw aK ⊢;generalize K.heap.push W=r at ag ⊢
 --aV cG cI Y
 refine eR ag.e λh bP l=>?_;have l:(match c.i with
   |none=>c.a.locals=c.h∧j4 V h
   |some cD=>h=cD∧∃O,r.Ns c.a.locals O∧j4 V O∧c.a.locals≠c.h∧c.f.get? c.a.locals=eh∧(eQ H1 D (.c W)) c.a.locals=eh):=l
 rw[bg] at l;have aQ:=(ag.u aI);refine wpAny_newFunctionEnv bV (by simp) (λu bq bu=>?_) A;have aH:r.get? r.objs.size=none:=ku (ig _);have b9:∀b o,r.get? b=d9 o->u.get? b=d9 o:=λb o e=>
  (bu.2 b (λq=>by rw[q,aH] at e;exact nS e)).trans (hY _ e)
 have aR:=aQ.M (t:=t) (X:=X) (C:=r.objs.size) bP aH b9 bq (p:=K.toks);have bc:D≠r.objs.size:=λe=>by
  have:=(aQ.d D W (eH (by simp))).1;rw[e] at this;have this:r.get? r.objs.size=_:=this;rw[aH] at this;exact nS this
 generalize r.objs.size=C at bq bu aR bc ⊢;have hL:∀x∈Y,(compEnvC t X C c.a).kindOf (eE x)=d9 ey:=λx Z=>lookup_relabel_local (hl x Z)
 --aV cL cH aV cJ
 have bC:∀(P:eZ) w T p2 (o:fN),OR c.l c.k (mk []) o->aX 0 p2->J 0 [] T->St (gO (cc c t X C h λa x=>(a,x)∈[(D,o)]∨c.j a x) p2) w T P->
   qJ c.g c.b (xG k 0 N (ec D) (compEnvC t X C c.a)) (Ei c.g c.b E aB aF (ec D) C) P:=by
  intro P w T p2 o ho bS bQ bv;refine ci (λav s=>∃i z w M v o,av+i=n∧OR c.l c.k (mk z) o∧aX i v∧J i z M∧St (gO (cc c t X C h λa x=>(a,x)∈[(D,o)]∨c.j a x) v) w M s) (λav s hI E'=>?_) n ⟨0,([]),w,T,p2,o,rfl,ho,bS,bQ,bv⟩
  (refine lB hI λi z w M aG=>?_;refine oB aG λv o Q ho be aL aP=>?_)
  have bh:∀a∈ks,∀x,¬(cc c t X C h λa x=>(a,x)∈[(D,o)]∨c.j a x).j a x:=by
   rintro a ha x (Z|Z)
   ·clear aI aU af aw aK ag l aQ aR bc ho bv hI aG aP;clear l
    obtain⟨rfl,rfl⟩ :a=D∧x=o:=by simpa using Z
    exact aJ ha
   ·exact cb a ha x Z
  refine fe (cj.e _ _ _ aL) λbn cf=>?_;by_cases L:i<n
  ·refine fc (d.b (cc c t X C h λa x=>(a,x)∈[(D,o)]∨c.j a x) rfl rfl rfl (aE.m A) hL bh i v w M _ s L be bn aP) (λaa j G=>?_) λU U x=>x
   obtain⟨aW,rfl,G⟩ :=G;refine fc G (λU K G=>fc G (λU y G=>?_) λU U x=>x) λU U x=>x;refine eR G λak aM cy=>?_;refine fc (cj.d i z M C h (gO (cc c t X C h λa x=>(a,x)∈[(D,o)]∨c.j a x) ak).j w L aL (aE.m A) _ y cy) (λb cK G=>?_) λU U x=>x;refine eR G λbH bz F=>?_;cases b with
   |false=>exact(eu (av-1) (rm Q L).1 ⟨(i+1),z,_,bH,ak,o,(rm Q L).2,ho,aM,F,bz⟩)
   |true=>
    refine hX (c2:=gO (cc c t X C h λa x=>(a,x)∈[(D,o)]∨c.j a x) ak) rfl rfl bz F cf ho (λV H s S=>(S.d D o (eI (eH (by simp)))).1) λau ac aq bG aj p cz cu cr bM bI=>?_;refine(eu (av-1) (rm Q L).1 ⟨(i+1),au,(g i w),ac,ak,bG,(rm Q L).2,cr,aM,cu,?_⟩);have cB:St (gO { (cc c t X C h c.j) with j:=λa x=>(a,x)∈ak∨c.j a x } [(D,o)]) (g i w) ac aq:=by
     refine cz.r (f:=_) λa x Z=>?_;rcases Z with Z|Z|Z
     ·exact eI (eH Z)
     ·exact eH Z
     ·exact eI (eI Z)
    have cC:=cB.f (v:=[(D,bG)]) (u:=aj) (A:=p) (by
     intro q F x Z;simp only[gR] at F;subst F;rcases Z with Z|Z
     ·exact aJ (d.e _ _ aM _ Z)
     ·exact aw x Z) (λb x hb e=>(bI.2 b (λq=>hb (D,o) (by simp) q.symm)).trans e) (by
     intro q F;simp only[gR] at F;subst F;exact⟨bM,eH ⟨o,by simp⟩⟩)
    refine cC.r (f:=_) λa x Z=>?_;rcases Z with Z|Z|Z
    ·exact eI (eH Z)
    ·exact eH Z
    ·exact eI (eI Z)
  ·have hi:i=n:=GQ Q L
   clear g9 aZ ba cj hI aG Q L;subst hi;refine fc (d.c (cc c t X C h λa x=>(a,x)∈[(D,o)]∨c.j a x) rfl rfl rfl bh v w M _ s be bn aP) (λaa j G=>?_) λU U x=>x
   (refine fe G λbJ aS=>?_;(clear G;obtain rfl:=bJ))
   have bf:∀u p,qE C j.heap u->M D=eh∧St c V (eQ M D (mk z)) { j with heap:=u,toks:=p }:=λu p hb=>by
    have bT:St (gO c [(D,o)]) V M { j with heap:=u,toks:=p }:=aS.K bg l.1 l.2 hb;refine fe (bT.J aw) λt1 t2=>?_;exact⟨t1,t2.y ho⟩
   refine bL z M D C j (bX _ _ aL) (bf j.heap j.toks (AP _ _)).1 aK (λu p hb=>(bf u p hb).2) ?_ ?_
   ·obtain⟨⟨m,aD,_,O,h2,h3,h4,h5,h6⟩,_,bA,_⟩ :=aS
    have bO:D≠C:=(bA D o (eH (by simp))).2.2.1;exact⟨h4,by rw[l.1];exact h4,h5,(fw _ _ (gM bO)).trans h6,λx Z=>(bA C x (eI Z)).2.2.1 rfl⟩
   ·obtain⟨⟨m,aD,_,O,h2,h3,h4,h5⟩,_⟩ :=aS
    exact⟨O,h2⟩
 have bw:St (gO (cc c t X C h λa x=>(a,x)∈[(D,W)]∨c.j a x) az) (λU=>eh) H1 { K with heap:=u,toks:=K.toks }:=by
  refine aR.r (f:=_) λa x Z=>?_;rcases Z with Z|Z|Z
  ·exact eI (eH Z)
  ·exact eH Z
  ·exact eI (eI Z)
 refine cw (bC _ _ _ az _ bo hP cj.a bw) ?_;refine fc (d.d (cc c t X C h λa x=>(a,x)∈[(D,W)]∨c.j a x) rfl rfl rfl 0 az _ H1 _ _ hP cq bw) (λbB P G=>?_) λU U x=>x
 (refine fe G λbK cv=>?_;(clear G g9 d;clear G;obtain rfl:=bK))
 exact bC _ _ _ az _ bo hP cj.a cv
abbrev yu(c:Cx)(t:jG)(X:List (ft×et))(T:eP)(a:List eP):Nat->(Nat->eJ->eJ)->(AH->Prop)->AH->(Nat->List ed->AH->Prop)->Prop:=
 Br (λc V H z K=>TE c T V H λv L=>K (z++[v]) L) c t X a
theorem Gj{T e f:eP}{a:List eP}{t:jG}{d:fE}{Y:List String}{X:List (ft×et)}{Q:ed->eZ->Prop}{j:Option (ed->Sem Unit)}{E:ed->eZ->Prop}{s:eZ}{ps:fE}(O:c.d)(i:c.i=eh)
  (N:∀x,pQ f c.a x=f9 x) (ag:rM t c.a=f9 X) (L:∀y∈t.names,y.2≠fK) (A:t.kind=jH)
  (v:∀y∈t.names,y.2=ey->t.names.lookup y.1=d9 ey) (hl:∀x∈Y,t.names.lookup (eE x)=d9 ey)
  (S:St c V H s) {K:List ed->AH->Prop}
  (h:j6 c f e Y V H (λn g av Z=>∃J,yu c t X T a n g av Z J∧∀z M,J n z M->K z M))
  (ae:∀z M D C P,K z M->M D=eh->(D==mL)=em->(∀u p,qE C P.heap u->St c V (eQ M D (.a z)) { P with heap:=u,toks:=p })->rU c (eQ M D (.a z)) C->(∃au,P.heap.Ns C au)->Ei c.g c.b E j Q (ec D) C (kD fY) P):
  fi c.g c.b (xT (pK T [⟨e,f,a,0⟩] t d) t c.a ps (newList []) em (jc f c.a) j) Q E s:=
 Gi (mk:=.a) (W:={ cls:=eK "list",data:=kQ #[] }) (aY:=λD B R E s=>fi c.g c.b (jc T B) (λx q=>fi c.g c.b (xS (iP "list.append") [ec D,x]) (λU l=>R l) E q) E s) rfl rfl
  (λh=>A0 (T:="list") (data:=kQ #[]) (dict:=eh) h (by size_fits)) ⟨#[],0,rfl,rfl⟩ (λaa=>Pr aa)
  (λ{c2 V H z K D aw R E s} e1 m S G w ho gD k=>by
   refine iH ho λF kk aj I=>?_;clear ho;subst aj;rw[←e1,←m];refine fc (G E s S) (λb l ak=>?_) λU U x=>x;refine eR ak λr o aq=>?_;refine append_at (hsz:=qo I w) (gD _ _ _ o) λW ac af=>?_;exact k _ r l _ W l.toks o aq ⟨F.push b,kk+1,rfl,by simp[I]⟩ af ac)
  codeAny_compStart_list O i N ag L A v hl S h ae
theorem St.G{s:eZ}(S:St c V H s){C:et}(w:rU c H C){u:fH}(j:qE C s.heap u){p:Nat}:St c V H { s with heap:=u,toks:=p }:=by
 obtain⟨⟨m,F,Y⟩,R,f,d,k⟩ :=S;refine⟨(eu m (F.change j w.f w.g) ?_),⟨λa x Z=>?_,R.b⟩,λa x Z=>?_,d,k⟩
 ·cases i:c.i with
  |none=>rw[i] at Y;exact Y
  |some h=>
   rw[i] at Y;refine kB Y λK O I g=>?_;exact⟨K,O,I.sameBut j (gM w.e),g⟩
 ·refine R.d a x Z λl L T=>?_
  exact(eu l ((j.2 a (λe=>by rw[e,w.d] at Z;exact nS Z)).trans L) T)
 ·refine fe (f a x Z) λQ E=>?_
  exact⟨(j.2 a (λe=>w.b x (e▸Z))).trans Q,E⟩
theorem St.D{m:ft->Option ed}{s:eZ}(S:St c V H s)(i:c.i=eh):∃m,Fr c.f c.h s.heap m∧c.a.locals=c.h∧j4 V m:=by
 obtain⟨⟨m,F,Y⟩,_⟩ :=S;rw[i] at Y;exact(fQ m F Y.1 Y.2)
theorem E7{T e f:eP}{a:List eP}{t:jG}{d:fE}{Y:List String}{X:List (ft×et)}{Q:ed->AH->Prop}(O:c.d)(i:c.i=eh)
  (R:rM t c.a=f9 X) (C:∀x∈Y,t.names.lookup (eE x)=d9 ey)
  (h:j6 c f e Y V H (λn g o Z=>∃J,yu c t X T a n g o Z J∧∀z M,J n z M->∀D,M D=eh->Q (ec D) (eQ M D (.a z))))
  (N:∀x,pQ f c.a x=f9 x) (L:∀y∈t.names,y.2≠fK) (A:t.kind=jH)
  (l:∀y∈t.names,y.2=ey->t.names.lookup y.1=d9 ey):
  TE c (pK T [⟨e,f,a,0⟩] t d) V H Q:=λE s S=>by
 show fi c.g c.b (xT (pK T [⟨e,f,a,0⟩] t d) t c.a f.pos (newList []) em (jc f c.a) eh) _ _ _;refine Gj O i N R L A l C S (K:=λz M=>∀D,M D=eh->Q (ec D) (eQ M D (.a z))) h λz M D p P F b U j w I=>?_;refine fL I λm k=>?_;exact(eu m k (λu v=>(eu _ (j u P.toks v) (F D b))))
theorem MP{y:String}{q:fE}{T e f:eP}{a:List eP}{t:jG}{o d:fE}{Y:List String}{X:List (ft×et)}{Q:gr->eJ->AH->Prop}(O:c.d)(i:c.i=eh)
  (W:tJ (pK T [⟨e,f,a,0⟩] t o) (d9 (gk (eE y) q)) d.line c.a=f9 eb) (B:c.a.kindOf (eE y)=d9 ey)
  (R:rM t c.a=f9 X) (C:∀x∈Y,t.names.lookup (eE x)=d9 ey)
  (h:j6 c f e Y V H (λn g u Z=>∃J,yu c t X T a n g u Z J∧∀z M,J n z M->∀D,M D=eh->Q fY (ic V y (ec D)) (eQ M D (.a z))))
  (N:∀x,pQ f c.a x=f9 x) (L:∀y∈t.names,y.2≠fK) (ac:t.kind=jH)
  (v:∀y∈t.names,y.2=ey->t.names.lookup y.1=d9 ey):
  T1 c (lm [gk (eE y) q] (pK T [⟨e,f,a,0⟩] t o) d) V H Q:=λaj s S=>by
 rw[Xn _ _ _ _ W];refine fv (rQ (fv ?_));show fi _ _ (do let _←xT (pK T [⟨e,f,a,0⟩] t o) t c.a f.pos (newList []) em (jc f c.a) (d9 (oh (gk (eE y) q) c.a))) _ _ s;refine fv (fc (Gj O i N R L ac v C S (K:=λz M=>∀D,M D=eh->Q fY (ic V y (ec D)) (eQ M D (.a z))) (j:=d9 (oh (gk (eE y) q) c.a)) (Q:=λU P=>∃l M,St c l M P∧Q fY l M) h
  λz M D ag P F p U j w I=>?_) (λU P G=>iA (iA G)) λU U x=>x)
 refine fL I λm hm=>?_;have A:=j P.heap P.toks (AP _ _);refine f5 (A.D (m:=m) i) λE K hL ae=>?_;show fi _ _ (oh (gk (eE y) q) c.a (ec D)) _ _ _;have k:P.heap.Ns c.a.locals E:=by rw[hL];exact K.ns
 refine tK (Lb B k (λak af b=>?_) (by rw[O.b];rfl));have r:=A.A (x:=y) (v:=ec D) k ae af b (p:=P.toks+1);refine(eu m (hm.sameBut b w.e) (λaq aa=>(ib _ _ ?_ (F D p))));exact r.G w aa (p:=P.toks+1)
def rY(c:Cx)(e:eP)(v:ed)(V:eJ)(H:AH)(Q:eJ->AH->Prop):Prop:=
 ∀E s b,St c V H s->nv b=v->fi c.g c.b (oh e c.a b) (λU P=>∃l M,St c l M P∧Q l M) E s
theorem tP{x:String}{z:fE}{v:ed}{Q:eJ->AH->Prop}(h:TN c x v V H Q):rY c (gk (eE x) z) v V H Q:=λE s b S N=>
 tK (h E s b S N)
theorem M9{o:eP}{a:String}{p:fE}{v:ed}{Q:eJ->AH->Prop}(h:TE c o V H (λr T=>∃x,r=ec x∧qd c (ec x) a v V T (λL=>Q V L))):
  rY c (jL o (eE a) p) v V H Q:=λE s b S N=>by
 rw(occs:=eO) [assign_Attribute];refine fv (rP (fc (h E s S) (λr j G=>?_) λU U x=>x));obtain⟨Z,m,x,R,G⟩ :=G;obtain rfl:=gX R;refine fv (rQ (fv (rP (fc (G E j b m N) (λU K G=>?_) λU U x=>x))));refine eR G λT d F=>?_;exact wpAny_release (ib V T d F)
def oX(c:Cx):List eP->List ed->eJ->AH->(eJ->AH->Prop)->Prop
 |[],[],V,H,Q=>Q V H
 |t::a,v::J,V,H,Q=>rY c t v V H (λl M=>oX c a J l M Q)
 |_,_,_,_,_=>False
theorem ER:∀{a:List eP} {i:List ed} {V:eJ} {H:AH} {Q:eJ->AH->Prop} {E:ed->eZ->Prop} {s:eZ},iQ a=eb->oX c a (i.map nv) V H Q->St c V H s->
  fi c.g c.b (assignInOrder ((AY a c.a).map (·.2)) i) (λU P=>∃l M,St c l M P∧Q l M) E s:=by
 intro a
 induction a with
 |nil=>
  intro J V H Q E s U h S;cases J with
  |nil=>exact Xs (ib V H S h)
  |cons=>exact h.elim
 |cons t a D=>
  intro J V H Q E s W h S;cases J with
  |nil=>exact h.elim
  |cons v J=>
   rw[(tb W).2.2];refine Xr (fc (h E s v S rfl) (λU j G=>?_) λU U x=>x);refine iH G λZ y m F=>?_;exact D (tb W).1 F m
theorem yF{B:iN}{a:List eP}(h:iQ a=eb):(AY a B).length=a.length∧(AY a B).findIdx? (·.1)=none:=by
 induction a with
 |nil=>exact⟨rfl,rfl⟩
 |cons t r D=>
  refine fe (D (tb h).1) λK I=>?_;rw[(tb h).2.2,lF,K,List.findIdx?_cons,I];exact⟨rfl,rfl⟩
theorem Bc{O:List eP}{k:Nat}{d:fE}{a:et}{J:List ed}{Q:eJ->AH->Prop}(g:c.b.handled=eh)(M:H a=d9 (.f J))(w:J.length=O.length)(W:iQ O=eb)
  (h:oX c O J V H Q):rY c (iD O k d) (ec a) V H Q:=λE s f S N=>by
 obtain rfl:=gX N;refine S.b.j M λF n L T=>?_;refine Xu g (fQ _ L rfl ⟨n,rfl⟩) (by rw[(yF W).1,ke T,w]) (yF W).2 λu j=>?_;have A:St c V H { s with heap:=u,toks:=s.toks }:=S.k λb o e=>j b o (λq=>by
  have:=l8 e;rw[q] at this;exact absurd this (lg _)) e
 exact ER W (T▸h) A
theorem yj{O:List eP}{k:Nat}{z d:fE}{y:eP}{Q:gr->eJ->AH->Prop}
  (h:TE c y V H (λv M=>rY c (iD O k z) v V M (λl R=>Q fY l R)))
  (W:K8 [iD O k z] y d.line c.a=f9 em) (a:qK [iD O k z] y c.a=f9 eh):
  T1 c (lm [iD O k z] y d) V H Q:=λE s S=>by
 refine Assign_Tuple (fc (h E s S) (λv P G=>?_) λU U x=>x) W a;refine eR G λM A F=>?_;exact fc (F E P v A rfl) (λU K F=>F) λU U x=>x
def yC(c:Cx):List String->List ed->eJ->AH->(eJ->AH->Prop)->Prop
 |[],[],V,H,Q=>Q V H
 |x::z,v::J,V,H,Q=>TN c x v V H (λl M=>yC c z J l M Q)
 |_,_,_,_,_=>False
theorem N2:∀{z:List String} {i:List ed} {V:eJ} {H:AH} {Q:eJ->AH->Prop} {E:ed->eZ->Prop} {s:eZ},yC c z (i.map nv) V H Q->St c V H s->
  fi c.g c.b (assignInOrder (z.map λx=>bindName c.a (eE x)) i) (λU P=>∃l M,St c l M P∧Q l M) E s:=by
 intro z
 induction z with
 |nil=>
  intro J V H Q E s h S;cases J with
  |nil=>exact Xs (ib V H S h)
  |cons=>exact h.elim
 |cons t a D=>
  intro J V H Q E s h S;cases J with
  |nil=>exact h.elim
  |cons v J=>
   rw[gj];refine Xr (wpAny_bindName (fc (h E s v S rfl) (λU j G=>?_) λU U x=>x));refine iH G λZ y m F=>?_;exact D F m
theorem MQ{O:List eP}{k:Nat}{z d:fE}{y:eP}{Q:gr->eJ->AH->Prop}(Y:List String)(g:c.b.handled=eh)
  (h:TE c y V H (λv M=>∃a J,v=ec a∧M a=d9 (.f J)∧J.length=Y.length∧yC c Y.reverse J.reverse V M (λl R=>Q fY l R)))
  (W:K8 [iD O k z] y d.line c.a=f9 em) (i:qK [iD O k z] y c.a=f9 (d9 (Y.map eE))):
  T1 c (lm [iD O k z] y d) V H Q:=λE s S=>by
 refine Assign_Tuple_swapped (names:=Y.map eE) (fc (h E s S) (λv P G=>?_) λU U x=>x) W i;obtain⟨M,A,a,J,N,f,w,G⟩ :=G;obtain rfl:=gX N;obtain⟨F,n,L,T⟩ :=A.b.l f;rw[fC,←w,←ke T];refine unpackItems_tuple g (Cj L) λu j=>?_;have r:St c V M { P with heap:=u,toks:=P.toks }:=A.k λb o e=>j b o (λq=>by
  have:=l8 e;rw[q] at this;exact absurd this (lg _)) e
 rw[←nq,gJ];refine fc (N2 (z:=Y.reverse) (i:=F.toList.reverse) (V:=V) (H:=M) (Q:=λl R=>Q fY l R) ?_ r) (λU m G=>G) λU U x=>x;rw[nq,T];exact G
theorem EO{o i:eP}{p d:fE}{e:eP}{Q:gr->eJ->AH->Prop}
  (h:TE c e V H (λv Z=>TE c o V Z (λO T=>TE c i V T (λR L=>∀E s b X g,St c V L s->nv b=v->nv X=O->nv g=R->fi c.g c.b (Eo X g b) (λU P=>∃A,St c V A P∧Q fY V A) E s))))
  (W:tJ e (d9 (pL o i p)) d.line c.a=f9 em):T1 c (lm [pL o i p] e d) V H Q:=λE s S=>by
 refine wpAny_Assign_Subscript (fc (h E s S) (λv j G=>?_) λU U x=>x) W;refine eR G λZ m F=>?_;refine fc (F E j m) (λO K F=>?_) λU U x=>x;refine eR F λT r q=>?_;refine fc (q E K r) (λR y q=>?_) λU U x=>x;refine eR q λL I C=>?_;exact fc (C E y v O R I rfl rfl rfl) (λU k w=>eR w λA a f=>⟨V,A,a,f⟩) λU U x=>x
noncomputable def qu(P:List (Int×ed))(k:Int)(v:ed):List (Int×ed):=xV P k v
theorem IW(a:List (Int×ed))(k:Int)(v:ed):(xV a k v).map (λp=>(p.1,nv p.2))=xV (a.map λp=>(p.1,nv p.2)) k (nv v):=by
 unfold xV;simp only[Wb,J']
 split
 ·rw[gJ,gJ]
  refine kf λp U=>?_;simp only[J']
  split<;>rfl
 ·simp
theorem IC{d:et}{P:List (Int×ed)}{k:Int}{v:ed}{Q:AH->Prop}(p:H d=d9 (.e P))(f:P.length≤100000)(h:Q (eQ H d (.e (qu P k v)))):
  ∀E s b X g,St c V H s->nv b=v->nv X=ec d->nv g=vi k->fi c.g c.b (Eo X g b) (λU e=>∃A,St c V A e∧Q A) E s:=λE s b X g S N D R=>by
 obtain rfl:=gX D
 (refine ik R λt O=>?_;(clear R;obtain rfl:=O))
 refine S.b.g p λa L T=>?_;have C:a.length=P.length:=by rw[←T];simp
 refine wpAny_setItem_pairs (hsz:=by rw[C,nz];lia) (tF _ _ _ _) L λu Y j=>?_;refine eR (tu.mp Y) λo D J=>?_;refine(eu _ (S.l (X:=.e (qu P k v)) p j D (eu _ J ?_)) h);rw(occs:=eO) [IW,T,N];rfl
theorem IE{l:et}{J:List ed}{k:Int}{v:ed}{Q:AH->Prop}(C:H l=d9 (.a J))(w:0≤k)(K:k<J.length)(I:k<2^63)(h:Q (eQ H l (.a (J.set k.toNat v)))):
  ∀E s b X g,St c V H s->nv b=v->nv X=ec l->nv g=vi k->fi c.g c.b (Eo X g b) (λU P=>∃A,St c V A P∧Q A) E s:=λE s b X g S N D R=>by
 obtain rfl:=gX D
 (refine ik R λe m=>?_;(clear R;obtain rfl:=m))
 refine S.b.e C λF n L T=>?_;have t:s.TypeIs (ec l) "list":=(iU L).typeIs;unfold Eo;refine rP (fv (wpAny_sequenceKey t (by decide) ?_));refine fv (K' (name:=eE "__setitem__") t Xp
  (Et Xp t entry_list_setitem ?_ (args_list_setitem _ _ _)))
 show fi _ _ (XV (ej k e)>>=_) _ _ s;refine fv (wpAny_listSubscript_int (fitsIndex_of w I) ?_)
 (refine fL (Ka w) λj d=>?_;(clear w I;obtain rfl:=d))
 have a:j<F.size:=by rw[ke T];lia
 show fi _ _ ((seqItemAt l j>>=λr=>f9 (r.map (j,·)))>>=_) _ _ s;refine fv (fv (wpAny_seqItemAt L rfl (iA ?_)));rw[Ds a];show fi _ _ (setSeqItemAt l j b>>=_) _ _ s;refine fv (wpAny_setSeqItemAt L rfl ?_);refine iA (eu _ rfl ?_);refine iA (eu _ (S.t (i:=J.set j v) C L ?_) h);rw[Array.toList_setIfInBounds,Wv,T,N]
end
section
section
open PySem.F
theorem UZ(a b c:ed):checkTypeCall "zip" ⟨[a,b,c],[]⟩ =f9 ():=by kernel_rfl
theorem Ro(a b c:ed):checkBuiltinCall "zip.__new__" ⟨[eK "zip",a,b,c],[]⟩ =f9 ():=by kernel_rfl
theorem OM(a b c d:ed):argsOk "object.__init__" ⟨[a,b,c,d],[]⟩ :=by
 unfold argsOk;rw[signature?_of (id:="object.__init__") (n:=['_','_','t','i','n','i','_','_']) (o:=['t','c','e','j','b','o']) (by kernel_rfl) owner_object];kernel_rfl
end
variable{c:Cx}{V:eJ}{H:AH}
theorem sJ:(eK "list_iterator"≠eK "tuple"∧eK "list"≠eK "tuple")∧eK "list"≠eK "list_iterator":=by decide
theorem gV{L:Type}{p:L->Prop}{a:L}{l:List L}(h:p a)(t:∀x∈l,p x):∀x∈a::l,p x:=List.forall_mem_cons.mpr ⟨h,t⟩
theorem lY{L:Type}{p:L->Prop}:∀x∈([]:List L),p x:=λU h=>absurd h iI
theorem GS{J:List ed}{i:Nat}(h:i<J.length):J.getD i ez=J[i]:=by
 rw[lD,jF h];rfl
structure jO where
 a:et
 c:et
 b:List ed
noncomputable def kC(J:List ed):Obj:={ cls:=eK "tuple",data:=kQ J.toArray }
structure tV(h:fH)(n:Nat)(q:jO):Prop where
 a:h.IsListIter q.a q.c n
 b:∃its,h.IsList q.c its∧its.toList.map nv=q.b
theorem ly{h:fH}{a b:et}{o X:fN}(K:h.get? a=d9 o)(I:h.get? b=d9 X)(c:o.cls≠X.cls):a≠b:=λe=>c (by rw[e,I] at K;rw[eX K])
theorem tV.d{h u:fH}{n:Nat}{q:jO}(x:tV h n q)(R:∀o,h.get? q.a=d9 o->o.cls=eK "list_iterator"->u.get? q.a=d9 o)(C:∀o,h.get? q.c=d9 o->o.cls=eK "list"->u.get? q.c=d9 o):tV u n q:=
 let⟨o,K,I,g⟩ :=x.a;let⟨F,⟨X,l,k,s⟩,M⟩ :=x.b;⟨⟨o,R o K I,I,g⟩,F,⟨X,C X l k,k,s⟩,M⟩
section
variable{M:Model}{A:jZ}{E:ed->eZ->Prop}{s:eZ}
theorem VT{j:Type}{f:ed×Nat->j->Sem (ForInStep j)}{W:j}{B:et}{n:Nat}{Q:j->eZ->Prop}
  (i:∀{q:jO} {k:Nat} {aa p:List ed} {y:ed} {s:eZ} {ac:j->eZ->Prop},tV s.heap n q->n<q.b.length->s.heap.get? B=d9 (kC (aa++y::p))->aa.length=k->(aa++y::p).length≤9->
   (∀u x,nv x=q.b.getD n ez->u.objs.size=s.heap.objs.size->u.get? B=d9 (kC (aa++x::p))->u.IsListIter q.a q.c (n+1)->(∀c o,c≠B->c≠q.a->s.heap.get? c=d9 o->u.get? c=d9 o)->ac W { s with heap:=u })->
   fi M A (f (ec q.a,k) W) (λr P=>∃b,r=rE b∧ac b P) E s):
  ∀{L:List jO} {aa p:List ed} {s:eZ},p.length=L.length->(aa++p).length≤9->s.heap.get? B=d9 (kC (aa++p))->(∀q∈L,tV s.heap n q∧n<q.b.length)->(L.map (·.a)).Nodup->
   (∀u J,J.map nv=L.map (λq=>q.b.getD n ez)->u.objs.size=s.heap.objs.size->u.get? B=d9 (kC (aa++J))->(∀q∈L,u.IsListIter q.a q.c (n+1))->(∀c o,c≠B->c∉L.map (·.a)->s.heap.get? c=d9 o->u.get? c=d9 o)->Q W { s with heap:=u })->
   fi M A (uE ((L.map λq=>ec q.a).zipIdx aa.length) W f) Q E s:=by
 intro L
 induction L with
 |nil=>
  intro aa p s C _ t _ _ G;cases p with
  |nil=>exact iA (G s.heap [] rfl rfl t (λU h=>absurd h iI) λU U U U e=>e)
  |cons=>exact rz C
 |cons q L D=>
  intro aa p s C Y t T V G;cases p with
  |nil=>exact nZ C
  |cons y p=>
   refine qm V λw aq=>?_;refine fe (T q (gL _)) λO v=>?_;rw(occs:=eO) [gj,WF,Ki];refine fv (fc (i (ac:=λb H=>fi M A (uE ((L.map λq=>ec q.a).zipIdx (aa.length+1)) b f) Q E H) O v t rfl Y λu x Z S g af z=>?_) (λr H R=>?_) λU U x=>x)
   ·have e:aa++x::p=(aa++[x])++p:=by rw(occs:=eO) [ng];rfl
    have m:aa.length+1=(aa++[x]).length:=by rw[il];rfl
    rw[m];refine D (ny C) (by rw[←e,il];rw[il] at Y;exact Y) (e▸g) (λr R=>?_) aq λak J N aj ae ag a=>?_
    ·refine fe (T r (gu _ R)) λd b2=>?_
     refine f5 O.a λoi X F U=>?_;exact⟨d.d (λo K I=>z _ _ (ly K t (I▸sJ.1.1)) (λe=>w (mj.mpr (eu r R e))) K) (λo K I=>z _ _ (ly K t (I▸sJ.1.2)) (ly K X (by rw[I,F];exact sJ.2)) K),b2⟩
    ·refine G ak (x::J) (by rw(occs:=eO) [gj,gj,Z,N]) (aj.trans S) (by rw(occs:=eO) [ae,ng];rfl) (λr R=>?_) λc o K I h3=>a _ _ K (λq=>I (gu _ q)) (z _ _ K (λq=>I (q▸gL _)) h3)
     clear T V G C O v Z z;rcases gy.mp R with rfl|R
     ·refine f5 af λo X F l=>?_
      exact(fQ o (a _ _ (ly X g (F▸sJ.1.1)) w X) F l)
     ·exact ag r R
   ·obtain⟨b,rfl,R⟩ :=R
    exact R
end
section
variable{Y:lI}{w:kS}{A:jZ}{E:ed->eZ->Prop}{s:eZ}
theorem T6{H p:List ed}{x y:ed}:(H++y::p).toArray.setIfInBounds H.length x=(H++x::p).toArray:=by
 rw(occs:=eO) [List.setIfInBounds_toArray,List.set_append_right _ _ (ig _),WR];rfl
structure BH(h:fH)(z TI TO:et)(L:List jO)(n:Nat):Prop where
 a:pM h z TI TO ez
 c:h.get? TI=d9 (kC (L.map λq=>ec q.a))
 e:∃vs,h.get? TO=d9 (kC vs)∧vs.length=L.length
 b:∀q∈L,tV h n q
 g:(L.map (·.a)).Nodup
 j:TI≠TO
 d:L≠[]
 f:L.length≤9
theorem pE:(eK "zip"≠eK "tuple"∧eK "list_iterator"≠eK "zip")∧eK "list"≠eK "zip":=by decide
theorem VS{z P B:et}{L:List jO}{n:Nat}{Q:ed->eZ->Prop}(hh:A.handled=eh)(Z:BH s.heap z P B L n)(W:(∀q∈L,n<q.b.length)∨∀q∈L,q.b.length=n)
  (hE:(∀q∈L,q.b.length=n)->∀u e,(∀c o,c≠z->c≠B->c∉L.map (·.a)->s.heap.get? c=d9 o->u.get? c=d9 o)->(∃o,u.get? e=d9 o∧o.cls=eK "StopIteration")->E (ec e) { s with heap:=u })
  (hQ:(∀q∈L,n<q.b.length)->∀u J,J.map nv=L.map (λq=>q.b.getD n ez)->pM u z P B (kT s.heap.objs.size)->u.get? B=d9 (kC J)->(∀q∈L,u.IsListIter q.a q.c (n+1))->u.get? s.heap.objs.size=d9 (kC J)->
   (∀c o,c≠z->c≠B->c∉L.map (·.a)->s.heap.get? c=d9 o->u.get? c=d9 o)->Q (ec s.heap.objs.size) { s with heap:=u }):
  fi (jI Y w) A (Builtin.«zip.__next__» ⟨[ec z],[]⟩) (λaA s'=>∃aw,aA=.done (iV aw)∧Q aw s') E s:=by
 refine eR Z.e λaO af V=>?_;have f:=Z.a;show fi _ _ (field (ec z) 2>>=_) _ _ _;refine fv (pS f rfl (x:=fF em) rfl ?_);show fi _ _ (field (ec z) 3>>=_) _ _ _;refine fv (pS f rfl (x:=ec P) rfl ?_);refine fv (Ew Z.c rfl ?_);have he:(pH (λq:jO=>ec q.a) L).toArray.isEmpty=false:=by
  cases L with
  |nil=>exact absurd rfl Z.d
  |cons=>rfl
 show fi _ _ (if(pH (λq:jO=>ec q.a) L).toArray.isEmpty=eb then _ else _) _ _ _;rw[if_neg (by rw[he];exactλaB=>nB aB)];show fi _ _ (WX (ec z)>>=_) _ _ _;refine fv ?_;unfold WX;refine fv (pS f rfl (x:=ez) rfl (iA ?_));show fi _ _ (rule _>>=_) _ _ _;refine fv (wpAny_rule ?_);refine fv (pS f rfl (x:=ec B) rfl ?_);refine fv (Ez f (by show 0<5;decide) λaJ aa m=>?_);replace aa:pM aJ z P B Eb:=aa;have h:B≠z:=ly af f (gM pE.1.1);rcases W with W|W
 rotate_left
 ·(refine uo (List.exists_cons_of_ne_nil Z.d) λq L e1=>?_;(clear hQ V he;obtain rfl:=e1))
  have q1:=Z.b q (gL _);refine eR q1.b λaL g1 T=>?_;refine f5 q1.a λoi X F l=>?_;refine f5 g1 λol S D b=>?_;have y:=ly X f (F▸pE.1.2);have nl:=ly S f (D▸pE.2);show fi _ _ (uE (List.zipIdx (ec q.a::pH (λq:jO=>ec q.a) L) 0) _ _>>=_) _ _ _;rw(occs:=eO) [WF,Ki];refine fv (fv (fv (La ?_)));show fi _ _ (WV (ec q.a)>>=_) _ _ _;refine fv (wpAny_nextOf_list_end hh (fQ oi (m.extBut _ _ y X) F l) (fQ ol (m.extBut _ _ nl S) D b) (by rw(occs:=eO) [Aq,ke T,W q (gL _)];exact ig _) λk e r he=>?_);refine eR he λoe ac ag=>?_;have g:pM k z P B Eb:=r _ _ (gM y) aa;have aE:e≠z:=λx=>by(clear f m aa h Z hE y nl;subst x);rw[g] at ac;obtain rfl:=eX ac;exact absurd (Value.type.inj ag) (by decide)
  refine Ez g (by show 0<5;decide) λM U I=>hE W M e (λc o i U R x=>I.extBut _ _ i (r _ _ (λe=>R (e▸gL _)) (m.extBut _ _ i x))) (eu oe (I.extBut _ _ aE ac) ag)
 refine fv (VT (B:=B) (n:=n) (aa:=[]) (p:=aO) (λ{q aM H p aQ s aR} O v a3 a4 am a5=>?_) V (V▸Z.f) (m.extBut _ _ h af) (λq G=>⟨(Z.b q G).d (λo K h2=>m.extBut _ _ (ly K f (h2▸pE.1.2)) K) λo K h2=>m.extBut _ _ (ly K f (h2▸pE.2)) K,W q G⟩) Z.g λk J hv r j aF a=>?_)
 ·refine eR O.b λaL g1 T=>?_
  refine rq T (jF v) λx hx aH=>?_;refine fv (La ?_);show fi _ _ (WV (ec q.a)>>=_) _ _ _;refine fv (wpAny_nextOf_list_item O.a g1 hx λk aC r=>iA ?_);refine f5 O.a λoi X F U=>?_;have y:B≠q.a:=gM (ly X a3 (F▸sJ.1.1));have j:k.get? B=d9 (kC (H++aQ::p)):=r.extBut _ _ y a3;refine fv (Ew j rfl ?_);refine fv (wpAny_updateSeq j rfl ?_ ?_ ?_)
  ·generalize aj:k.update B (KP λaz=>az.setIfInBounds aM x)=M
   have I:qE B k M:=aj▸KN ..;have aD:M.get? B=d9 (kC (H++x::p)):=by
    rw[←aj,xN _ j rfl,←a4];unfold kC KP;dsimp only;rw[T6,if_pos (by rw[AF,AF,il,il];exact beq_self_eq_true _)]
   refine fv (wpAny_letGo (iA (eu _ rfl ?_)));refine f5 aC λo S D b=>?_;exact a5 M x (by rw[aH,GS v]) (I.1.trans r.1) aD (fQ o (I.extBut _ _ (gM y) S) D b) λc o i t e=>I.extBut _ _ i (r.extBut _ _ t e)
  ·rw[AF];exact im am (by decide)
  ·rw[Array.size_setIfInBounds,AF];exact im am (by decide)
 ·refine fv (Ew j rfl ?_)
  have aG:J.length≤sizeLine:=by
   have:=congrArg qz hv;rw[fC,fC] at this;rw[this];exact im Z.f (by decide)
  refine fv (wpAny_newTuple ?_ aG);have aq:k.objs.size=s.heap.objs.size:=r.trans m.1;refine fL (Kf _ Z.d) λq0 aS=>?_;have zi:z∉L.map (·.a):=λq=>by
   refine fP q λaP hr e=>?_;refine f5 ((Z.b aP hr).a) λo X F U=>?_;exact ly X f (F▸pE.1.2) e
  have g:pM k z P B Eb:=a _ _ (gM h) zi aa;have av:z<k.objs.size:=tv g;show fi _ _ (WW (ec z) (ec k.objs.size)>>=_) _ _ _;refine fv ?_;unfold WW;have aI:pM (k.push { cls:=eK "tuple",data:=kQ J.toArray }) z P B Eb:=hY _ g;refine fv (Ez aI (by show 0<5;decide) λaK ae au=>?_);replace ae:pM aK z P B (kT k.objs.size):=ae;refine Ez ae (by show 1<5;decide) λd N ak=>?_;replace N:pM d z P B (kT k.objs.size):=N;have C:∀c o,c≠z->k.get? c=d9 o->d.get? c=d9 o:=λc o i e=>ak.extBut _ _ i (au.extBut _ _ i (hY _ e));have hT:d.get? k.objs.size=d9 (kC J):=ak.extBut _ _ (uK av) (au.extBut _ _ (uK av) (jf _ rfl));rw[aq] at N hT;refine iA (eu _ rfl ?_);show Q (ec k.objs.size) _;rw[aq];refine hQ W d J hv N (C _ _ h j) (λq G=>?_) hT λc o i t R e=>C _ _ i (a _ _ t R (m.extBut _ _ i e));refine f5 (aF q G) λo X F l=>?_;exact(fQ o (C _ _ (ly X g (F▸pE.1.2)) X) F l)
theorem Im{z P B:et}{L:List jO}{n:Nat}{Q:Option ed->eZ->Prop}(g:A.handled=eh)(Z:BH s.heap z P B L n)(W:(∀q∈L,n<q.b.length)∨∀q∈L,q.b.length=n)
  (b:(∀q∈L,q.b.length=n)->∀u,(∀c o,c≠z->c≠B->c∉L.map (·.a)->s.heap.get? c=d9 o->u.get? c=d9 o)->Q eh { s with heap:=u })
  (C:(∀q∈L,n<q.b.length)->∀u J,J.map nv=L.map (λq=>q.b.getD n ez)->pM u z P B (kT s.heap.objs.size)->u.get? B=d9 (kC J)->(∀q∈L,u.IsListIter q.a q.c (n+1))->u.get? s.heap.objs.size=d9 (kC J)->
   (∀c o,c≠z->c≠B->c∉L.map (·.a)->s.heap.get? c=d9 o->u.get? c=d9 o)->Q (d9 (ec s.heap.objs.size)) { s with heap:=u }):fi (jI Y w) A (rO (ec z)) Q E s:=by
 have t:s.TypeIs (ec z) "zip":=(eu _ Z.a rfl);unfold rO;refine fv (wpAny_attempt (K' (name:=eE "__next__") t Xb
  (Et Xb t F.entry_zip_next (VS g Z W (λK u e f d=>?_) λK u J O v a r l j=>iA (C K u J O v a r l j)) (F.args_zip_next_1 _))))
 refine eR d λo D X=>?_;refine fv (Xw (T:="StopIteration") (b:=eb) (eu o D X) isSubtype_stop ?_);exact iA (b K _ f)
end
noncomputable def Dq(P B:et)(O:ed):Obj:={ cls:=eK "zip",dict:=eh,data:=fB #[O,fF em,fF em,ec P,ec B],slots:=#[] }
def ze(o:fN)(l:et)(i:Nat):Prop:=o.cls=eK "list_iterator"∧o.data=fB #[ec l,ej i 0]
theorem M4{x y:String}{z q:fE}{u v:ed}{Q:eJ->AH->Prop}(O:c.d)(Z:c.a.kindOf (eE x)=d9 ey)(B:c.a.kindOf (eE y)=d9 ey)
  (h:Q (ic (ic V x u) y v) H):oX c [gk (eE x) z,gk (eE y) q] [u,v] V H Q:=
 tP (oR O Z (tP (oR O B h)))
noncomputable def mD(V:eJ):List String->List ed->eJ
 |x::z,u::A=>mD (ic V x u) z A
 |_,_=>V
def zL(z P B:et)(L:List jO)(l:List ed)(g:et->fN):List (et×fN):=(z,Dq P B ez)::(P,kC (L.map λq=>ec q.a))::(B,kC l)::L.map λq=>(q.a,g q.a)
structure BE(TI TO:et)(L:List jO):Prop where
 d:(L.map (·.a)).Nodup
 b:TI≠TO
 a:L≠[]
 c:L.length≤9
structure ZP(z TI TO:et)(L:List jO)(i:Nat)(p:List (et×fN))(kept:List ed)(g:et->fN):Prop where
 a:p=zL z TI TO L kept g
 c:kept.length=L.length
 f:∀q∈L,ze (g q.a) q.c i
theorem J5{z P B:et}{L:List jO}{l:List ed}{g:et->fN}{R:et->Prop}(K:R z)(I:R P)(a:R B)(y:∀q∈L,R q.a):∀x∈zL z P B L l g,R x.1:=
 gV K (gV I (gV a λx h=>fP h λq G e=>e▸y q G))
theorem ZP.d{z P B:et}{L:List jO}{i:Nat}{p:List (et×fN)}{l:List ed}{g:et->fN}{s:eZ}(D:BE P B L)(h:ZP z P B L i p l g)(S:St (gO c p) V H s)(W:∀q∈L,H q.c=d9 (.a q.b)):BH s.heap z P B L i:=by
 have r:∀q∈zL z P B L l g,s.heap.get? q.1=d9 q.2:=λq G=>(S.d q.1 q.2 (eH (h.a▸G))).1;refine⟨r _ (gL _),r _ (gu _ (gL _)),(eu l (r _ (gu _ (gu _ (gL _)))) h.c),λq G=>⟨(eu (g q.a) (r (q.a,g q.a) (gu _ (gu _ (gu _ (mj.mpr (eu q G rfl)))))) (h.f q G)),?_⟩,D.d,D.b,D.a,D.c⟩;refine S.b.e (W q G) λF n a T=>?_;exact(eu F (iU a) T)
noncomputable def xm(z P B:et)(L:List jO):List Addr:=z::P::B::L.map (·.a)
theorem VO{z P B:et}{L:List jO}{l:List ed}{g:et->fN}:∀q∈zL z P B L l g,q.1∈xm z P B L:=
 J5 (R:=λa=>a∈xm z P B L) (gL _) (gu _ (gL _)) (gu _ (gu _ (gL _))) λq G=>gu _ (gu _ (gu _ (mj.mpr (eu q G rfl))))
theorem ZP.b{z P B:et}{L:List jO}{i:Nat}{p:List (et×fN)}{l:List ed}{g:et->fN}(h:ZP z P B L i p l g){b:et}(j:∀q∈p,q.1≠b):b≠z∧b≠B∧b∉L.map (·.a):=by
 rw[h.a] at j;refine⟨λq=>j _ (gL _) q.symm,λq=>j _ (gu _ (gu _ (gL _))) q.symm,λq=>?_⟩;refine fP q λr R e=>?_;exact j (r.a,g r.a) (gu _ (gu _ (gu _ (mj.mpr (eu r R rfl))))) e
theorem ZP.e{z P B:et}{L:List jO}{i:Nat}{p:List (et×fN)}{l:List ed}{g:et->fN}(h:ZP z P B L i p l g):∀q∈p,q.1∈xm z P B L:=by
 rw[h.a];exact VO
theorem FD{O:List eP}{k:Nat}{d:fE}{t:et}{F:Array ed}{E:ed->eZ->Prop}{s:eZ}{Q:eJ->AH->Prop}(g:c.b.handled=eh)(z:s.heap.IsTuple t F)(w:F.size=O.length)(W:iQ O=eb)
  (S:St c V H s) (h:oX c O (F.toList.map nv) V H Q):fi c.g c.b (oh (iD O k d) c.a (ec t)) (λU P=>∃l M,St c l M P∧Q l M) E s:=by
 refine Xu g z (by rw[(yF W).1,w]) (yF W).2 λu j=>?_;have A:St c V H { s with heap:=u,toks:=s.toks }:=S.k λb o e=>j b o (λq=>by
  have:=l8 e;rw[q] at this;exact absurd this (lg _)) e
 exact ER W h A
theorem SK{az:lI}{aA:kS}{aa:jZ}{z P B:et}{L:List jO}{n:Nat}{Y:List String}{O:List eP}{kk:Nat}{pt:fE}(hh:aa.handled=eh)(D:BE P B L)(w:∀q∈L,q.b.length=n)(aq:iQ O=eb)(ak:O.length=L.length)
  (aw:∀{t:Cx} {A:List ed} {V H} {Q:eJ->AH->Prop},t.d->(∀x∈Y,t.a.kindOf (eE x)=d9 ey)->A.length=L.length->Q (mD V Y A) H->oX t O A V H Q):
  pZ az aA aa (iD O kk pt) Y (ec z) n (λi V=>mD V Y (L.map λq=>q.b.getD i ez)) (λH=>∀q∈L,H q.c=d9 (.a q.b)) (xm z P B L) (λi p=>∃l g,ZP z P B L i p l g) where
 e:=by
  rintro i p ⟨l,g,h⟩;exact h.e
 d:=by
  rintro t rfl rfl rfl i p V H E s ⟨l,g,h⟩ W S;exact Xz (h.d D S W).a ⟨rfl,S⟩
 b:=by
  rintro t rfl rfl rfl af hl f i p V H E s hi ⟨l,g,h⟩ W S;have Z:=h.d D S W;refine eR Z.e λkv v aB=>?_;refine Im hh Z (eH λq G=>(w q G).symm▸hi) (λe=>absurd (e _ (DI D.a)) (by rw[w _ (DI D.a)];exact uK hi)) λU u J N c1 aj c3 c5 c=>(eu _ rfl ?_);have zi:∀{x:et} {o:fN},s.heap.get? x=d9 o->o.cls=eK "list_iterator"->x≠z∧x≠B:=λh1 I=>⟨ly h1 Z.a (I▸pE.1.2),ly h1 v (I▸sJ.1.1)⟩;have y:B≠z∧P≠z:=⟨ly v Z.a (gM pE.1.1),ly Z.c Z.a (gM pE.1.1)⟩;have ti:P∉L.map (·.a):=λq=>by
   refine fP q λr R e=>?_;refine f5 ((Z.b r R).a) λo X F U=>?_;exact ly X Z.c (F▸sJ.1.1) e
  refine wpAny_letOwnedTupleGo_zip (s:={ s with heap:=u }) c1 λk d1 d2=>?_;have C:∀b o,b≠z->u.get? b=d9 o->k.get? b=d9 o:=λb o j e=>(d2.2 b j).trans e;have au:z≠s.heap.objs.size:=rH (l8 Z.a);let T:et->Obj:=λag=>(k.get? ag).getD (Dq P B ez);have gq:∀q∈L,k.get? q.a=d9 (T q.a)∧ze (T q.a) q.c (i+1):=λq G=>by
   refine f5 (c3 q G) λo X F i3=>?_;refine f5 ((Z.b q G).a) λo0 j1 j2 U=>?_;have e:=C _ _ (zi j1 j2).1 X;have m:T q.a=o:=by show(k.get? q.a).getD _=_;rw[e];rfl
   rw[m];exact⟨e,F,i3⟩
  have a:ZP z P B L (i+1) (zL z P B L J T) J T:=⟨rfl,by have:=congrArg qz N;rwa [fC,fC] at this,λq G=>(gq q G).2⟩;have ac:St (gO t (zL z P B L J T)) V H { s with heap:=k }:=by
   refine S.f (A:=s.toks) (λq G=>f _ (h.e q G)) (λK o j e=>?_) ?_
   ·refine gY (h.b j) λd b2 b3=>?_
    exact C K o d (c K o d b2 b3 e)
   ·rw[h.a]
    intro q G;rcases gy.mp G with rfl|G
    ·exact⟨d1,eH ⟨_,gL _⟩⟩
    rcases gy.mp G with rfl|G
    ·exact⟨C _ _ y.2 (c _ _ y.2 D.b ti Z.c),eH ⟨_,gu _ (gL _)⟩⟩
    rcases gy.mp G with rfl|G
    ·exact⟨C _ _ y.1 aj,eH ⟨_,gu _ (gu _ (gL _))⟩⟩
    (refine fP G λr R m=>?_;(clear G;clear G;clear G;clear G;obtain rfl:=m))
    exact⟨(gq r R).1,eH ⟨g r.a,gu _ (gu _ (gu _ (mj.mpr (eu r R rfl))))⟩⟩
  have hT:k.IsTuple s.heap.objs.size J.toArray:=(fQ _ (C _ _ (gM au) c5) rfl ⟨0,rfl⟩);refine fc (FD (c:=gO t (zL z P B L J T)) (Q:=λae M=>ae=mD V Y (L.map λq=>q.b.getD i ez)∧M=H) hh hT (by rw[AF,a.c,ak]) aq ac (aw af.k hl (by rw[fC];exact a.c) ⟨by rw[←N],rfl⟩)) (λU aC G=>?_) λU U x=>x
  (refine fT G λae M av e3 e4=>?_;obtain rfl:=e3;(clear W S ac G;obtain rfl:=e4))
  exact(eu _ ⟨_,_,a⟩ av)
 c:=by
  rintro t rfl rfl rfl f p V H E s ⟨l,g,h⟩ W S;refine Im hh (h.d D S W) (eI w) (λU u c=>⟨rfl,?_⟩) λe=>absurd (e _ (DI D.a)) (by rw[w _ (DI D.a)];exact lg _);refine(S.f (v:=[]) (A:=s.toks) (λq G=>f _ (h.e q G)) (λK o j e=>c K o (h.b j).1 (h.b j).2.1 (h.b j).2.2 e) (by simp)).j
noncomputable abbrev Ai(h:fH)(D:et):Heap:=h.push { cls:=eK "list_iterator",data:=fB #[ec D,ej 0 0] }
abbrev Aj(h:fH)(D V:et):Heap:=(Ai h D).push { cls:=eK "list_iterator",data:=fB #[ec V,ej 0 0] }
abbrev Ak(h:fH)(D V X:et):Heap:=(Aj h D V).push { cls:=eK "list_iterator",data:=fB #[ec X,ej 0 0] }
abbrev Al(h:fH)(D V X:et):Heap:=(Ak h D V X).push { cls:=eK "tuple",data:=kQ #[ec h.objs.size,ec (Ai h D).objs.size,ec (Aj h D V).objs.size] }
abbrev Am(h:fH)(D V X:et):Heap:=(Al h D V X).push { cls:=eK "tuple",data:=kQ #[ez,ez,ez] }
abbrev th(h:fH)(D V X:et):Heap:=(Am h D V X).push { cls:=eK "zip",data:=fB #[ez,fF em,fF em,ec (Ak h D V X).objs.size,ec (Al h D V X).objs.size] }
set_option maxHeartbeats 4000000 in
theorem Q8(D V X:et)(z q G:Array ed):
  Meets (Builtin.«zip.__new__» ⟨[eK "zip",ec D,ec V,ec X],[]⟩) (λU R s=>s.heap.IsList D z∧s.heap.IsList V q∧s.heap.IsList X G∧
   R (kD (iV (ec (Am s.heap D V X).objs.size))) { s with heap:=th s.heap D V X }):=
 .of_wp λY w A R s h=>by
  obtain⟨J,g,d,p,r⟩ :=s;refine i8 h λI Z O o=>?_;have B:=sub_zip;have L:KI (KS ⟨J,g,d,p,r⟩) D z:=I;have C:KI (KS ⟨J.push { cls:=eK "list_iterator",data:=fB #[ec D,ej 0 0] },g,d,p,r⟩) V q:=KJ Z _;have K:KI (KS ⟨(J.push { cls:=eK "list_iterator",data:=fB #[ec D,ej 0 0] }).push { cls:=eK "list_iterator",data:=fB #[ec V,ej 0 0] },g,d,p,r⟩) X G:=KJ (KJ O _) _
  wp_walk using xZ L,xZ C,xZ K
  exact(eu _ rfl o)
section
variable{Y:lI}{w:kS}{A:jZ}{E:ed->eZ->Prop}{s:eZ}
theorem Ph{D V X:et}{z q G:Array ed}{b:ed->eZ->Prop}(I:s.heap.IsList D z)(Z:s.heap.IsList V q)(O:s.heap.IsList X G)
  (h:∀u,pM u (s.heap.objs.size+5) (s.heap.objs.size+3) (s.heap.objs.size+4) ez->u.get? (s.heap.objs.size+3)=d9 (kC [ec s.heap.objs.size,ec (s.heap.objs.size+1),ec (s.heap.objs.size+2)])->
   u.get? (s.heap.objs.size+4)=d9 (kC [ez,ez,ez])->u.IsListIter s.heap.objs.size D 0->u.IsListIter (s.heap.objs.size+1) V 0->u.IsListIter (s.heap.objs.size+2) X 0->
   (∀c o,s.heap.get? c=d9 o->u.get? c=d9 o)->b (ec (s.heap.objs.size+5)) { s with heap:=u }):
  fi (jI Y w) A (xS (eK "zip") [ec D,ec V,ec X]) b E s:=by
 refine callType_new F.called_zip (by decide) (UZ _ _ _) (Ro _ _ _) (λR=>OM R _ _ _) F.entry_zip_new
  (Q8 D V X z q G) ⟨I,Z,O,?_⟩
 have Q:(Ai s.heap D).objs.size=s.heap.objs.size+1:=tx ..;have a:(Aj s.heap D V).objs.size=s.heap.objs.size+2:=by rw[tx,Q]
 have t:(Ak s.heap D V X).objs.size=s.heap.objs.size+3:=by rw[tx,a]
 have v:(Al s.heap D V X).objs.size=s.heap.objs.size+4:=by rw[tx,t]
 have U:(Am s.heap D V X).objs.size=s.heap.objs.size+5:=by rw[tx,v]
 have K:(th s.heap D V X).get? (Am s.heap D V X).objs.size=d9 _:=jf _ rfl;have n:(th s.heap D V X).get? (Al s.heap D V X).objs.size=d9 _:=hY _ (jf _ rfl);have P:(th s.heap D V X).get? (Ak s.heap D V X).objs.size=d9 _:=hY _ (hY _ (jf _ rfl));have W:(th s.heap D V X).get? (Aj s.heap D V).objs.size=d9 _:=hY _ (hY _ (hY _ (jf _ rfl)));have T:(th s.heap D V X).get? (Ai s.heap D).objs.size=d9 _:=hY _ (hY _ (hY _ (hY _ (jf _ rfl))));have L:(th s.heap D V X).get? s.heap.objs.size=d9 _:=hY _ (hY _ (hY _ (hY _ (hY _ (jf _ rfl)))));show _∧_;rw[t,v,U] at K;rw[Q,a,t] at P;rw[v] at n;rw[a] at W;rw[Q] at T;rw[U];exact⟨(eu _ K rfl),h _ K P n (fQ _ L rfl rfl) (fQ _ T rfl rfl) (fQ _ W rfl rfl) λc o x=>
  hY _ (hY _ (hY _ (hY _ (hY _ (hY _ x)))))⟩
structure Ox(h h':fH)(ls:List et)(z TI TO:et)(is:List et):Prop where
 d:pM h' z TI TO ez
 f:h'.get? TI=d9 (kC (is.map ec))
 e:h'.get? TO=d9 (kC (ls.map λU=>ez))
 g:∀q∈is.zip ls,h'.IsListIter q.1 q.2 0
 k:is.Nodup
 j:TI≠TO
 i:is.length=ls.length
 l:∀c o,h.get? c=d9 o->h'.get? c=d9 o
 b:∀a∈z::TI::TO::is,h.get? a=eh
theorem HI{a:et}:[a].Nodup:=kE.mpr ⟨iI,n8⟩
theorem VQ{M:List et}{Q:ed->eZ->Prop}(C:M.length=2∨M.length=3)(S:∀l∈M,∃F,s.heap.IsList l F)(a:∀u z P B m,Ox s.heap u M z P B m->Q (ec z) { s with heap:=u }):fi (jI Y w) A (xS (eK "zip") (M.map ec)) Q E s:=by
 have d:∀k,s.heap.get? (s.heap.objs.size+k)=none:=λk=>ku (xA _ _);have G:∀{j k:Nat},j≠k->s.heap.objs.size+j≠s.heap.objs.size+k:=λh e=>h (Nat.add_left_cancel e);rcases M with _|⟨D,_|⟨V,_|⟨X,_|⟨_,_⟩⟩⟩⟩
 ·rcases C with h|h<;>exact nZ h
 ·rcases C with h|h<;>cases h
 ·refine fL (S D (gL _)) λU L=>?_
  refine fL (S V (gu _ (gL _))) λU T=>?_;refine call_zip_2 L T λu i t R n Z O c=>a u _ _ _ [s.heap.objs.size+0,s.heap.objs.size+1] ⟨i,t,R,?_,?_,G (by decide),rfl,c,?_⟩
  ·exact gV n (gV Z lY)
  ·exact kE.mpr ⟨λh=>G (by decide) (gR.mp h),HI⟩
  ·exact gV (d _) (gV (d _) (gV (d _) (gV (d _) (gV (d _) lY))))
 ·refine fL (S D (gL _)) λU L=>?_
  refine fL (S V (gu _ (gL _))) λU T=>?_;obtain⟨_,W⟩ :=S X (gu _ (gu _ (gL _)));refine Ph L T W λu i t R n Z O c=>a u _ _ _ [s.heap.objs.size+0,s.heap.objs.size+1,s.heap.objs.size+2] ⟨i,t,R,?_,?_,G (by decide),rfl,c,?_⟩
  ·exact gV n (gV Z (gV O lY))
  ·refine kE.mpr ⟨λh=>?_,kE.mpr ⟨λh=>G (by decide) (gR.mp h),HI⟩⟩
   rcases gy.mp h with h|h
   ·exact G (by decide) h
   ·exact G (by decide) (gR.mp h)
  ·exact gV (d _) (gV (d _) (gV (d _) (gV (d _) (gV (d _) (gV (d _) lY)))))
 ·rcases C with h|h<;>cases h
end
noncomputable def wt:List et->List (et×List ed)->List jO
 |i::m,q::M=>⟨i,q.1,q.2⟩ ::wt m M
 |_,_=>[]
theorem QM:∀{m:List et} {M:List (et×List ed)},m.length=M.length->(wt m M).length=M.length∧(wt m M).map (·.a)=m∧((wt m M).map λq=>(q.c,q.b))=M:=by
 intro m
 induction m with
 |nil=>
  intro M h;rw[oK.mp h.symm];exact⟨rfl,rfl,rfl⟩
 |cons i m D=>
  intro M h;cases M with
  |nil=>exact rz h
  |cons q M=>refine gY (D (ny h)) λa b c=>?_;exact⟨congrArg (·+1) a,congrArg (i::·) b,congrArg (q::·) c⟩
theorem QN:∀{m:List et} {M:List (et×List ed)} {q:jO},q∈wt m M->(q.a,q.c)∈m.zip (M.map (·.1)):=by
 intro m
 induction m with
 |nil=>intro M q h;exact absurd h iI
 |cons i m D=>
  intro M q h;cases M with
  |nil=>exact absurd h iI
  |cons r M=>
   rcases gy.mp h with e|h
   ·rw[e];exact gL _
   ·exact gu _ (D h)
theorem Fj{w O:List eP}{zp F pt:fE}{kk n:Nat}{Y:List String}{Q:Nat->(Nat->eJ->eJ)->(AH->Prop)->AH->Prop}(ae:c.d)(hh:c.b.handled=eh)
  (f:TE c (gk "zip" zp) V H (λv H1=>v=eK "zip"∧TA c w V H1 (λJ T=>∃M:List (et×List ed),J=M.map (λq=>ec q.1)∧(∀q∈M,T q.1=d9 (.a q.2)∧q.2.length=n)∧(M.length=2∨M.length=3)∧O.length=M.length∧
   Q n (λi V=>mD V Y (M.map λq=>q.2.getD i ez)) (λH=>∀q∈M,H q.1=d9 (.a q.2)) T)))
  (W:iQ w=eb) (ag:iQ O=eb)
  (aq:∀{t:Cx} {A:List ed} {V H} {Q:eJ->AH->Prop},t.d->(∀x∈Y,t.a.kindOf (eE x)=d9 ey)->A.length=O.length->Q (mD V Y A) H->oX t O A V H Q):
  j6 c (jr (gk "zip" zp) w [] F) (iD O kk pt) Y V H Q:=λE s hs=>by
 refine uX (fc (f E s hs) (λv av G=>?_) λU U x=>x);obtain⟨H1,aj,hv,G⟩ :=G;obtain rfl:=zD hv;refine xR (P:=λh=>True) (by rw[qn W];rfl) (λh U=>(eu (xO) (eI (eH rfl)) (AS rfl))) (sN W (fc (G E av F aj) (λJ K G=>⟨trivial,?_⟩) λU U x=>x));obtain⟨T,aa,M,p,C,S,j,G⟩ :=G;have e:J=(M.map (·.1)).map ec:=by
  rw[gJ];clear G j S C;revert J
  induction M with
  |nil=>exactλJ p=>nj.mp p
  |cons q M ih=>
   intro J p;cases J with
   |nil=>exact nL p
   |cons v J=>
    obtain⟨h1,h2⟩ :=Wc p;rw[gX h1,ih _ h2];rfl
 rw[e];refine VQ (by rw[fC];exact S) (λaw hm=>?_) λu z P B is N=>?_
 ·(refine fP hm λq G e5=>?_;(clear hm;obtain rfl:=e5))
  refine aa.b.e (C q G).1 λau n g1 U=>?_;exact⟨au,iU g1⟩
 obtain⟨L,D,rfl,X,lz⟩ :∃L:List jO,L.length=M.length∧L.map (·.a)=is∧L.map (λq=>(q.c,q.b))=M∧∀q∈L,(q.a,q.c)∈is.zip (M.map (·.1)):=
  let⟨a,b,c⟩ :=QM (m:=is) (M:=M) (by rw[N.i,fC]);(lO _ a b c (λU=>QN))
 have I:M.length≤9:=by rcases S with h|h<;>rw[h]<;>decide
 have ac:BE P B L:=⟨N.k,N.j,(λq=>by rw[q] at D;rw[←show 0=M.length from D] at S;exact S.elim (λh=>nZ h) (λh=>nZ h)),D▸I⟩;have af:∀q∈L,(q.c,q.b)∈M:=λq G=>X▸mj.mpr (eu q G rfl);let g:et->Obj:=λa=>(u.get? a).getD (Dq P B ez);have k:∀q∈L,u.get? q.a=d9 (g q.a)∧ze (g q.a) q.c 0:=λq G=>by
  refine f5 (N.g _ (lz q G)) λo i1 i2 i3=>?_;have m:g q.a=o:=by show(u.get? q.a).getD _=_;rw[i1];rfl
  rw[m];exact⟨i1,i2,i3⟩
 have iK:∀q∈L,q.a∈L.map (·.a):=λq G=>mj.mpr (eu q G rfl);have d:ZP z P B L 0 (zL z P B L (M.map λU=>ez) g) (M.map λU=>ez) g:=⟨rfl,by rw[fC,D],λq G=>(k q G).2⟩;have l:∀x∈zL z P B L (M.map λU=>ez) g,u.get? x.1=d9 x.2:=by
  intro x Z;rcases gy.mp Z with rfl|Z
  ·exact N.d
  rcases gy.mp Z with rfl|Z
  ·rw[N.f,gJ];rfl
  rcases gy.mp Z with rfl|Z
  ·rw[N.e,gJ];rfl
  (refine fP Z λr R e6=>?_;(clear Z;clear Z;clear Z;clear Z;obtain rfl:=e6))
  exact(k r R).1
 have fr:∀x∈zL z P B L (M.map λU=>ez) g,K.heap.get? x.1=none:=J5 (R:=λa=>K.heap.get? a=eh) (N.b _ (gL _)) (N.b _ (gu _ (gL _))) (N.b _ (gu _ (gu _ (gL _)))) λq G=>N.b _ (gu _ (gu _ (gu _ (iK q G))));refine Xz (s:={ K with heap:=u }) N.d ?_;refine⟨_,_,_,(xm z P B L),_,_,T,(SK (n:=n) hh ac (λq G=>(C _ (af q G)).2) ag (by rw[j,D]) (λae C hu h=>aq ae C (by rw[hu,D,j]) h)),⟨_,_,d⟩,?_,?_,(λq G=>(C _ (af q G)).1),?_⟩
 ·intro a ha
  have y:=N.b a ha;refine⟨(aa.h y).b,?_⟩;rcases gy.mp ha with rfl|ha
  ·exact⟨_,N.d⟩
  rcases gy.mp ha with rfl|ha
  ·exact⟨_,N.f⟩
  clear ac d l fr;rcases gy.mp ha with rfl|ha
  ·exact⟨_,N.e⟩
  (refine fP ha λr R e7=>?_;(clear ha y;clear ha;clear ha;clear ha;obtain rfl:=e7))
  exact⟨_,(k r R).1⟩
 ·have ak:St (gO c []) V T K:=aa.r (f:=_) λa o h=>by simpa using h
  exact ak.f (A:=K.toks) (by simp) (λb o U e=>N.l b o e) λq G=>⟨l q G,eI (fr q G)⟩
 ·have e1:(λi V=>mD V Y (L.map λq=>q.b.getD i ez))=λi V=>mD V Y (M.map λq=>q.2.getD i ez):=by
   funext i V;rw[←X,gJ];rfl
  have m:(λH:AH=>∀q∈L,H q.c=d9 (.a q.b))=λH=>∀q∈M,H q.1=d9 (.a q.2):=by
   funext H;rw[←X]
   exact propext ⟨λh q G=>by(refine fP G λr R e8=>?_;(clear G;obtain rfl:=e8));exact h r R,λh q G=>h _ (mj.mpr (eu q G rfl))⟩
  rw[e1,m];exact G
end
section
variable{c:Cx}{V:eJ}{H:AH}
theorem BI{J:List ed}{a:ed}(h:J.map nv=[a]):∃x,J=[x]∧nv x=a:=by
 (refine fT (DO.mp h) λv U O K k=>?_;(clear h;obtain rfl:=O))
 obtain rfl:=nj.mp k;exact(eu v rfl K)
theorem nI{J:List ed}{a:ed}(h:J.map nv=[a]){G:Prop}(N:∀x,J=[x]->nv x=a->G):G:=eR (BI h) N
noncomputable def pf(N:et)(i:Nat)(z:ed):Obj:={ cls:=eK "enumerate",dict:=eh,data:=fB #[ez,fF em,ec N,kT i,ez,z],slots:=#[] }
def PM(l e N:et):Nat->List (et×fN)->Prop:=λi p=>∃z o,p=[(e,pf N i z),(N,o)]∧ze o l i∧e≠N
def yM(x y:String)(J:List ed):Nat->eJ->eJ:=λi V=>ic (ic V x (ej i 0)) y (J.getD i ez)
theorem SC{Y:lI}{au:kS}{A:jZ}{l e N:et}{J:List ed}{x y:String}{px py B:fE}{kk:Nat}(g:A.handled=eh):
  pZ Y au A (iD [gk (eE x) px,gk (eE y) py] kk B) [x,y] (ec e) J.length (yM x y J) (λH=>H l=d9 (.a J)) [e,N] (PM l e N) where
 e:=by
  rintro i p ⟨z,o,rfl,_⟩ q G;simp only[gy,iI,or_false] at G;rcases G with rfl|rfl<;>simp
 d:=by
  rintro t rfl rfl rfl i p V H E s ⟨z,o,rfl,_⟩ W S;exact Xx (S.d e (pf N i z) (eH (by simp))).1 ⟨rfl,S⟩
 b:=by
  rintro t rfl rfl rfl ae hl f i p V H E s R ⟨z,o,rfl,⟨O,v⟩,D⟩ W S;refine S.b.e W λF aj L T=>?_;refine rq T (jF R) λu hu ag=>?_;have r:∀q∈[(e,pf N i z),(N,o)],s.heap.get? q.1=d9 q.2:=λq G=>(S.d q.1 q.2 (eH G)).1;have n:=r (e,pf N i z) (by simp);have a:=r (N,o) (by simp);refine wpAny_pyNext_enum_item n (fQ o a O v) (iU L) hu D λh' c1 c3 Z c6 c=>(eu (ec s.heap.objs.size) rfl ?_);refine f5 c3 λw ak aq h=>?_;refine wpAny_letOwnedTupleGo_enum (s:={ s with heap:=h',toks:=s.toks+1 }) c1 λk d1 d2=>?_;have C:∀b o,b≠e->h'.get? b=d9 o->k.get? b=d9 o:=λb o j e=>(d2.2 b j).trans e;have af:s.heap.objs.size≠e:=uK (l8 n);have aa:St (gO t [(e,pf N (i+1) u),(N,w)]) V H { s with heap:=k,toks:=s.toks+1 }:=by
   refine S.f (A:=s.toks+1) ?_ (λK X j P=>?_) ?_
   ·intro q G
    simp only[gy,iI,or_false] at G;rcases G with rfl|rfl<;>exact f _ (by simp)
   ·have Q:K≠e:=λq=>j (e,pf N i z) (by simp) q.symm
    exact C K X Q (c K X Q (λq=>j (N,o) (by simp) q.symm) P)
   ·intro q G
    simp only[gy,iI,or_false] at G;rcases G with rfl|rfl
    ·exact⟨d1,eH ⟨pf N i z,by simp⟩⟩
    ·exact⟨C _ _ (gM D) ak,eH ⟨o,by simp⟩⟩
  have hT:k.IsTuple s.heap.objs.size #[ej i s.toks,u]:=(fQ _ (C _ _ af Z) rfl ⟨0,rfl⟩);refine fc (FD (c:=gO t [(e,pf N (i+1) u),(N,w)]) (Q:=λac M=>ac=yM x y J i V∧M=H) g hT rfl rfl aa (M4 ae.k (hl x (by simp)) (hl y (by simp)) ⟨?_,rfl⟩)) (λU av G=>?_) λU U x=>x
  ·unfold yM
   rw[ag,GS R];rfl
  ·(refine fT G λac M I m d=>?_;obtain rfl:=m;(clear W S aa G;obtain rfl:=d))
   exact(eu _ (fS u w rfl ⟨aq,by simpa using h⟩ D) I)
 c:=by
  rintro t rfl rfl rfl f p V H E s ⟨z,o,rfl,⟨O,v⟩,D⟩ W S;obtain⟨F,aj,L,T⟩ :=S.b.i W;have r:∀q∈[(e,pf N J.length z),(N,o)],s.heap.get? q.1=d9 q.2:=λq G=>(S.d q.1 q.2 (eH G)).1;have R:F[J.length]? =none:=by rw(occs:=eO) [Aq,ke T];exact ig _
  refine wpAny_pyNext_enum_end g (r (e,pf N J.length z) (by simp)) (fQ o (r (N,o) (by simp)) O v) (iU L) R λh' c=>⟨rfl,?_⟩;refine(S.f (v:=[]) (A:=s.toks) ?_ (λK X j P=>c K X (λq=>j (N,o) (by simp) q.symm) P) (by simp)).j;intro q G;simp only[gy,iI,or_false] at G;rcases G with rfl|rfl<;>exact f _ (by simp)
theorem Od{O:eP}{C F z q B:fE}{kk:Nat}{x y:String}{Q:Nat->(Nat->eJ->eJ)->(AH->Prop)->AH->Prop}(ac:c.d)(g:c.b.handled=eh)
  (f:TE c (gk "enumerate" C) V H (λv Z=>v=eK "enumerate"∧TA c [O] V Z (λJ T=>∃l A,J=[ec l]∧T l=d9 (.a A)∧
   Q A.length (yM x y A) (λH=>H l=d9 (.a A)) T)))
  (W:iQ [O]=eb):
  j6 c (jr (gk "enumerate" C) [O] [] F) (iD [gk (eE x) z,gk (eE y) q] kk B) [x,y] V H Q:=λE s S=>by
 refine uX (fc (f E s S) (λv j G=>?_) λU U x=>x);obtain⟨Z,m,N,G⟩ :=G;obtain rfl:=zD N;refine xR (P:=λh=>True) (by rw[qn W];rfl) (λh U=>(eu (xO) (eI (eH rfl)) (AS rfl))) (sN W (fc (G E j F m) (λJ K G=>⟨trivial,?_⟩) λU U x=>x));obtain⟨T,r,l,A,p,P,G⟩ :=G;obtain⟨v1,rfl,R⟩ :=BI p;clear p;obtain rfl:=gX R;obtain⟨ae,n1,L,g2⟩ :=r.b.i P;refine call_enumerate_list (iU L) λu i t c6 c7=>?_;refine Xx (s:={ K with heap:=u }) i ?_;obtain⟨w,X,n,aa⟩ :=t;have d:∀k,K.heap.get? (K.heap.objs.size+k)=none:=λk=>ku (xA _ _);have D:K.heap.get? K.heap.objs.size=none:=d 0;refine⟨_,_,_,([K.heap.objs.size+1,K.heap.objs.size]),_,_,T,(SC g),(fS (ez) w rfl ⟨n,aa⟩ (Ky _)),?_,?_,P,G⟩
 ·intro a M
  simp only[gy,iI,or_false] at M;rcases M with rfl|rfl
  ·exact⟨(r.h (d 1)).b,_,i⟩
  ·exact⟨(r.h D).b,_,X⟩
 ·have I:St (gO c []) V T K:=r.r (f:=_) λa o h=>by simpa using h
  refine I.f (A:=K.toks) (by simp) (λb o U e=>c7 b o e) ?_;intro af Y;simp only[gy,iI,or_false] at Y;rcases Y with rfl|rfl
  ·exact⟨i,eI (d 1)⟩
  ·exact⟨X,eI D⟩
def JK(l N:et):Nat->List (et×fN)->Prop:=λi p=>∃o:fN,p=[(N,o)]∧o.cls=eK "tuple_iterator"∧o.data=fB #[ec l,ej i 0]
theorem Df{s:eZ}{l N:et}{i:Nat}{p:List (et×fN)}(h:JK l N i p)(S:St (gO c p) V H s):s.heap.IsTupleIter N l i:=by
 (refine f5 h λo M K I=>?_;(clear h;obtain rfl:=M))
 exact(fQ o ((S.d N o (eH (by simp))).1) K I)
theorem SJ{aa:lI}{w:kS}{A:jZ}{l N:et}{J:List ed}{x:String}{z:fE}(g:A.handled=eh):
  pZ aa w A (gk (eE x) z) [x] (ec N) J.length (λi V=>ic V x (J.getD i ez)) (λH=>H l=d9 (.f J)) [N] (JK l N) where
 e:=by rintro i p ⟨o,rfl,_⟩ q G;simp at G;simp[G]
 d:=by
  rintro t rfl rfl rfl i p V H E s D W S;exact wpAny_pyIter_tupleiter (Df D S) ⟨rfl,S⟩
 b:=by
  rintro t rfl rfl rfl O C f i p V H E s R D W S;refine S.b.j W λF n Y T=>?_;have L:s.heap.IsTuple l F:=(fQ _ Y rfl ⟨n,rfl⟩);refine rq T (jF R) λy m h=>?_;refine wpAny_pyNext_tuple_item (Df D S) L m λu a j=>?_;refine f5 a λX Q k k3=>?_;refine(eu y rfl (iA (tK ?_)))
  (refine f5 D λo P K I=>?_;(clear D;obtain rfl:=P))
  have r:St (gO t [(N,X)]) V H { s with heap:=u }:=S.f (A:=s.toks) (by simpa using f N (by simp)) (λb x v e=>(j.2 b (λq=>v (N,o) (by simp) q.symm)).trans e)
   (by intro q G;simp only[gR] at G;subst G;exact⟨Q,eH ⟨o,by simp⟩⟩)
  refine fc (oR (c:=gO t [(N,X)]) (Q:=λc M=>c=ic V x (J.getD i ez)∧M=H) O.k (C x (by simp)) ⟨rfl,rfl⟩ _ _ y r ?_) (λU ac G=>?_) λU U x=>x
  ·rw[h,lD,jF R];rfl
  ·(refine fT G λc M d B Z=>?_;obtain rfl:=B;(clear W S r G;obtain rfl:=Z))
   exact(eu _ (fQ X rfl k (by simpa using k3)) d)
 c:=by
  rintro t rfl rfl rfl f p V H E s D W S;refine S.b.j W λF n Y T=>?_;have L:s.heap.IsTuple l F:=(fQ _ Y rfl ⟨n,rfl⟩);have R:F[J.length]? =none:=by rw(occs:=eO) [Aq,ke T];exact ig _
  refine wpAny_pyNext_tuple_end g (Df D S) L R λu j=>⟨rfl,?_⟩;obtain⟨o,rfl,K,I⟩ :=D;exact(S.f (v:=[]) (A:=s.toks) (by simpa using f N (by simp)) (λb x v e=>j b x (λq=>v (N,o) (by simp) q.symm) e) (by simp)).j
theorem Oh{f:eP}{x:String}{z:fE}{Q:Nat->(Nat->eJ->eJ)->(AH->Prop)->AH->Prop}(g:c.b.handled=eh)
  (h:TE c f V H (λv Z=>∃l J,v=ec l∧Z l=d9 (.f J)∧Q J.length (λi V=>ic V x (J.getD i ez)) (λH=>H l=d9 (.f J)) Z)):
  j6 c f (gk (eE x) z) [x] V H Q:=λE s S=>by
 refine fc (h E s S) (λv j G=>?_) λU U x=>x;obtain⟨Z,m,l,J,N,C,G⟩ :=G;obtain rfl:=gX N;obtain⟨F,n,Y,T⟩ :=m.b.l C;have L:j.heap.IsTuple l F:=(fQ _ Y rfl ⟨n,rfl⟩);refine wpAny_pyIter_tuple L ?_;have R:j.heap.get? j.heap.objs.size=none:=ku (ig _);have K:=m.h R;obtain⟨W,q⟩ :=m.q (d:=j.heap.objs.size) (X:=.c { cls:=eK "tuple_iterator",data:=fB #[ec l,ej 0 0] }) (u:=j.heap.push _) (p:=j.toks) R
  (λb o e=>hY _ e) (jf _ rfl) rfl
 exact⟨_,_,_,([j.heap.objs.size]),_,([(j.heap.objs.size,_)]),Z,(SJ g),(fQ _ rfl rfl rfl),(by simpa using⟨K.b,_,jf _ rfl⟩),(q.u W),C,G⟩
noncomputable def oF(i left:Nat):Obj:={ cls:=eK "range_iterator",dict:=eh,data:=fB #[kT i,kT left,kT 1],slots:=#[] }
def SN(n:Nat)(N:et):Nat->List (et×fN)->Prop:=λi p=>p=[(N,oF i (n-i))]
theorem SI{Y:lI}{w:kS}{A:jZ}{N:et}{n:Nat}{x:String}{z:fE}(g:A.handled=eh):
  pZ Y w A (gk (eE x) z) [x] (ec N) n (λi V=>ic V x (ej i 0)) (λH=>True) [N] (SN n N) where
 e:=by rintro i p rfl q G;simp at G;simp[G]
 d:=by
  rintro t rfl rfl rfl i p V H E s rfl W S;exact wpAny_pyIter_rangeiter (S.d N (oF i (n-i)) (eH (by simp))).1 ⟨rfl,S⟩
 b:=by
  rintro t rfl rfl rfl O C f i p V H E s R rfl W S;refine wpAny_pyNext_range_item (S.d N (oF i (n-i)) (eH (by simp))).1 (by lia) λu a j=>?_;have a:u.get? N=d9 (oF (i+1) (n-(i+1))):=by
   rw[show IsRangeIter u N ((i:Int)+1) (((n-i:Nat):Int)-1) 1=(u.get? N=d9 _) from rfl] at a;rw[a];unfold oF;rw[show((n-i:Nat):Int)-1=((n-(i+1):Nat):Int) by lia];rfl
  refine(eu (ej i s.toks) rfl (iA (tK ?_)));have r:St (gO t [(N,oF (i+1) (n-(i+1)))]) V H { s with heap:=u,toks:=s.toks+1 }:=S.f (A:=s.toks+1) (by simpa using f N (by simp)) (λb x v e=>(j.2 b (λq=>v (N,oF i (n-i)) (by simp) q.symm)).trans e)
   (by intro q G;simp only[gR] at G;subst G;exact⟨a,eH ⟨oF i (n-i),by simp⟩⟩)
  refine fc (oR (c:=gO t [(N,oF (i+1) (n-(i+1)))]) (Q:=λl M=>l=ic V x (ej i 0)∧M=H) O.k (C x (by simp)) ⟨rfl,rfl⟩ _ _ (ej i s.toks) r rfl) (λU y G=>?_) λU U x=>x;clear S r;obtain⟨l,M,I,rfl,rfl⟩ :=G;exact(eu _ rfl I)
 c:=by
  rintro t rfl rfl rfl f p V H E s rfl W S;refine wpAny_pyNext_range_end g (S.d N (oF n (n-n)) (eH (by simp))).1 (by lia) λu j=>⟨rfl,?_⟩;exact(S.f (v:=[]) (A:=s.toks) (by simpa using f N (by simp)) (λb x v e=>j b x (λq=>v (N,oF n (n-n)) (by simp) q.symm) e) (by simp)).j
theorem Fi{O:eP}{x:String}{C F z:fE}{Q:Nat->(Nat->eJ->eJ)->(AH->Prop)->AH->Prop}(w:c.d)(g:c.b.handled=eh)
  (f:TE c (gk "range" C) V H (λv Z=>v=eK "range"∧TA c [O] V Z (λJ T=>∃n:Nat,J=[ej n 0]∧n<1000000∧Q n (λi V=>ic V x (ej i 0)) (λU=>True) T)))
  (W:iQ [O]=eb):
  j6 c (jr (gk "range" C) [O] [] F) (gk (eE x) z) [x] V H Q:=λE s S=>by
 refine uX (fc (f E s S) (λv j G=>?_) λU U x=>x);obtain⟨Z,m,N,G⟩ :=G;obtain rfl:=zD N;refine xR (P:=λh=>True) (by rw[qn W];rfl) (λh U=>(eu (xO) (eI (eH rfl)) (AS rfl))) (sN W (fc (G E j F m) (λJ K G=>⟨trivial,?_⟩) λU U x=>x));obtain⟨T,r,n,p,B,G⟩ :=G;obtain⟨v1,rfl,R⟩ :=BI p;clear p;obtain⟨t,rfl⟩ :=um R;refine call_range_1 ?_;have l:XW 0 (n:Int) 1=(n:Int):=by rw[rangeSize_one];split<;>lia
 have d:∀k,K.heap.get? (K.heap.objs.size+k)=none:=λk=>ku (xA _ _);have D:K.heap.get? K.heap.objs.size=none:=d 0;have X:(K.heap.push { cls:=eK "range",data:=fB #[ej 0 K.toks,ej n t,ej 1 (K.toks+1)] }).objs.size=K.heap.objs.size+1:=tx ..;refine wpAny_pyIter_range (IsRange.new K.heap 0 n 1 K.toks t (K.toks+1)) (small_one (by lia) (by lia) (by lia) (by lia)) ?_;rw[l];have L:=jf (K.heap.push { cls:=eK "range",data:=fB #[ej 0 K.toks,ej n t,ej 1 (K.toks+1)] }) (o:={ cls:=eK "range_iterator",data:=fB #[kT 0,kT n,kT 1] }) rfl;rw[X] at L;show∃n y u A P aa Z,pZ _ _ _ _ _ (ec (K.heap.push _).objs.size) _ _ _ _ _∧_;rw[X];refine⟨_,_,_,([K.heap.objs.size+1]),_,_,T,(SI g),rfl,?_,?_,trivial,G⟩
 ·intro a M
  obtain rfl:=gR.mp M;exact⟨(r.h (d 1)).b,_,L⟩
 ·have I:St (gO c []) V T K:=r.r (f:=_) λa o h=>by simpa using h
  refine I.f (A:=K.toks+1+1) (by simp) (λb o U e=>hY _ (hY _ e)) ?_;intro q Y;obtain rfl:=gR.mp Y;exact⟨L,eI (d 1)⟩
theorem JW{a:et}{o:AO}(h:H a=d9 o):eQ H a o=H:=by
 funext b;unfold eQ;by_cases j:b=a
 ·rw[if_pos j,j,h]
 ·rw[if_neg j]
theorem Gq{Y:lI}{w:kS}:OR Y w (.e []) { cls:=eK "dict",data:=oO #[] }:=by
 refine eR (tu.mp (Heap.DictOf.new (knd:=pR Y w) (fU:fH))) λo L T=>?_;rw[jf _ rfl] at L;obtain rfl:=eX L;exact(eu ([]) T rfl)
theorem E5{d:fE}{Q:ed->AH->Prop}(O:c.d)(h:∀D,H D=eh->(D==mL)=em->Q (ec D) (eQ H D (.e []))):TE c (.Dict [] [] d) V H Q:=λE s S=>by
 refine wpAny_Dict_empty ?_;refine eR S.e λm F U=>?_;have R:s.heap.get? s.heap.objs.size=none:=ku (ig _);refine S.i (d:=s.heap.objs.size) (X:=.e []) (u:=s.heap.push { cls:=eK "dict",data:=oO #[] }) (p:=s.toks) R
  (λb o e=>hY _ e) (jf _ rfl) Gq λW q=>?_
 exact(eu _ q (h _ W (F.notModules (modules_low O.d.nolimit))))
theorem Oi{y j:eP}{d:et}{o:fN}{P:List (Int×ed)}{i:Int}{u:ed}{Q:ed->AH->Prop}(C:H d=d9 (.c o))(D:OR c.l c.k (.e P) o)(R:P.lookup i=d9 u)(h:Q u H)
  (W:qX j):qZ c y j (ec d) (vi i) V H Q:=λE s v k S N z=>by
 obtain rfl:=gX N
 (refine ik z λt O=>?_;(clear z;obtain rfl:=O))
 (refine S.b.d d _ C λl J m=>?_;(clear C;obtain rfl:=m))
 refine eR D λa K T=>?_;have L:s.heap.DictOf (pR c.l c.k) d a:=tu.mpr (eu l J K)
 (refine eR (Dj T R) λx r b=>?_;(clear R;obtain rfl:=b))
 exact xE L.typeIs Xo.lookup (Xv (tF _ _ _ _) L.mapOf r (eu H (S.g _) h)) (W _ _)
def PF(d N:et)(n B:Nat):Nat->List (et×fN)->Prop:=λi p=>∃o:fN,p=[(N,o)]∧o.cls=eK "dict_keyiterator"∧o.data=fB #[ec d,ej i 0,ej n 0,ej B 0]
theorem SD{Y:lI}{w:kS}{A:jZ}{d N:et}{B:Nat}{o:fN}{a:List (Int×ed)}{x:String}{px:fE}(g:A.handled=eh)
  (D:∀h:fH,h.get? d=d9 o->h.DictAt (pR Y w) d a B):
  pZ Y w A (gk (eE x) px) [x] (ec N) a.length (λi V=>ic V x (ej ((a.map (·.1)).getD i 0) 0)) (λH=>H d=d9 (.c o)) [N] (PF d N a.length B) where
 e:=by rintro i p ⟨o,rfl,_⟩ q G;simp at G;simp[G]
 d:=by
  rintro t rfl rfl rfl i p V H E s ⟨o,rfl,K,I⟩ W S;exact wpAny_pyIter_keyiter (fQ o ((S.d N o (eH (by simp))).1) K I) ⟨rfl,S⟩
 b:=by
  rintro t rfl rfl rfl O C f i p V H E s R ⟨L,rfl,K,I⟩ W S
  (refine S.b.d d _ W λro J Q=>?_;(clear W;obtain rfl:=Q))
  have c:s.heap.IsKeyIter N d i a.length B:=(fQ L ((S.d N L (eH (by simp))).1) K I);refine wpAny_pyNext_dict_item c (D _ J) (k:=a[i].1) (v:=a[i].2) (jF R) λac u z T j=>?_
  (refine fL (Xj z) λtk P=>?_;(clear z;obtain rfl:=P))
  refine f5 T λX l k n=>?_;refine(eu _ rfl (letGo_keyiter (s':={ s with heap:=u }) (fQ X l k n) (tK ?_)));have r:St (gO t [(N,X)]) V H { s with heap:=u }:=S.f (A:=s.toks) (by simpa using f N (by simp)) (λb x v e=>(j.2 b (λq=>v (N,L) (by simp) q.symm)).trans e)
   (by intro q G;simp only[gR] at G;subst G;exact⟨l,eH ⟨L,by simp⟩⟩)
  refine fc (oR (c:=gO t [(N,X)]) (Q:=λF M=>F=ic V x (ej ((a.map (·.1)).getD i 0) 0)∧M=H) O.k (C x (by simp)) ⟨rfl,rfl⟩ _ _ (ej a[i].1 tk) r ?_) (λU y G=>?_) λU U x=>x
  ·rw[lD,lE,jF R];rfl
  ·(refine fT G λF M aa e6 Z=>?_;obtain rfl:=e6;(clear S r G;obtain rfl:=Z))
   exact(eu _ (fQ X rfl k (by simpa using n)) aa)
 c:=by
  rintro t rfl rfl rfl f p V H E s ⟨L,rfl,K,I⟩ W S
  (refine S.b.d d _ W λro J m=>?_;(clear W;obtain rfl:=m))
  have c:s.heap.IsKeyIter N d a.length a.length B:=(fQ L ((S.d N L (eH (by simp))).1) K I);refine wpAny_pyNext_dict_end g c (D _ J) (DG (ig _)) λu j=>⟨rfl,?_⟩;exact(S.f (v:=[]) (A:=s.toks) (by simpa using f N (by simp)) (λb x v e=>j b x (λq=>v (N,L) (by simp) q.symm) e) (by simp)).j
theorem Oe{f:eP}{x:String}{z:fE}{Q:Nat->(Nat->eJ->eJ)->(AH->Prop)->AH->Prop}(g:c.b.handled=eh)
  (h:TE c f V H (λv Z=>∃d P,v=ec d∧(d==mL)=em∧Z d=d9 (.e P)∧∀o,OR c.l c.k (.e P) o->(∀s,St c V (eQ Z d (.c o)) s->St c V Z s)->
   Q P.length (λi V=>ic V x (ej ((P.map (·.1)).getD i 0) 0)) (λH=>H d=d9 (.c o)) (eQ Z d (.c o)))):
  j6 c f (gk (eE x) z) [x] V H Q:=λE s S=>by
 refine fc (h E s S) (λv j G=>?_) λU U x=>x;obtain⟨Z,m,d,P,N,M,C,G⟩ :=G;obtain rfl:=gX N;obtain⟨l,J,a,y,F⟩ :=m.b.f d _ C;have k:a.length=P.length:=by rw[←F];simp
 have I:a.map (·.1)=P.map (·.1):=by rw[←F];simp
 obtain⟨B,t⟩ :=(tu.mpr (eu l J y):j.heap.DictOf (pR c.l c.k) d a).dictAt;have T:∀h:fH,h.get? d=d9 l->h.DictAt (pR c.l c.k) d a B:=λh e=>by
  obtain⟨o,w,D,r⟩ :=t;rw[J] at D;obtain rfl:=eX D;exact(ib _ w e r)
 refine wpAny_pyIter_dict M t ?_;have Y:St c V (eQ Z d (.c l)) j:=m.l (X:=.c l) (L:=l) (u:=j.heap) (g:=j.toks) C (AP _ _) J rfl;have R:j.heap.get? j.heap.objs.size=none:=ku (ig _);have K:=Y.h R;obtain⟨W,q⟩ :=Y.q (d:=j.heap.objs.size) (X:=.c { cls:=eK "dict_keyiterator",data:=fB #[ec d,ej 0 0,ej a.length 0,ej B 0] }) (u:=j.heap.push _) (p:=j.toks) R
  (λb o e=>hY _ e) (jf _ rfl) rfl
 have O:∀s,St c V (eQ Z d (.c l)) s->St c V Z s:=λs h=>by
  have:=h.y (k:=.e P) (eu a y F);rwa [JW C] at this
 refine⟨_,_,_,([j.heap.objs.size]),_,([(j.heap.objs.size,_)]),(eQ Z d (.c l)),(SD g T),(fQ _ rfl rfl rfl),(by simpa using⟨K.b,_,jf _ rfl⟩),(q.u W),(gA _ _ _),?_⟩;rw[k,I];exact G l (eu a y F) O
theorem Ps{Y:lI}{w:kS}{A:jZ}{R:pO->eZ->Prop}{s:eZ}{G b e f:eP}{a:List eP}{t:jG}{d:fE}{N:ed}{D:et}{B:iN}(I:Nat->eZ->Prop)
  (i:∀n s,I n s->∀E,fi (jI Y w) A (rO N) (λr j=>match r with
   |none=>R (kD fY) j
   |some v=>fi (jI Y w) A (Em e N v) (λU L=>fi (jI Y w) A (oh e B v) (λU K=>
     fi (jI Y w) A (uE a eb λc r=>if r=eb then do let W←xU c B (jc c B);f9 (rE W) else f9 (rE r)) (λW y=>
      if W=eb then fi (jI Y w) A (jc G B) (λo q=>fi (jI Y w) A (jc b B) (λZ l=>
       fi (jI Y w) A (dictSet D o Z) (λU C=>∃m,m<n∧I m C) E l) E q) E y
      else∃m,m<n∧I m y) E K) E L) E j) E s)
  (n:Nat) (h:I n s):qJ (jI Y w) A (xG (qD G b [⟨e,f,a,0⟩] t d) 0 N (ec D) B) R s:=by
 refine K1 rfl I (λn s O=>?_) n h;show fi _ A ((compTurn (qD G b [⟨e,f,a,0⟩] t d) 0 N (ec D) B).onRaise (λx=>do tG x B;K9 x)) _ _ s;refine wpAny_noted ?_;rw(occs:=eO) [compTurn_dict];refine fv (rQ (fv (fc (i n s O _) (λr j V=>?_) λU U u=>u)));cases r with
 |none=>exact iA V
 |some v=>
  refine fv (fc V (λU L g=>?_) λU U u=>u);refine fv (fc g (λU K k=>fv (fc k (λW y M=>?_) λU U u=>u)) λU U u=>u);cases W with
  |false=>exact iA ⟨rfl,M⟩
  |true=>exact fv (fv (fc M (λo q J=>fv (rP (fc J (λZ l z=>fv (rQ (rP (fc z (λU C p=>iA ⟨rfl,p⟩) λU U u=>u)))) λU U u=>u))) λU U u=>u))
abbrev Fm(c:Cx)(t:jG)(X:List (ft×et))(G b:eP)(a:List eP):Nat->(Nat->eJ->eJ)->(AH->Prop)->AH->(Nat->List (Int×ed)->AH->Prop)->Prop:=
 Br (λc V H z K=>TE c G V H λu L=>∃k,u=ej k 0∧TE c b V L λv A=>K (qu z k v) A) c t X a
theorem Pn{G b e f:eP}{a:List eP}{t:jG}{d:fE}{Y:List String}{X:List (ft×et)}{Q:ed->eZ->Prop}{j:Option (ed->Sem Unit)}{E:ed->eZ->Prop}{s:eZ}{ps:fE}(ac:c.d)(i:c.i=eh)
  (N:∀x,pQ f c.a x=f9 x) (av:rM t c.a=f9 X) (au:∀y∈t.names,y.2≠fK) (A:t.kind=jH)
  (v:∀y∈t.names,y.2=ey->t.names.lookup y.1=d9 ey) (hl:∀x∈Y,t.names.lookup (eE x)=d9 ey)
  (S:St c V H s) {K:List (Int×ed)->AH->Prop}
  (h:j6 c f e Y V H (λn ae aF Z=>∃J,Fm c t X G b a n ae aF Z J∧∀z M,J n z M->K z M))
  (aq:∀z M D C P,K z M->M D=eh->(D==mL)=em->(∀u p,qE C P.heap u->St c V (eQ M D (.e z)) { P with heap:=u,toks:=p })->rU c (eQ M D (.e z)) C->(∃aE,P.heap.Ns C aE)->Ei c.g c.b E j Q (ec D) C (kD fY) P):
  fi c.g c.b (xT (qD G b [⟨e,f,a,0⟩] t d) t c.a ps (newDict) em (jc f c.a) j) Q E s:=
 Gi (mk:=.e) (W:={ cls:=eK "dict",data:=oO #[] }) (aY:=λD B R E s=>fi c.g c.b (jc G B) (λkv q=>fi c.g c.b (jc b B) (λvv l=>fi c.g c.b (dictSet D kv vv) (λU aI=>R aI) E l) E q) E s) rfl rfl
  (λh=>A0 (T:="dict") (data:=oO #[]) (dict:=eh) h (by size_fits)) Gq (λaa=>Ps aa)
  (λ{c2 V H z K D aG R E s} O m S hq aJ ho gD k=>by
   rw[←O,←m];refine fc (hq E s S) (λu' sx L=>?_) λU U x=>x;refine eR L λHx aB g=>?_;refine eR g λaC I aA=>?_;refine ik I λp ak=>?_;clear L g I;subst ak;refine fc (aA _ sx aB) (λv' l w=>?_) λU U x=>x;refine eR w λr o az=>?_;refine eR ho λaD aw F=>?_;have hl:aD.length=z.length:=by rw[←F];simp
   rw[O,m];refine wpAny_dictSet_pairs (hsz:=by rw[hl,nz];omega) (tF c.l c.k aC p) (tu.mpr (eu aG (gD _ _ _ o) aw)) λW ag af=>?_;refine eR (tu.mp ag) λaH T aj=>?_;exact k _ r l aH W (l.toks+1) o az (eu _ aj (by rw(occs:=eO) [IW,F];rfl)) T af)
  codeAny_compStart_dict ac i N av au A v hl S h aq
theorem MO{y:String}{q:fE}{G b e f:eP}{a:List eP}{t:jG}{o d:fE}{Y:List String}{X:List (ft×et)}{Q:gr->eJ->AH->Prop}(O:c.d)(i:c.i=eh)
  (W:tJ (qD G b [⟨e,f,a,0⟩] t o) (d9 (gk (eE y) q)) d.line c.a=f9 eb) (B:c.a.kindOf (eE y)=d9 ey)
  (R:rM t c.a=f9 X) (C:∀x∈Y,t.names.lookup (eE x)=d9 ey)
  (h:j6 c f e Y V H (λn g u Z=>∃J,Fm c t X G b a n g u Z J∧∀z M,J n z M->∀D,M D=eh->(D==mL)=em->Q fY (ic V y (ec D)) (eQ M D (.e z))))
  (N:∀x,pQ f c.a x=f9 x) (L:∀y∈t.names,y.2≠fK) (ae:t.kind=jH)
  (v:∀y∈t.names,y.2=ey->t.names.lookup y.1=d9 ey):
  T1 c (lm [gk (eE y) q] (qD G b [⟨e,f,a,0⟩] t o) d) V H Q:=λak s S=>by
 rw[Xn _ _ _ _ W];refine fv (rQ (fv ?_));show fi _ _ (do let _←xT (qD G b [⟨e,f,a,0⟩] t o) t c.a f.pos (newDict) em (jc f c.a) (d9 (oh (gk (eE y) q) c.a))) _ _ s;refine fv (fc (Pn O i N R L ae v C S (K:=λz M=>∀D,M D=eh->(D==mL)=em->Q fY (ic V y (ec D)) (eQ M D (.e z))) (j:=d9 (oh (gk (eE y) q) c.a)) (Q:=λU P=>∃l M,St c l M P∧Q fY l M) h
  λz M D aj P F hD aa j w I=>?_) (λU P hq=>iA (iA hq)) λU U x=>x)
 refine fL I λm hm=>?_;have A:=j P.heap P.toks (AP _ _);refine f5 (A.D (m:=m) i) λE K T af=>?_;show fi _ _ (oh (gk (eE y) q) c.a (ec D)) _ _ _;have k:P.heap.Ns c.a.locals E:=by rw[T];exact K.ns
 refine tK (Lb B k (λaq ag p=>?_) (by rw[O.b];rfl));have r:=A.A (x:=y) (v:=ec D) k af ag p (p:=P.toks+1);refine(eu m (hm.sameBut p w.e) (λau ac=>(ib _ _ ?_ (F D hD aa))));exact r.G w ac (p:=P.toks+1)
theorem He{F:Array ed}{X:List Int}(h:F.toList.map nv=X.map vi):DZ F.toList X:=zc h
theorem zd:∀{J:List ed} {X:List Int},DZ J X->J.map nv=X.map vi
 |_,_,.nil=>rfl
 |_,_,.cons n t h=>by rw[gj,gj,zd h];rfl
theorem Nk{l:et}{J:List ed}{Q:ed->AH->Prop}(C:H l=d9 (.a J))(f:J.length≤100000)(h:Q (vi J.length) H):
  TC c (iP "len") [ec l] V H Q:=λa s W S E=>by
 (refine nI E λx O Z=>?_;(clear E;obtain rfl:=O))
 obtain rfl:=gX Z;refine S.b.e C λF n L T=>?_;have w:=ke T;exact call_len_list (iU L) (by lia) (eu H (S.g _) (by rw[w];exact h))
theorem Nc{a:Int}{Q:ed->AH->Prop}(h:Q (vi (if a<0 then-a else a)) H):TC c (iP "abs") [vi a] V H Q:=λb s W S E=>by
 (refine nI E λx m Z=>?_;(clear E;obtain rfl:=m))
 (refine ik Z λt d=>?_;(clear Z;obtain rfl:=d))
 exact call_abs_int λu p=>(eu H (S.g _) h)
theorem Cc{F:Array ed}{X:List Int}(h:F.toList.map nv=X.map vi){i:Nat}{v:ed}(N:F[i]? =d9 v):∃t,v=ej (X.getD i 0) t:=by
 have K:(F.toList.map nv)[i]? =d9 (nv v):=by rw[lE,Dt,N];rfl
 rw[h,lE,xD] at K;refine eR K λa I g=>?_;rw[lD,I];refine ik g.symm λt z=>?_;exact⟨t,z⟩
theorem Nr{l:et}{X:List Int}{Q:ed->AH->Prop}(g:c.b.handled=eh)(C:H l=d9 (.a (X.map vi)))(h:Q (vi X.sum) H):
  TC c (iP "sum") [ec l] V H Q:=λa s W S E=>by
 (refine nI E λx M Z=>?_;(clear E;obtain rfl:=M))
 obtain rfl:=gX Z;refine S.b.e C λF n L T=>?_;have B:=l8 L;have w:=ke T;refine call_sum_walkAnyS (xZ (iU L) ?_);refine⟨s.heap.objs.size,_,_,_,F.size,_,_,(λi=>X.getD i 0),rfl,((Walks.list (A:=c.b.in1) g s.heap.objs.size l (rH B) F).toS),⟨(fQ _ (jf _ rfl) rfl rfl),(iU L).push _⟩,(λb j=>?_),(λi v N=>Cc T N),(λP D Y=>?_)⟩
 ·show b<(s.heap.push _).objs.size
  rw[tx];rcases gy.mp j with e|j
  ·rw[e];exact uJ _
  ·rw[gR.mp j];exact WO B
 ·have z:∀b o,s.heap.get? b=d9 o->P.heap.get? b=d9 o:=λb o e=>
   Y.heap b o (λO=>absurd (tv e) (by rw[gR.mp O];exact lg _)) (hY _ e)
  rw[Moved.eq_with Y];refine(eu H (S.k z (p:=P.toks)) ?_);rw[preSum_getD,Ku (by rw[w];simp)];exact h
theorem Nm{l:et}{X:List Int}{Q:ed->AH->Prop}(f:c.b.handled=eh)(C:H l=d9 (.a (X.map vi)))(G:0<X.length)(h:∀M,M∈X->(∀a∈X,a≤M)->Q (vi M) H):
  TC c (iP "max") [ec l] V H Q:=λm s W S E=>by
 (refine nI E λx P k=>?_;(clear E;obtain rfl:=P))
 obtain rfl:=gX k;refine S.b.e C λF n L T=>?_;have R:=He T;refine fL R.allInts.items λz e=>?_;have e:F=intItems z:=by simpa using e
 have I:X=z.toList.map (·.1):=by
  rw(occs:=eO) [←R.numsOf,←nums_intItems,←e]
 have r:0<z.size:=by
  have g:=G;rw[I,fC,tj] at g;exact g
 refine max_intList (xs:=z) f (e▸iU L) r λv u p N i=>?_
 (refine fL (intItems_at N) λt B=>?_;(clear N;obtain rfl:=B))
 refine fe (argBest_gt (numAt z) (z.size-1)) λK d=>?_;refine(eu H (S.k i) (h _ ?_ λa b=>?_))
 ·rw[I,numAt_eq];exact getD_mem (by rw[fC,tj];omega)
 ·rw[I] at b
  (refine eR (mem_getD b) λj J Z=>?_;(clear b;obtain rfl:=Z))
  rw[fC,tj] at J;rw(occs:=eO) [←numAt_eq];exact d j (by omega)
theorem Nt{l:et}{J:List ed}{Q:ed->AH->Prop}(C:H l=d9 (.a J))(f:J.length≤100000)(h:∀D,H D=eh->Q (ec D) (eQ H D (.f J))):
  TC c (eK "tuple") [ec l] V H Q:=λa s d S E=>by
 (refine nI E λx m Z=>?_;(clear E;obtain rfl:=m))
 obtain rfl:=gX Z;refine S.b.e C λF n L T=>?_;refine call_tuple_list (iU L) (λu z=>?_) (qo T f);have A:St c V H { s with heap:=u }:=S.k z (p:=s.toks);refine A.i (d:=u.objs.size) (X:=.f J) (u:=u.push { cls:=eK "tuple",data:=kQ F }) (p:=s.toks) (ku (ig _))
  (λb o e=>hY _ e) (jf _ rfl) (ib F 0 rfl T) λW q=>?_
 exact(eu _ q (h _ W))
theorem Nl{l:et}{J:List ed}{Q:ed->AH->Prop}(C:H l=d9 (.a J))(f:J.length≤100000)(h:∀D,H D=eh->Q (ec D) (eQ H D (.a J))):
  TC c (eK "list") [ec l] V H Q:=λa s e S E=>by
 (refine nI E λx d Z=>?_;(clear E;obtain rfl:=d))
 obtain rfl:=gX Z;refine S.b.e C λF n L T=>?_;refine call_list_seq l (eH rfl) L rfl rfl (λu b z A=>?_) (qo T f);refine S.i (d:=s.heap.objs.size) (X:=.a J) (u:=u) (p:=s.toks) (ku (ig _)) z A (ib F b rfl T) λW q=>?_;exact(eu _ q (h _ W))
theorem Nq{l:et}{X:List Int}{Q:ed->AH->Prop}(C:H l=d9 (.a (X.map vi)))(f:X.length<64)(h:∀(D:et) (j:List Int),j.Perm X->j.Pairwise (·≤·)->H D=eh->Q (ec D) (eQ H D (.a (j.map vi)))):
  TC c (iP "sorted") [ec l] V H Q:=λa s i S E=>by
 (refine nI E λx Y Z=>?_;(clear E;obtain rfl:=Y))
 obtain rfl:=gX Z;refine S.b.e C λF d L T=>?_;have r:=ke T;rw[fC] at r;refine sorted_ints (vs:=F.toList) (ns:=X) (by simpa using iU L) (He T) (by simpa [r] using f) λy j K I g=>?_;refine fL (sortedAll_at s.heap F.toList y) λe n=>?_;refine S.i (d:=s.heap.objs.size+1) (X:=.a (j.map vi)) (u:=sortedAll s.heap F.toList y) (p:=s.toks) (ku (xC _)) (λb o e=>sortedAll_old e) n (ib y e rfl (zd K)) λW q=>?_;exact(eu _ q (h _ j I g W))
theorem Np{d:et}{P:List (Int×ed)}{Q:ed->AH->Prop}(g:c.b.handled=eh)(F:H d=d9 (.e P))(U:(d==mL)=em)(X:P.length<64)
  (h:∀(D:et) (j:List Int),j.Perm (P.map (·.1))->j.Pairwise (·≤·)->H D=eh->Q (ec D) (eQ H D (.a (j.map vi)))):
  TC c (iP "sorted") [ec d] V H Q:=λaa s ws S E=>by
 (refine nI E λx f Z=>?_;(clear E;obtain rfl:=f))
 obtain rfl:=gX Z;refine S.b.g F λa L T=>?_;refine fL L.dictAt λB t=>?_;have w:a.length=P.length:=by rw[←T];simp
 have J:a.map (·.1)=P.map (·.1):=by rw[←T];simp
 refine call_function_entry kind_sorted plain_sorted entry_sorted (args_sorted1 _) ?_;unfold Builtin.«sorted»;refine fv (m:=checkCount "sorted" 1 1 _) (iA ?_);refine fv (kdu_collect (A:=c.b.in1) (kdl_dict (knd:=pR c.l c.k) (kvs:=a) (ep:=B) U) g t (by rw[w,nz];lia) λu p z G r=>?_);have C:z.toList.length=a.length:=by rw[tj];exact r.1
 refine fv (wpAny_newList ?_ (by rw[C,w,nz];lia));have m:DZ z.toList (a.map (·.1)):=by
  refine zc ?_;refine List.ext_getElem? λi=>?_;rw[lE,lE,lE];by_cases R:i<a.length
  ·have M:i<z.size:=by rw[←tj,C];exact R
   refine iH (r.2 i z[i] (Ds M)) λk x K I=>?_;rw[Dt,Ds M,K];refine fL (Xj I) λac N=>?_;rw[N];rfl
  ·rw[DG (by rw[C];lia),DG (by lia)];rfl
 have l:(u.push { cls:=eK "list",data:=kQ z.toList.toArray }).get? u.objs.size=d9 (seqObj "list" z.toList.toArray 0):=jf _ rfl;refine fv (rP (Et slot_list_sort (eu _ l rfl) entry_list_sort (list_sort_tree l m (by rw[C,w];exact X) λy j O v Y=>(eu _ rfl (iA (eu _ rfl ?_)))) (args_list_sort _)));have A:St c V H { s with heap:=u,toks:=p }:=S.k G;refine fL (sortedHeap_at (out:=y) l) λe n=>?_;refine A.i (d:=u.objs.size) (X:=.a (j.map vi)) (u:=sortedHeap (u.push { cls:=eK "list",data:=kQ z.toList.toArray }) u.objs.size z.toList y) (p:=p) (ku (ig _))
  (λb o e=>by rw[sortedHeap_old (rH (l8 e)) (by rw[tx];exact WO (l8 e))];exact hY _ e) n (ib y e rfl (zd O)) λW q=>?_
 exact(eu _ q (h _ j (J▸v) Y W))
theorem Cw{L j:Type}(f:L->j):∀(l:List L) (i:Nat),(l.eraseIdx i).map f=(l.map f).eraseIdx i
 |[],_=>rfl
 |_::_,0=>rfl
 |a::l,i+1=>by simp only[List.eraseIdx_cons_succ,gj,Cw f l i]
theorem GD{F:Array ed}{X:List Int}(h:F.toList.map nv=X.map vi)(k:Int)(t:Tok):∀y,y∈F->MeetsSeq.EqGives y (ej k t) (eU (nv y=vi k)):=λy B=>by
 refine fL (DS.mp (Array.mem_toList_iff.mpr B)) λi R=>?_
 (refine fL (Cc h (by rw[←Dt];exact R)) λu q=>?_;(clear B R;obtain rfl:=q))
 have:(eU (nv (ej (X.getD i 0) u)=vi k))=(X.getD i 0==k):=by
  rw(occs:=eO) [As];simp[nv,vi]
 rw[this];exact XZ _ _ _ _
theorem FE{F:Array ed}{X:List Int}(h:F.toList.map nv=X.map vi){i:Nat}(R:i<F.size):nv F[i]=vi (X.getD i 0):=by
 refine fL (Cc h (Ds R)) λt z=>?_;rw[z];rfl
theorem GY{F:Array ed}{X:List Int}{k:Int}(h:F.toList.map nv=X.map vi)(z:k∈X):∃J:X.idxOf k<F.size,eU (nv F[X.idxOf k]=vi k)=eb∧∀m (Y:m<F.size),m<X.idxOf k->eU (nv F[m]=vi k)=false:=by
 have S:F.size=X.length:=by have:=ke h;simpa using this
 have J:X.idxOf k<F.size:=by rw[S];exact List.idxOf_lt_length_of_mem z
 refine(eu J ?_ (λm Y B=>?_))
 ·rw[FE h J,lD,jF (by rw[←S];exact J)]
  simp
 ·rw(occs:=eO) [FE h Y,decide_eq_false_iff_not]
  intro e;have e:X.getD m 0=k:=by simpa [vi] using e
  rw[lD,jF (by rw[←S];exact Y)] at e;have q:=List.not_of_lt_findIdx B;rw[beq_eq_false_iff_ne] at q;exact q e
theorem Ni{l:et}{X:List Int}{k:Int}{Q:ed->AH->Prop}(C:H l=d9 (.a (X.map vi)))(z:k∈X)(f:X.length≤100000)(h:Q (vi (X.idxOf k:Nat)) H):
  TC c (iP "list.index") [ec l,vi k] V H Q:=by
 refine vb W8 F.entry_list_index λs x W S Z E=>?_;obtain rfl:=gX Z
 (refine nI E λy O B=>?_;(clear E;obtain rfl:=O))
 (refine ik B λt j=>?_;(clear B;obtain rfl:=j))
 refine S.b.e C λa n L T=>?_;refine eR (GY T z) λJ K I=>?_;have d:a.size=X.length:=by have:=ke T;simpa using this
 exact⟨(iU L).typeIs,F.args_list_index_2 _ _,_,MeetsSeq.list_index l a n (ej k t) (λy=>eU (nv y=vi k)) (GD T k t) (X.idxOf k) J (by lia) K I,λA b=>⟨L,H,S.g _,h⟩⟩
theorem No{l:et}{X:List Int}{k:Int}{Q:ed->AH->Prop}(C:H l=d9 (.a (X.map vi)))(z:k∈X)(f:X.length≤100000)(h:Q ez (eQ H l (.a ((X.eraseIdx (X.idxOf k)).map vi)))):
  TC c (iP "list.remove") [ec l,vi k] V H Q:=by
 refine vb Xa F.entry_list_remove λs x W S Z E=>?_;obtain rfl:=gX Z
 (refine nI E λy o B=>?_;(clear E;obtain rfl:=o))
 (refine ik B λt O=>?_;(clear B;obtain rfl:=O))
 refine S.b.e C λa n L T=>?_;refine eR (GY T z) λJ K I=>?_;have d:a.size=X.length:=by have:=ke T;simpa using this
 refine⟨(iU L).typeIs,F.args_list_remove_2 _ _,_,MeetsSeq.list_remove l a n (ej k t) (λy=>eU (nv y=vi k)) (GD T k t) (X.idxOf k) J K I (qo T (by simpa using f)),λA b=>⟨L,_,S.t C L ?_,h⟩⟩;rw(occs:=eO) [VU,dif_pos J,VW,Cw,Cw,T]
theorem EV{T id:String}{W:ft}{b:Builtin}{x:ed}{w:List ed}{Q:ed->AH->Prop}(q:Slot T W id)(j:entryFor table id=d9 b)
  (h:∀s v J,St c V H s->nv v=x->J.map nv=w->s.TypeIs v T∧argsOk id ⟨v::J,[]⟩ ∧∃S:Xi,MeetsIn c.l c.k (b ⟨v::J,[]⟩) S∧
   ∀A E,S A (wants (λr P=>∃M,St c V M P∧Q (nv r) M) E) s):TC c (iP id) (x::w) V H Q:=λE s J a p=>by
 cases J with
 |nil=>exact nL p
 |cons v J=>
  rw[gj,uF] at p
  (refine gY (h s v J a p.1 p.2) λK I O=>?_;refine eR O λS g y=>?_)
  refine xX (K0 q.plain j (q.check _ _ _ _ _ _ _ _ K I ?_));exact g c.b _ s (y c.b E)
theorem U3{a:List (Int×ed)}{P:List (Int×ed)}(h:a.map (λp=>(p.1,nv p.2))=P)(k:Int)(d:ed):nv ((xW a k).getD d)=(P.lookup k).getD (nv d):=by
 subst h
 induction a with
 |nil=>rfl
 |cons p r D=>
  rw[gj,iw];unfold xW at D ⊢;by_cases J:p.1=k
  ·rw[DE (by simpa using J)]
   clear D;subst J;simp
  ·rw[DD (by simpa using J)]
   have:(k==p.1)=false:=by rw(occs:=eO) [beq_eq_false_iff_ne];exactλe=>J e.symm
   rw[this];exact D
theorem Nf{d:et}{P:List (Int×ed)}{k:Int}{u:ed}{Q:ed->AH->Prop}(p:H d=d9 (.e P))(U:(d==mL)=em)(h:Q ((P.lookup k).getD u) H):
  TC c (iP "dict.get") [ec d,vi k,u] V H Q:=by
 refine EV W4 F.entry_dict_get λs x W S Z E=>?_;obtain rfl:=gX Z
 (refine fT (BJ E) λy z o B O=>?_;(clear E;obtain rfl:=o);obtain rfl:=O)
 (refine ik B λt Y=>?_;(clear B;obtain rfl:=Y))
 refine S.b.g p λa L T=>?_;refine⟨L.typeIs,F.args_dict_get_3 _ _ _,_,meets_dict_get_default (knd:=pR c.l c.k) d (hkey:=tF _ _ k t) U z,λA b=>(eu _ L.mapOf (eu H (S.g _) ?_))⟩;rw[U3 T];exact h
noncomputable def wP(P:List (Int×ed))(k:Int):List (Int×ed):=P.filter λp=>eU (p.1≠k)
theorem Ng{d:et}{P:List (Int×ed)}{k:Int}{u:ed}{Q:ed->AH->Prop}(p:H d=d9 (.e P))(R:P.lookup k=d9 u)(f:P.length≤100000)(h:Q u (eQ H d (.e (wP P k)))):
  TC c (iP "dict.pop") [ec d,vi k] V H Q:=by
 refine EV W5 F.entry_dict_pop λs x W S Z E=>?_;obtain rfl:=gX Z
 (refine nI E λy M B=>?_;(clear E;obtain rfl:=M))
 (refine ik B λt O=>?_;(clear B;obtain rfl:=O))
 refine S.b.g p λa L T=>?_;refine eR (Dj T R) λv b e=>?_;have w:a.length=P.length:=by rw[←T];simp
 refine⟨L.typeIs,F.args_dict_pop_2 _ _,_,meets_dict_pop_there (knd:=pR c.l c.k) d (hkey:=tF _ _ k t) [] (eH rfl) rfl,λA g=>(kK a v L (by rw[w,nz];lia) b (λi Y j=>?_))⟩;refine eR (tu.mp Y) λo D J=>?_;refine(eu _ (S.l (X:=.e (wP P k)) p j D (eu _ J ?_)) (by rw[e];exact h));unfold without wP;rw[←T,Kh];rfl
theorem IM{s P:eZ}{y j:eP}{l:et}{J:List ed}{Z O I:ed}{z R u:Option Int}{Y:List ed}{Q:ed->AH->Prop}{E:ed->eZ->Prop}
  {F:Array ed} (S:St c V H s) (L:s.heap.IsList l F) (T:F.toList.map nv=J) (f:J.length≤100000) (K:IsPart Z z) (U:IsPart O R) (G:IsPart I u) (w:u≠d9 0) {A:List ed} (n:∀F:Array ed,F.toList.map nv=J->(K6 F z R u).toList.map nv=A)
  (B:subscripted j em (ec l) (ec s.heap.objs.size)=operate Y (getItem (ec l) (ec s.heap.objs.size))) (h:∀D,H D=eh->Q (ec D) (eQ H D (.a A))):
  fi c.g c.b (subscriptTail y j (ec l) (ec s.heap.objs.size)) (λr P=>∃M,St c V M P∧Q (nv r) M) E { s with heap:=s.heap.push { cls:=eK "slice",data:=fB #[Z,O,I] } }:=by
 have C:St c V H { s with heap:=s.heap.push { cls:=eK "slice",data:=fB #[Z,O,I] } }:=S.k (λb o e=>hY _ e) (p:=s.toks);refine xE (L.push _).typeIs K7.lookup (wpAny_getItem_list_slice (L.push _) (XY ..) K U G w ?_ (qo T f)) B;obtain⟨W,q⟩ :=C.q (d:=(s.heap.push { cls:=eK "slice",data:=fB #[Z,O,I] }).objs.size) (X:=.a A) (u:=(s.heap.push { cls:=eK "slice",data:=fB #[Z,O,I] }).push { cls:=eK "list",data:=kQ (K6 F z R u) }) (p:=s.toks) (ku (ig _))
  (λb o e=>hY _ e) (jf _ rfl) (ib (K6 F z R u) 0 rfl (n F T))
 exact(eu _ q (h _ W))
theorem NV{y u:eP}{p d:fE}{Q:ed->AH->Prop}
  (h:TE c y V H (λv Z=>∃l,v=ec l∧TE c u V Z (λk T=>k=vi (-1)∧∃J,T l=d9 (.a J)∧J.length≤100000∧∀D,T D=eh->Q (ec D) (eQ T D (.a J.reverse))))):
  TE c (pL y (xJ eh eh (d9 u) p) d) V H Q:=λE s S=>by
 refine KC (fc (h E s S) (λv j G=>?_) λU U x=>x);obtain⟨Z,m,l,N,G⟩ :=G;obtain rfl:=gX N;refine wpAny_Slice (iA (iA (fc (G E j m) (λk K G=>?_) λU U x=>x)));obtain⟨T,r,z,J,C,f,G⟩ :=G;obtain⟨t,rfl⟩ :=um z;obtain⟨F,O,L,a⟩ :=r.b.i C;refine IM (P:=K) r (iU L) a f .none .none (.int (-1) t) (by decide) (A:=J.reverse) (λF R=>?_) rfl G;rw[krv_pick,←R];simp
theorem N3{a b:et}{J A:List ed}{Q:ed->AH->Prop}(M:H a=d9 (.a J))(j:H b=d9 (.a A))(g:J.length+A.length≤100000)(h:∀D,H D=eh->Q (ec D) (eQ H D (.a (J++A)))):
  nH c io (ec a) (ec b) V H Q:=λE s v u S N R=>by
 obtain rfl:=gX N;obtain rfl:=gX R;refine S.b.e M λd n L T=>?_;refine S.b.e j λO f l k=>?_;have I:=ke T;have w:=ke k;refine concat_meets (iU L).typeIs (iU l).typeIs noFill_list_add seq_list_add F.slot_list_add F.entry_list_add (F.args_list_add_2 _ _) (AutoSeq1.list___add___list_list_0 a d n b O f (by rw[I,w,nz];lia)) ⟨L,l,?_⟩;refine S.i (d:=s.heap.objs.size) (X:=.a (J++A)) (u:=s.heap.push { cls:=eK "list",data:=kQ (d++O) }) (p:=s.toks) (ku (ig _))
  (λb o e=>hY _ e) (jf _ rfl) (ib (d++O) 0 rfl (by rw[J8,lb,T,k])) λW q=>?_
 exact(eu _ q (h _ W))
theorem SY{x:ed}{n:Nat}:List.foldl (λr g=>r++g) #[] (iJ (if(#[x]:Array ed).isEmpty=eb then 0 else n) #[x])=(iJ n x).toArray:=by
 rw[listMul_foldl_if]
 congr 1
 induction n with
 |zero=>rfl
 |succ n D=>rw[Ks,List.flatten_cons,D,Ks];rfl
theorem N7{a:et}{x:ed}{n:Int}{Q:ed->AH->Prop}(M:H a=d9 (.a [x]))(f:n≤100000)(w:-100000≤n)(h:∀D,H D=eh->Q (ec D) (eQ H D (.a (iJ n.toNat x)))):
  nH c jb (ec a) (vi n) V H Q:=λE s v u S N R=>by
 obtain rfl:=gX N
 (refine ik R λt O=>?_;(clear R;obtain rfl:=O))
 refine S.b.e M λd k L T=>?_;have Y:=L;clear Y;obtain⟨y,rfl,B⟩ :∃y,d=#[y]∧nv y=x:=by
  refine nI T λy K I=>?_;exact(eu y (by rw[←Array.toArray_toList (xs:=d),K]) I)
 refine wpAny_binaryOp_repeat_ref (T:="list") (U:="int") (by decide) (eu _ L rfl) (λP=>typeIs_int P n t) noFill_list_mul F.fills_int_mul W6 repeat_list F.slot_int_index.lookup
  (call_meets W6 (typeIs_int s n t) F.entry_int_rmul (F.args_int_rmul_2 _ _) (int___rmul___int_list n t a #[y] k)
   ⟨L,rfl,(eu _ L rfl),call_meets F.slot_list_mul (eu _ L rfl) F.entry_list_mul (F.args_list_mul_2 _ _)
    (AutoListH.list___mul___list_int_3 a #[y] k n t (by simp[KD];lia) (by simp;lia) (by simp[KE,sizeLine];lia))
    ⟨L,?_⟩⟩)
 rw[SY];refine S.i (d:=s.heap.objs.size) (X:=.a (iJ n.toNat x)) (u:=s.heap.push { cls:=eK "list",data:=kQ (iJ n.toNat y).toArray }) (p:=s.toks) (ku (ig _))
  (λb o e=>hY _ e) (jf _ rfl) (ib ((iJ n.toNat y).toArray) 0 rfl (by simp[B])) λW q=>?_
 exact(eu _ q (h _ W))
theorem St.B{s:eZ}{a:et}{v:Option ed}(S:St c V H s)(h:H a=d9 (.g v)):∃m,s.heap.IsCell a m∧m.map nv=v:=by
 refine Ic (S.b.f a _ h) λl K m I g=>?_;exact(eu m (eu l K I) g)
theorem E4{x:String}{d:fE}{a:et}{v:ed}{Q:ed->AH->Prop}(O:c.d)(Z:c.a.kindOf (eE x)=d9 fK)(X:c.a.cells.lookup (eE x)=d9 a)(N:H a=d9 (.g (d9 v)))(h:Q v H)
  (p:(eE x==("__debug__":ft))=em):TE c (gk (eE x) d) V H Q:=λE s S=>by
 refine eR (S.B N) λb L T=>?_
 (refine wy T λu e m=>?_;(clear T;obtain rfl:=e);(clear N;obtain rfl:=m))
 exact wpAny_Name (wpAny_loadName_cell O.b Z X L (eu H S h)) p
theorem Fc{x:String}{a:et}{v:ed}{I:Option ed}{Q:eJ->AH->Prop}(O:c.d)(Z:c.a.kindOf (eE x)=d9 fK)(X:c.a.cells.lookup (eE x)=d9 a)(N:H a=d9 (.g I))(h:Q V (eQ H a (.g (d9 v)))):
  TN c x v V H Q:=λE s b S C=>by
 refine eR (S.B N) λe L T=>?_;refine wpAny_storeName_cell O.b Z X L λu R j=>?_;refine eR R λl d y=>?_;exact(ib V _ (S.l (X:=.g (d9 v)) (u:=u) (g:=s.toks) N j d (eu (d9 b) y (by rw[KB,C]))) h)
theorem Ry{h:fH}{L:et}{m G:ft->Option ed}(a:h.Ns L m)(b:h.Ns L G):m=G:=by
 refine mX a λo w B D p U y=>?_;refine mX b λX R Y A S U I=>?_;rw[D] at A;obtain rfl:=eX A;rw[p] at S;clear U;cases S
 funext x
 rw(occs:=eO) [←y,←I]
theorem St.P{s:eZ}{u:fH}{p:Nat}(S:St c V H s)(D:∀m,Fr c.f c.h s.heap m->Fr c.f c.h u m)(z:∀U o,U≠c.h->s.heap.get? U=d9 o->u.get? U=d9 o):St c V H { s with heap:=u,toks:=p }:=by
 obtain⟨⟨m,F,Y⟩,R,f,d,k⟩ :=S;refine⟨(eu m (D m F) ?_),⟨λa x Z=>?_,R.b⟩,λa x Z=>⟨z a x (f a x Z).2.1 (f a x Z).1,(f a x Z).2⟩,d,k⟩
 ·cases i:c.i with
  |none=>rw[i] at Y;exact Y
  |some h=>
   rw[i] at Y
   (refine kB Y λK O W P=>?_;refine gY P λg y J=>?_;refine oC W λo w B b r=>?_)
   exact⟨K,O,(pg o w B (z _ _ y b) r),g,y,J⟩
 ·refine R.d a x Z λl L T=>?_
  exact(eu l (z a l (R.b a x Z).1 L) T)
theorem St.x{s:eZ}{a:et}{o:AO}{l:fN}(S:St c V H s)(M:s.heap.get? a=d9 l)(D:OR c.l c.k o l)(K:rU c H a):St c V (eQ H a o) s:=by
 obtain⟨⟨m,F,Y⟩,R,f,d,k⟩ :=S;refine⟨(eu m F ?_),⟨λb x Z=>?_,λb x Z=>?_⟩,λb x Z=>⟨(f b x Z).1,(f b x Z).2.1,(f b x Z).2.2.1,(f b x Z).2.2.2.1,?_⟩,d,k⟩
 ·cases i:c.i with
  |none=>rw[i] at Y;exact Y
  |some h=>
   rw[i] at Y
   (refine kB Y λp O I n=>?_;refine i8 n λg y J N=>?_)
   exact⟨p,O,I,g,y,J,(fw _ _ (gM K.e)).trans N⟩
 ·by_cases j:b=a
  ·clear K
   subst j;rw[gA] at Z;obtain rfl:=eX Z;exact(eu l M D)
  ·rw[fw _ _ j] at Z;exact R.f b x Z
 ·by_cases j:b=a
  ·clear M Z
   subst j;exact⟨K.f,K.g⟩
  ·rw[fw _ _ j] at Z;exact R.b b x Z
 ·have L:b≠a:=λe=>K.b x (by rw[←e];exact Z)
  rw[fw _ _ L];exact(f b x Z).2.2.2.2
noncomputable def cA(c:Cx)(C:et)(i:List ed):Cx:={ c with b:=c.b.under (uN "type.__call__" ⟨ec C::i,[]⟩) }
theorem Cx.d.l(O:c.d){C:et}{i:List ed}:(cA c C i).d:=⟨O.f,O.a,O.d,O.e,O.g,O.h,O.b,O.i,O.j⟩
theorem St.C{s:eZ}{C:et}{i:List ed}(S:St c V H s):St (cA c C i) V H s:=⟨S.e,⟨S.b.f,S.b.b⟩,S.d,S.p,S.n⟩
theorem St.E{s:eZ}{C:et}{i:List ed}(S:St (cA c C i) V H s):St c V H s:=⟨S.e,⟨S.b.f,S.b.b⟩,S.d,S.p,S.n⟩
theorem EU{C n:et}{w:List ed}{Q:ed->AH->Prop}(O:c.d)(Y:makesIn c.e C=eb)(hi:rJ c.e (ec C) "__init__"=d9 (d9 (ec n)))(y:typeIn c.e (ec n)=d9 (eK "function"))
  (h:∀x j i,H x=eh->H j=eh->x≠j->lL (cA c C i) (ec n) (ec x::w) V (eQ (eQ H j (.b [])) x (.h C j)) (λv M=>v=ez∧Q (ec x) M)):TC c (ec C) w V H Q:=λaa s J S p=>by
 have W:=S;obtain⟨⟨m,F,d⟩,_⟩ :=S;have N:=HM (q:=c.f) (L:=c.h) (h:=s.heap);refine xX (make_K F N (O.a.keeps F.keep) Y hi y λx j u F' l U B=>?_);have T:=l (x,_) (gL _);have E:=l (j,_) (gu _ (gL _));have z:∀b o,b≠c.h->s.heap.get? b=d9 o->u.get? b=d9 o:=λb o hb e=>by
  cases A:c.f.get? b with
  |none=>exact(l (b,o) (gu _ (gu _ (wz.mpr ⟨e,hb,A⟩)))).1
  |some o'=>
   have:=F.keep _ _ A;rw[e] at this;obtain rfl:=eX this;exact F'.keep _ _ A
 have k:∀b,b≠c.h->c.f.get? b=eh->j≤b->s.heap.get? b=none:=λb K I g=>by
  cases A:s.heap.get? b with
  |none=>rfl
  |some o=>exact absurd (U (b,o) (wz.mpr ⟨A,K,I⟩)) (Kx.mpr g)
 have t:=k x T.2.1 T.2.2 (Nat.le_of_lt B);have Z:=k j E.2.1 E.2.2 (ig _);have a:=W.h t;have f:=W.h Z;have ae:St c V H { s with heap:=u,toks:=s.toks }:=W.P (λm' L=>by
  clear d;obtain rfl:m'=m:=Ry L.ns F.ns;exact F') z
 have D:=ae.x (o:=.b []) E.1 (ib ([]) 0 rfl rfl) f;have P:x≠j:=uK B;have q:=D.x (o:=.h C j) T.1 rfl ⟨a.f,a.e,a.g,(fw _ _ P).trans a.d,a.b⟩;refine codeAny_mono (h x j J a.d f.d P aa { s with heap:=u,toks:=s.toks } (ec x::J) q.C (by rw[gj,p];rfl)) λr s' R=>?_;cases r with
 |error e=>exact R
 |ok X=>
  cases X with
  |ret v=>
   refine f5 R λM ac hv G=>?_;exact⟨wH hv,M,ac.E,G⟩
  |next=>exact R.elim
  |brk=>exact R.elim
  |cont=>exact R.elim
def Z2(e:et)(h:fH):Prop:=∃o J,h.get? e=d9 o∧o.data=fB J∧J[2]? =d9 ez
section
variable{M:Model}{A:jZ}{E:ed->eZ->Prop}{s:eZ}
theorem GB{O:fH}{B:iN}{l:List iN}{L e:et}{v:fN}{J:Array ed}{T N:ed}{ac:Bool}{Q:Unit->eZ->Prop}
  (R:A.frames=d9 (B::l)) (C:s.heap.FunFrames O (B::l)) (y:B.frame=d9 L)
  (n:s.heap.get? e=d9 v) (d:O.StaysIn s.heap) (W:O.get? e=eh) (p:v.data=fB J) (r:1<J.size) (w:J[0]? =d9 N) (I:J[2]? =d9 ez)
  (h:∀u,KL O (B::l) e v.cls N (kT L) s.heap u->Z2 e u->Q () { s with heap:=u }):
  fi M A (do let a←frameOf B;let K←entryPlaceOf L ac;let b←W2 T a ez (kT L) ez K;setField (ec e) 1 b) Q E s:=by
 have U:e∉(B::l).filterMap (·.frame):=λY=>by
  refine kB (C.mem Y) λaf o D Z=>?_;rw[n] at D;obtain rfl:=eX D;exact Z J p
 refine fv (wpAny_frameOf_fun R C y λV m=>fv (wpAny_entryPlaceOf λK X=>?_));unfold W2 newFields;refine fv (A0 ?_ (X.sizeOk5 _ _ _ _ _));have f:V.get? e=d9 v:=(m.2.1 e U).trans n;have z:O.StaysIn V:=λb o G=>(m.2.1 b λY=>by rw[(C.mem Y).1] at G;exact nS G).trans (d b o G);have k:V.objs.size≠e:=uK (tv f);generalize t:({ cls:=eK "traceback",dict:=eh,data:=fB ([T,ec L,ez,kT L,ez]++(if K.isEmpty then iJ 6 ez else K)).toArray }:fN)=F;have P:(V.push F).get? e=d9 v:=hY _ f;have aa:(V.push F).get? V.objs.size=d9 F:=jf _ (by rw[←t];rfl);have g:=KO p (·.setIfInBounds 1 (ec V.objs.size));have c:=xN (uQ (·.setIfInBounds 1 (ec V.objs.size))) P (Xh g);have i:∀b o,b≠e->V.get? b=d9 o->((V.push F).update e (uQ (·.setIfInBounds 1 (ec V.objs.size)))).get? b=d9 o:=
  λb o ae j=>(xM _ _ (gM ae)).trans (hY _ j)
 have H:∀b o,s.heap.get? b=d9 o->(∀J,o.data≠fB J)->b≠e:=λb o j Z q=>by
  rw[q,n] at j;obtain rfl:=eX j;exact Z J p
 refine Ey P p r (h _ ⟨λb o G=>i b o (λq=>by rw[q,W] at G;exact nS G) (z b o G),C.of_keeps λb o j Z=>?_,?_,λb o j Z=>?_⟩ ?_)
 ·refine fL (m.2.2 b o j) λx S=>?_
  exact(eu _ (i b _ (H b o j Z) S) rfl)
 ·refine⟨_,_,V.objs.size,F,(([T,ec L,ez,kT L,ez]++(if K.isEmpty then iJ 6 ez else K)).toArray),c,⟨Obj.cls_mapFields _ _,by rw[VV (by decide)];exact w⟩,g,(by simp[r]),z.fresh,k,((xM _ _ (gM k)).trans aa),(by rw[←t]),?_⟩
  first|(simp;done)|(rcases X with rfl|⟨_,_,_,_,_,_,_,rfl⟩ <;>simp)
 ·refine fL (m.2.2 b o j) λx S=>?_
  exact⟨x,i b _ (H b o j Z) S⟩
 ·exact(fS _ _ c g (by rw[VV (by decide)];exact I))
theorem Ru{O:fH}{B:iN}{l:List iN}{L e:et}{v:fN}{J:Array ed}{N:ed}{Q:Unit->eZ->Prop}
  (R:A.frames=d9 (B::l)) (C:s.heap.FunFrames O (B::l)) (y:B.frame=d9 L)
  (n:s.heap.get? e=d9 v) (d:O.StaysIn s.heap) (W:O.get? e=eh) (p:v.data=fB J) (K:J[1]? =d9 ez) (w:J[0]? =d9 N) (I:J[2]? =d9 ez)
  (h:∀u,KL O (B::l) e v.cls N (kT L) s.heap u->Z2 e u->Q () { s with heap:=u }):fi M A (tG (ec e) B) Q E s:=by
 unfold tG;simp only[y];refine fv (pS n p K ?_);rw[if_neg (by decide)];exact GB R C y n d W p (Ar.mp K).1 w I h
theorem HU{O:fH}{B:iN}{l:List iN}{L e:et}{D N:ed}{Q:Unit->eZ->Prop}
  (R:A.frames=d9 (B::l)) (C:s.heap.FunFrames O (B::l)) (y:B.frame=d9 L) (z:s.heap.TracedW O e D N) (f:Z2 e s.heap) (d:O.StaysIn s.heap) (W:O.get? e=eh)
  (h:∀u,KL O (B::l) e D N (kT L) s.heap u->Z2 e u->Q () { s with heap:=u }):fi M A (tG (ec e) B) Q E s:=by
 (refine uq z λv J T F a n c p g2=>?_;refine zE g2 λK V k t m g=>?_;refine fe c λP w=>?_)
 refine fT f λx i Y S I=>?_;rw[n] at Y;obtain rfl:=eX Y;rw[p] at S;cases S;clear z c;subst P;unfold tG;simp only[y];refine fv (pS n p K ?_);rw[if_pos (show(ec T !=ez)=eb from by simp)];refine fv (pS t m g ?_);rw[if_neg (show¬((ez==kT L)=eb) from by simp[kT])];refine fv (Ey t m (Ar.mp g).1 ?_);have U:∀b,b≠T->(s.heap.update T (uQ (·.setIfInBounds 3 ez))).get? b=s.heap.get? b:=λb j=>xM _ _ (gM j);have H:∀b o,s.heap.get? b=d9 o->(∀J,o.data≠fB J)->b≠T:=λb o j Z q=>by
  rw[q,t] at j;obtain rfl:=eX j;exact Z a m
 exact GB R (C.of_keeps λb o j Z=>(eu o ((U b (H b o j Z)).trans j) rfl)) y ((U e (gM k)).trans n)
  (λb o G=>(U b λq=>by rw[q,V] at G;exact nS G).trans (d b o G)) W p (Ar.mp K).1 w I
  λu q1 aa=>i8 q1 λr x2 X x4=>h u ⟨r,x2,X,λb o j Z=>x4 b o ((U b (H b o j Z)).trans j) Z⟩ aa
theorem yV{O:fH}{l:List iN}{e:et}{D N X:ed}{Q:Unit->eZ->Prop}
  (d:O.StaysIn s.heap) (C:s.heap.FunFrames O l) (z:s.heap.TracedAtW O e D N X) (c:Z2 e s.heap)
  (h:∀u,O.StaysIn u->u.FunFrames O l->u.TracedW O e D N->s.heap.UpToSlots u->Z2 e u->Q () { s with heap:=u }):
  fi M A (K5 (ec e) eh) Q E s:=by
 (refine uq z λv J T F a n P p W=>?_;refine zE W λK V k t m g=>?_)
 refine fT c λx i Y S I=>?_;rw[n] at Y;obtain rfl:=eX Y;rw[p] at S;cases S;have L:3<a.size:=(Ar.mp g).1;have U:∀b,b≠T->(s.heap.update T (uQ (·.setIfInBounds 3 ((eh:Option et).elim ez λf=>kT f)))).get? b=s.heap.get? b:=
  λb j=>xM _ _ (gM j)
 have H:∀b o,s.heap.get? b=d9 o->(∀J,o.data≠fB J)->b≠T:=λb o j Z q=>by
  rw[q,t] at j;obtain rfl:=eX j;exact Z a m
 unfold K5;refine fv (pS n p K ?_);rw[if_pos (show(ec T !=ez)=eb from by simp)];refine Ey t m L (h _ (λb o G=>(U b λq=>by rw[q,V] at G;exact nS G).trans (d b o G))
  (C.of_keeps λb o j Z=>(eu o ((U b (H b o j Z)).trans j) rfl)) ?_ (λb o j Z=>⟨o.slots,(U b (H b o j Z)).trans j⟩) (fS v J ((U e (gM k)).trans n) p I))
 exact⟨v,J,T,_,_,((U e (gM k)).trans n),P,p,K,V,k,(xN _ t (Xh (KO m _))),(KO m _),(by simp[L])⟩
end
noncomputable def fs(c:Cx):List Addr:=(c.n::c.o).filterMap (·.frame)
noncomputable def fo(c:Cx):List Addr:=c.o.filterMap (·.frame)
theorem rn(O:c.d){b:et}(h:b∈fs c):b=c.h∨b∈fo c:=by
 unfold fs at h;rw[DB,O.g] at h;exact gy.mp h
theorem yW(O:c.d){b:et}(h:b∈fo c):c.m.get? b=eh∧∃o,c.f.get? b=d9 o∧∀J,o.data≠fB J:=O.f.frames.mem h
theorem yX(O:c.d){b:et}(h:b∈fo c){G:Prop}(N:c.m.get? b=eh->∀o,c.f.get? b=d9 o->(∀J,o.data≠fB J)->G):G:=kB (yW O h) N
structure mo(c:Cx)(ρ:eJ)(H:AH)(e C:et)(s:eZ):Prop where
 h:∃G B m a0,Fr c.f c.h G m∧(c.a.locals=c.h∧j4 ρ m)∧(∀b o,G.get? b=d9 o->b∉fs c->B.get? b=d9 o)∧
  (∀a o,H a=d9 o->(∃ro,B.get? a=d9 ro∧OR c.l c.k o ro)∧a≠c.h∧c.f.get? a=eh)∧
  (∀a o,c.j a o->B.get? a=d9 o∧a≠c.h∧a≠c.a.locals∧c.f.get? a=eh∧H a=eh)∧
  D7 B (c.n::c.o) e (ec C) a0 s.heap∧G.UpToSlots s.heap∧c.m.StaysIn B
 g:s.gens=#[]
 j:s.os=c.u
 i:Z2 e s.heap
abbrev jt(H:AH)(s:eZ):Heap:=lq s.heap ((j9 H s.heap).map (·.1))
theorem GV{s:eZ}{H:AH}{b:et}{o:fN}(h:s.heap.get? b=d9 o)(z:H b=eh):(jt H s).get? b=d9 o:=AU _ h λq=>by
 refine fP q λp J n=>?_;have:=(sY.mp J).1;rw[n,z] at this;exact nB this
theorem EJ{y:eJ}{Z:AH}{x:eZ}{L:et}{aa:iN}{e C:et}{N:ed}{s:eZ}{B:fH}(O:c.d)(n:c.i=eh)(J:St c y Z x)
  (i:∀b o,(jt Z x).get? b=d9 o->b∉fs c->B.get? b=d9 o) (z:∀a o,H a=d9 o->(∃l,B.get? a=d9 l∧OR c.l c.k o l)∧(jt Z x).get? a=eh)
  (r:D7 B (c.n::c.o) e (ec C) N s.heap) (P:(jt Z x).UpToSlots s.heap) (I:c.m.StaysIn B) (A:s.gens=#[]) (D:s.os=c.u) (p:Z2 e s.heap):mo c y H e C s:=by
 obtain⟨⟨m,F,Y⟩,R,f,d,k⟩ :=J;rw[n] at Y;obtain⟨W,V,u,-⟩ :=groundX (R:=λU U=>True) O.f F R.k O.e O.g O.h;have g:(jt Z x).get? c.h≠none:=λq=>by
  refine oC W.ns λo w ep K U=>?_;rw[K] at q;exact iX q
 have T:∀a,(jt Z x).get? a=eh->a≠c.h∧c.f.get? a=none:=λa M=>by
  refine⟨λq=>g (q▸M),?_⟩;cases G:c.f.get? a with
  |none=>rfl
  |some o=>have:=u a o G;rw[M] at this;exact nS this
 refine⟨(we (jt Z x) B m N W Y i (λa o h=>⟨(z a o h).1,T a (z a o h).2⟩) ⟨(λa o h=>?_),r,P,I⟩),A,D,p⟩;refine md (f a o h) λQ E t v S=>?_;have j:=GV Q S;refine⟨i a o j λq=>?_,E,t,v,?_⟩
 ·rcases rn O q with q|q
  ·exact E q
  ·refine yX O q λU X K U=>?_
   rw[v] at K;exact nS K
 ·cases G:H a with
  |none=>rfl
  |some X=>have:=(z a X G).2;rw[j] at this;exact iX this
theorem Ls{y:eJ}{Z:AH}{x:eZ}{L:et}{B:iN}{e C:et}{s:eZ}{E:ed->eZ->Prop}(O:c.d)(i:c.i=eh)(J:St c y Z x)
  (r:(iM c (jt Z x) L B).d) (T:(jt Z x).get? L=eh) (F:mo (iM c (jt Z x) L B) V H e C s):fi c.g (c.b.deeper B) (Ek B (ec e)) (λaa P=>mo c y H e C P) E s:=by
 obtain⟨⟨w,R,G,N,A,_,U,n,_,⟨Y,f2,D,M⟩,K,I⟩,d,k,p⟩ :=F;unfold Ek;refine fv (HU r.e D r.g M p Y f2 λac q2 z=>i8 q2 λn1 f m Q=>yV n1 f m z λu S l t X v=>?_);have x1:D7 R (c.n::c.o) e (ec C) N u:=⟨S,f2,l.2.2,t⟩;have g:s.heap.UpToSlots u:=Xf Q X;refine EJ O i J (L:=L) (aa:=B) (λb o j W=>U b o (A.keep b o j) λq=>?_) (λa o h=>⟨(n a o h).1,(n a o h).2.2⟩) x1 ((Xe A.keep).trans (K.trans g)) I d k v;rcases rn r q with q|q
 ·have q:b=L:=q
  rw[q,T] at j;exact nS j
 ·exact W q
theorem Lr{y:eJ}{Z:AH}{x:eZ}{L:et}{B:iN}{e C:et}{s:eZ}{v:fN}{J:Array ed}{N:ed}{E:ed->eZ->Prop}(O:c.d)(i:c.i=eh)(af:St c y Z x)
  (r:(iM c (jt Z x) L B).d) (T:(jt Z x).get? L=eh) (S:St (iM c (jt Z x) L B) V H s) (n:H e=d9 (.c v)) (X:v.cls=ec C) (p:v.data=fB J) (K:J[1]? =d9 ez) (w:J[0]? =d9 N) (I:J[2]? =d9 ez):
  fi c.g (c.b.deeper B) (Ek B (ec e)) (λU P=>mo c y (o9 H e) e C P) E s:=by
 obtain⟨⟨aq,F,hm⟩,R,hz,d,k⟩ :=S
 (refine R.d e _ n λro Q e4=>?_;obtain rfl:=e4)
 have aa:=(pushX r.f F r.g r.h).frames;have ac:∀t∈(B::c.n::c.o),∀b,t.frame=d9 b->b∈e::fs (iM c (jt Z x) L B):=λt n b j=>gC _ (DR.mpr (eu t n j));have g:∀a o,H a=d9 o->a∉fs (iM c (jt Z x) L B):=λa o M q=>by
  rcases rn r q with q|q
  ·exact(R.b a o M).1 q
  ·refine yX r q λU o' K U=>?_
   rw[(R.b a o M).2] at K;exact nS K
 have Y:c.m.StaysIn (lq s.heap (e::fs (iM c (jt Z x) L B))):=λb o q=>by
  have A:(jt Z x).get? b=d9 o:=r.f.stays b o q;refine AU _ (F.keep b o A) λae=>?_;rcases gy.mp ae with z|z
  ·have:=(R.b e _ n).2
   rw[←z] at this;have this:(jt Z x).get? b=none:=this;rw[A] at this;exact iX this
  ·rcases rn r z with z|z
   ·have z:b=L:=z
    rw[z,T] at A;exact nS A
   ·have:=(yW r z).1
    have this:c.m.get? b=none:=this;rw[q] at this;exact iX this
 unfold Ek;refine fv (Ru r.e (funFrames_hide aa ac) r.g Q (λb o q=>AX _ q) (AV _ (gL _)) p K w I λak q3 z=>i8 q3 λn1 f m n4=>yV n1 f m z λu D l l3 y4 ag=>?_);have l2:=l.2.2;have l4:s.heap.UpToSlots u:=Xf n4 y4;refine EJ O i af (L:=L) (aa:=B) (λb o j W=>AU _ (F.keep b o j) λq=>?_) (λa o h=>?_) ⟨D,AV _ (gL _),l2,X▸l3⟩ ((Xe F.keep).trans l4) Y d k ag
 ·rcases gy.mp q with z|z
  ·have:=(R.b e _ n).2
   rw[←z] at this;have this:(jt Z x).get? b=none:=this;rw[j] at this;exact iX this
  ·rcases rn r z with z|z
   ·have z:b=L:=z
    rw[z,T] at j;exact nS j
   ·exact W z
 ·unfold o9 at h
  split at h
  ·exact nS h
  ·rename_i G
   refine R.d a o h λaj r1 r2=>?_;refine⟨(eu aj (AU _ r1 λq=>?_) r2),(R.b a o h).2⟩;rcases gy.mp q with z|z
   ·exact G z
   ·exact g a o h z
theorem mo.d{e C:et}{s:eZ}(O:c.d)(g:c.i=eh)(R:c.e.In c.m)(u:rI c.p (rK c.p []) c.r c.s c.m)(F:mo c V H e C s):
  ∃W,uU (fo c) c.f W∧({ c with f:=W }:Cx).d∧St { c with f:=W } V H s:=by
 obtain⟨⟨G,B,m,N,L,hl,M,z,f,r,K,aa⟩,d,k,_⟩ :=F;have w:c.f.get? c.h=none:=kts_self L;obtain⟨T,S⟩ :=kts_turn_at (h:=s.heap) (fs:=fo c) (g:=c.f) (λb j=>let⟨_,o,D,_⟩ :=yW O j;⟨o,D⟩)
  (λb o P J=>r.1 b o (M b o (L.keep b o P) λq=>by
   rcases rn O q with q|q
   ·rw[q,w] at P;exact nS P
   ·exact J q))
  (λb o P Y=>by
   refine yX O Y λU X A p=>?_;rw[P] at A;obtain rfl:=eX A;exact K b o (L.keep b o P) p)
 refine(fQ _ T ?_ ⟨(eu m ⟨K.ns L.ns,S,by show(ktsHeap s.heap (fo c) c.f).objs.size≤c.h;rw[T.size];exact L.above⟩ ?_),⟨λa o h=>?_,λa o h=>?_⟩,λa o h=>?_,d,k⟩)
 ·have i:Below c.t c.m c.o (ktsHeap s.heap (fo c) c.f):=⟨O.f.stack,λb o P=>T.other b o (O.f.stays b o P) (λY=>by
   rw[(yW O Y).1] at P;exact nS P),O.f.frames.of_keeps λb o P U=>by
    refine fL (T.up P) λx hs=>?_;exact(eu _ hs rfl)⟩
  exact⟨i,R.keeps i.stays,u.keeps i.stays,O.e,O.g,O.h,O.b,O.i,O.j⟩
 ·rw[show({ c with f:=ktsHeap s.heap (fo c) c.f }:Cx).i=eh from g];exact hl
 ·(refine fe (z a o h) λn U=>?_;refine eR n λl Z y=>?_)
  exact(eu l (r.1 _ _ Z) y)
 ·refine gY (z a o h) λU I r4=>?_
  exact⟨I,T.none_ _ r4⟩
 ·refine md (f a o h) λQ E t v z5=>?_
  exact⟨r.1 _ _ Q,E,t,T.none_ _ v,z5⟩
end
section
variable{c:Cx}{V:eJ}{H:AH}
def tT(c:Cx)(X:et->AH->Prop)(e:ed)(s:eZ):Prop:=∃a C,e=ec a∧((∃V H,mo c V H a C s∧X C H)∨
 (∃V H v J N,St c V H s∧H a=d9 (.c v)∧v.cls=ec C∧v.data=fB J∧J[1]? =d9 ez∧J[0]? =d9 N∧J[2]? =d9 ez∧X C (o9 H a)))
def BD(c:Cx)(e:eP)(V:eJ)(H:AH)(Q:ed->AH->Prop)(X:et->AH->Prop):Prop:=
 ∀(E:ed->eZ->Prop) s,St c V H s->(∀e P,tT c X e P->E e P)->fi c.g c.b (jc e c.a) (λv P=>∃M,St c V M P∧Q (nv v) M) E s
def qb(c:Cx)(u:fG)(V:eJ)(H:AH)(Q:gr->eJ->AH->Prop)(X:et->AH->Prop):Prop:=
 ∀(E:ed->eZ->Prop) s,St c V H s->(∀e P,tT c X e P->E e P)->fi c.g c.b (exec u c.a) (λf P=>∃l M,St c l M P∧Q (nf f) l M) E s
def mQ(c:Cx)(O:List fG)(V:eJ)(H:AH)(Q:gr->eJ->AH->Prop)(X:et->AH->Prop):Prop:=
 ∀(E:ed->eZ->Prop) s,St c V H s->(∀e P,tT c X e P->E e P)->fi c.g c.b (uW O c.a) (λf P=>∃l M,St c l M P∧Q (nf f) l M) E s
set_option backward.match.sparseCases true in
def mP(c:Cx)(f:ed)(w:List ed)(V:eJ)(H:AH)(Q:ed->AH->Prop)(X:et->AH->Prop):Prop:=
 ∀(E:ed->eZ->Prop) (s:eZ) (J:List ed),St c V H s->J.map nv=w->(∀a C M P,mo c V M a C P->X C M->E (ec a) P)->
  qJ c.g c.b (.call f ⟨J,[]⟩) (λ(r:pO) (P:eZ)=>match r with|kD (iV v)=>(∃M,St c V M P∧Q (nv v) M)|kD _=>False|xo e=>E e P) s
variable{X:et->AH->Prop}
theorem M1{u:fG}{Q:gr->eJ->AH->Prop}(h:T1 c u V H Q):qb c u V H Q X:=λE s S U=>h E s S
theorem yo{u:fG}{o:List fG}{Q:gr->eJ->AH->Prop}
  (h:qb c u V H (λf l M=>match f with|fY=>mQ c o l M Q X|f=>Q f l M) X):mQ c (u::o) V H Q X:=λE s S b=>by
 refine AZ (fc (h E s S b) (λf P G=>?_) λU U x=>x);refine iH G λl M A F=>?_;cases f with
 |next=>exact F E P A b
 |brk=>exact(ib l M A F)
 |cont=>exact(ib l M A F)
 |ret v=>exact(ib l M A F)
theorem MZ{L B O d}{Q:gr->eJ->AH->Prop}
  (h:TB c L V H (λb M=>if b then mQ c B V M Q X else mQ c O V M Q X)):qb c (.If L B O d) V H Q X:=λE s S a=>by
 refine wpAny_If (fc (h E s S) (λb P G=>?_) λU U x=>x);refine eR G λM A F=>?_;clear G;cases b
 ·exact F E P A a
 ·exact F E P A a
theorem MY{O:List eP}{k:Nat}{z d:fE}{y:eP}{Q:gr->eJ->AH->Prop}
  (h:BD c y V H (λv M=>rY c (iD O k z) v V M (λl R=>Q fY l R)) X)
  (W:K8 [iD O k z] y d.line c.a=f9 em) (a:qK [iD O k z] y c.a=f9 eh):
  qb c (lm [iD O k z] y d) V H Q X:=λE s S b=>by
 refine Assign_Tuple (fc (h E s S b) (λv P G=>?_) λU U x=>x) W a;refine eR G λM A F=>?_;exact fc (F E P v A rfl) (λU K F=>F) λU U x=>x
theorem NY{x:ft}{r d:fE}{w:List eP}{Q:ed->AH->Prop}{f:ed}(O:c.d)(W:iQ w=eb)
  (y:TE c (gk x r) V H (λv M=>v=f∧nv f=f∧(∀u,nv u=f->u=f)∧nF c f∧TA c w V M (λJ R=>mP c f J V R Q X))):BD c (jr (gk x r) w [] d) V H Q X:=λE s S b=>by
 refine uX (fc (y E s S) (λv P G=>?_) λU U x=>x);refine un G λM A F K I z Z=>?_;clear y K;clear G;obtain rfl:=I v F;refine xR (P:=λh=>c.e.In h) (by rw[qn W];rfl) z (sN W (fc (Z E P d A) (λJ m F=>?_) λU U x=>x));refine eR F λR k q=>?_;exact⟨k.w O,xX (q E m J k rfl λa C L j D Y=>b _ _ (ib a C rfl (eH (ib V L D Y))))⟩
set_option backward.match.sparseCases true in
theorem Nv{f:et}{w:List ed}{Q:ed->AH->Prop}{W j:ft}{i:AL}{B:List fG}{t:jG}{m k d E N A oc:ed}{G od:Option et}{aL:Array (Option ed)}{X:et->AH->Prop}(O:c.d)(ae:c.i=eh)
  (ho:c.e.lookup f=d9 ⟨oc,od,xH (lJ W j i B t m k d E G N A),aL⟩) (az:pP c.e N j=eb) (aJ:c.b.depth<En)
  (Y:List String) (aw:∀s J,J.length=w.length->D3 s (lJ W j i B t m k d E G N A) ⟨J,[]⟩ ((Y.map eE).zip J))
  (aF:∀x∈Y,t.names.lookup (eE x)=d9 ey) (aA:∀x∈t.names,x.2≠fK)
  (aB:t.isCoroutine=em) (aC:t.isGenerator=em) (z:t.kind=jH)
  (av:∀g L,(iM c g L (kR j t L f N [])).d->mQ (iM c g L (kR j t L f N [])) B (iR Y w) H (λfl U M=>Q (pA fl) M) X):
  mP c (ec f) w V H Q X:=λak s J S p b=>by
 have af:=S;have aE:J.length=w.length:=by rw[←p,fC]
 refine oA (S.F O (X:=λ(aO:pO) (P:eZ)=>match aO with|kD (iV v)=>(∃M,St c V M P∧Q (nv v) M)|kD _=>False|xo e=>ak e P)) λaP F FG BG u au=>?_;obtain⟨_,R,_,aD,aH⟩ :=S;have hl:∀y∈(Y.map eE).zip J,t.names.lookup y.1=d9 ey:=by
  intro y hy;refine fP (rG hy).1 λx Z n=>?_;rw[←n];exact aF x Z
 refine(Xm (fd:=lJ W j i B t m k d E G N A) (body:=B) (binds:=(Y.map eE).zip J) aJ (F.keep _ _ (O.a _ _ ho)) rfl (O.d.nolimit.keeps F.keep) (KV (O.a.keeps F.keep) az) rfl (aw s J aE) aA hl (λag aG h=>?_) aB aC z);have F':Fr (lq s.heap ((j9 H s.heap).map (·.1))) s.heap.objs.size ag (λy=>((Y.map eE).zip J).reverse.lookup y):=⟨aG,λaq o e=>h aq o (AX _ e),xB (Ee _ _)⟩;have r:(iM c (lq s.heap ((j9 H s.heap).map (·.1))) s.heap.objs.size (kR j t s.heap.objs.size f N [])).d:=⟨BG,O.a.keeps u,O.d.keeps u,D0 O.e,rfl,z,z,rfl,rfl⟩;have q:St (iM c (lq s.heap ((j9 H s.heap).map (·.1))) s.heap.objs.size (kR j t s.heap.objs.size f N [])) (iR Y w) H { s with heap:=ag,toks:=s.toks+((Y.map eE).zip J).length }:=by
  refine⟨(eu _ F' ?_),⟨λa o T=>?_,λa o T=>?_⟩,(λa o aM=>aM.elim),aD,aH⟩
  ·exact⟨rfl,p▸BT⟩
  ·refine R.d a o T λl K I=>?_
   exact(eu l (h _ _ K) I)
  ·refine R.d a o T λl K I=>?_
   exact⟨rH (l8 K),AV _ (jY (sY (p:=(a,l)) |>.mpr ⟨by rw[T];rfl,K⟩))⟩
 have ac:(jt H s).get? s.heap.objs.size=none:=ku (xB (Ee _ _));refine fc (av _ _ r _ _ q λe P n=>?_) (λfl P hq=>?_) λU U x=>x
 ·(refine iH n λa C e1 Z=>?_;(clear n;obtain rfl:=e1))
  rcases Z with ⟨aj,M,D,hX⟩ |⟨aj,M,oe,aQ,a0,aK,e1,e2,e3,e4,e5,e6,hX⟩
  ·exact fc (Ls O ae af r ac D) (λU aa D=>b a C M aa D hX) λU U x=>x
  ·exact fc (Lr O ae af r ac aK e1 e2 e3 e4 e5 e6) (λU aa D=>b a C _ aa D hX) λU U x=>x
 refine iH hq λaj M I aI=>?_;exact au I λh3=>(eu M h3 (CU fl▸aI))
end
section
variable{c:Cx}{V:eJ}{H:AH}
noncomputable def GG:List Value:=[eK "Exception",eK "BaseException",eK "object"]
structure oS(K:Frag)(C N fI:et):Prop where
 b:∃nm q bs sn sub ab col dd k0 k1 k2 k3 k5,K.lookup C=d9 (Ej nm q C N bs GG eb sn sub ab col dd k0 k1 k2 k3 k5 "Exception.__new__")
 a:nsOkIn K N=eb
 e:jg K N "__init__"=d9 (d9 (ec fI))
 c:jg K N "__setattr__"=d9 eh
 d:∃o,K.lookup fI=d9 o∧o.cls=eK "function"
set_option tactic.hygienic true in
theorem Rx{K:Frag}{h:fH}{N:et}{t:ft->Option ed}{n:ft}{v:ed}(X:K.In h)(G:h.Ns N t)(e:jg K N n=d9 (d9 v)):t n=d9 v:=by
 refine mX G λo w B D p U y=>?_;unfold jg at e
 split at e
 ·rename_i c d R O x q
  have:=X _ _ q;rw[D] at this;clear D;obtain rfl:=eX this;clear q;cases p
  split at e
  ·rename_i I a
   cases e;rw(occs:=eO) [←y];unfold nsFind findBy;rw[←Array.find?_toList,a];rfl
  ·split at e<;>cases e
 ·exact nS e
noncomputable def lZ(C t:et)(z:Option et):Obj:={ cls:=ec C,dict:=z,data:=fB #[ec t,ez,ez,ez,fF em,ez] }
theorem SP{M:Model}{A:jZ}{E:ed->eZ->Prop}{B:iN}{J q:ft}{C N:et}{X m:List ed}{y:Bool}{L:List ft}{R:List ed}{P:Bool}{f:Option Bool}{z:Option et}{T l k c F:Option ed}{K:String}
  {s:eZ} {x:Sem ed} {Q:gr->eZ->Prop} (I:m.contains (eK "BaseException")=eb) (g:A.handled=eh)
  (h:fi M A x (λv j=>∃e t a,v=ec e∧j.heap.get? C=d9 (Ej J q C N X m y L R P f z T l k c F K)∧
   j.heap.get? e=d9 (lZ C t a)∧E (ec e) j) E s):
  fi M A (raiseStmt B (d9 x) eh) Q E s:=by
 have Z:(ec C::m).contains (eK "BaseException")=true:=by rw[List.contains_cons,I,pG]
 unfold raiseStmt;refine fv (fc h (λv j V=>?_) λU U x=>x)
 (refine mX V λe t a O w n b=>?_;obtain rfl:=O)
 obtain⟨o,i,d,p,r⟩ :=j;unfold lZ at n
 repeat (first|with_reducible refine Eu n ?_|with_reducible refine Eu w ?_|(with_reducible refine wpAny_isSubtype_exc w ?_;rw[Z])|wp_step)
 exact wpAny_raiseNew_none g b
theorem M2{x:ft}{np o d:fE}{w:List eP}{C N n:et}{Q:gr->eJ->AH->Prop}{X:et->AH->Prop}(O:c.d)(g:c.b.handled=eh)(D:oS c.e C N n)(W:iQ w=eb)
  (h:TE c (gk x np) V H (λv Z=>v=ec C∧TA c w V Z (λJ T=>J.length≤100∧∀e t i,T e=eh->TC (cA c C i) (ec n) (ec e::J) V (eQ T e (.c (lZ C t eh))) (λr L=>r=ez∧∃j,L e=d9 (.c (lZ C t j))∧X C (o9 L e))))):
  qb c (Ea (d9 (jr (gk x np) w [] o)) eh d) V H Q X:=λE aw S hE=>by
 (refine lB D.b λnm au bs sn g2=>?_;refine lB g2 λaz P f z g3=>?_;refine lB g3 λk0 l k2 s g4=>?_;refine fL g4 λk5 p=>?_)
 refine eR D.d λoI ak aq=>?_;rw(occs:=eO) [arm_exec_Raise];refine fv (rQ (SP (C:=C) (J:=nm) (q:=au) (N:=N) (X:=bs) (m:=GG) (y:=eb) (L:=sn) (R:=az) (P:=P) (f:=f) (z:=z) (T:=k0) (l:=l) (k:=k2) (c:=s) (F:=k5) (K:="Exception.__new__") rfl g (fv (fc (uX (fc (h E aw S) (λaB aA G=>?_) λU U x=>x)) (λv aG M=>fv (rQ (iA M))) λU U x=>x))));obtain⟨Z,m,y,G⟩ :=G;obtain rfl:=gX y;unfold callWith;refine fv (rP (fc (sN W (Q:=λa K=>a.kw=[]∧∃T,St c V T K∧(a.pos.map nv).length≤100∧∀e t i,T e=eh->TC (cA c C i) (ec n) (ec e::a.pos.map nv) V (eQ T e (.c (lZ C t eh))) (λr L=>r=ez∧∃j,L e=d9 (.c (lZ C t j))∧X C (o9 L e))) (fc (G E aA o m) (λJ K G=>⟨rfl,G⟩) λU U x=>x)) (λa K k=>fv (rQ ?_)) λU U x=>x));obtain⟨Y,ae⟩ :=a
 (refine kB k λag T aa g5=>?_;refine fe g5 λaj G=>?_)
 obtain rfl:ae=[]:=ag;simp only[qn W,AD];refine eR aa.e λaE F U=>?_;have B:=O.a.keeps F.keep;have hC:=B _ _ p;have I:=KM (KW B D.a);refine fv (wpAny_keeperOf_exc hC ?_);refine fv (wpAny_call_exc_init (rest:=Y) (hrest:=by rw[nz];simp at aj;omega) PySem.F.excBase_Exception hC I (Rx B I D.e) (B _ _ ak) aq λu e hm=>?_);refine f5 hm.there λt ht aC aD=>?_;refine aa.i (d:=e) (X:=.c (lZ C t eh)) (u:=u) (p:=K.toks) hm.new hm.keeps ht rfl λaf q=>?_;refine fc (G e t Y af E { K with heap:=u,toks:=K.toks } (ec e::Y) q.C rfl) (λr aH G=>?_) λU U x=>x
 (refine f5 G λL b R g6=>?_;refine eR g6 λj A hX=>?_)
 have b:=b.E;refine⟨wH R,fv (rP (wpAny_point (iA ?_)))⟩
 (refine b.b.d e _ A λro av e7=>?_;obtain rfl:=e7)
 refine eR b.e λaF ac U=>?_;exact(ph e t j rfl ((O.a.keeps ac.keep) _ _ p) av (hE _ _ (ib e C rfl (eI ⟨V,L,_,_,_,b,A,rfl,rfl,rfl,rfl,rfl,hX⟩))))
end
section
open Builtin Builtin.ObjectAttr
section
variable{Y:lI}{w:kS}{A:jZ}{E:ed->eZ->Prop}{h:fH}{g:Array GenState}{d:Drawn}{t:Nat}{r:OsState}
variable{J q:ft}{C N x:et}{X m:List ed}{L:List ft}{R:List ed}{P:Bool}{f:Option Bool}{z:Option et}{T l k s F:Option ed}{B K V U:String}
 {H:ft->Option ed} {W:ft} {v:ed} {a:fN}
theorem P7{o:fN}{x:Option et}(h:o.isFreed=em):({ cls:=o.cls,dict:=x,data:=o.data,slots:=o.slots }:fN).isFreed=false:=by
 obtain⟨R,f,J,I⟩ :=o;cases J<;>first|rfl|exact h
theorem PS{p:Tok}{Q:Fin->eZ->Prop}(O:StoreFacts B m V U)
  (hC:h.get? C=d9 (Ej J q C N X m eb L R P f z T l k s F K)) (hn:h.Ns N H) (e:H W=eh)
  (i:Er (eK B) W=f9 eh) (Z:h.get? x=d9 a) (hc:a.cls=ec C) (au:∀c,a.data≠.cls c) (ak:a.dict=eh)
  (G:∀u M,u.get? x=d9 { a with dict:=d9 h.objs.size }->u.Ns1 h.objs.size (λy=>if y=W then d9 v else eh)->
   (∀b o,b≠x->h.get? b=d9 o->u.get? b=d9 o)->Q (.done (iV ez)) ⟨u,g,d,M,r⟩):
  fi (jI Y w) A (Builtin.«object.__setattr__» ⟨[ec x,eC W p,v],[]⟩) Q E ⟨h,g,d,t,r⟩ :=by
 have az:=O.passes (ec x);unfold Builtin.«object.__setattr__»
 repeat (first|rw[refuse_eq]|(rw[refuseLoop_ref,az])|(with_reducible refine Eu Z ?_;rw[hc])|with_reducible refine wpAny_mroOf_exc hC ?_|(with_reducible refine XD hC hn O.mro i ?_;rw[e])|wp_step)
 rw[ak,if_neg (by simp[typeHasDict])]
 split
 ·rename_i aa
  cases aa
 split
 ·rename_i c aa
  exact absurd aa (au c)
 ·have ae:(h.push { cls:=eK "dict",data:=oO #[] }).get? x=d9 a:=hY _ Z
  have ac:x≠h.objs.size:=rH (tv Z);refine fv (wpAny_alloc' ?_);refine fv (wpAny_update' ae ?_);refine iA ?_;have aq:((h.push { cls:=eK "dict",data:=oO #[] }).update x λo=>{ cls:=o.cls,dict:=d9 h.objs.size,data:=o.data,slots:=o.slots }).get? h.objs.size
    =d9 { cls:=eK "dict",data:=oO #[] }:=
   (Xg _ _ _ _ ac.symm).trans (Heap.get?_push_at rfl rfl)
  have av:((h.push { cls:=eK "dict",data:=oO #[] }).update x λo=>{ cls:=o.cls,dict:=d9 h.objs.size,data:=o.data,slots:=o.slots }).Ns h.objs.size (λaf=>eh):=
   (ph _ (#[]) _ aq rfl (λaA n=>absurd n (by simp)) (λaf=>rfl))
  show fi _ _ (storeInDict h.objs.size (eC W p) W v) _ _ _;unfold storeInDict newKeyGuard;refine fv (iA (fv (wpAny_nsSet1 (Heap.Ns1.of_empty av) λu I S=>?_)));refine qp (I.count (Xk W v Xl)) λoD aC aB aw aj ag=>?_;refine fv (wpAny_lookBehind aw (by rw[aj];exact pastItsLine_dict (im ag (by rw[lF,Wo,nz];lia))) ?_)
  wp_walk
  refine G u _ ?_ I λb ob D j=>?_
  ·refine(S.2 x ac).trans (xN _ ae ?_)
   exact P7 (Heap.get?_some_iff.mp Z).2
  ·exact(S.2 b (rH (tv j))).trans ((Xg _ _ _ _ D).trans (hY _ j))
theorem PR{Q:Unit->eZ->Prop}(O:StoreFacts B m V U)
  (n:h.get? C=d9 (Ej J q C N X m eb L R P f z T l k s F K)) (S:h.Ns N H) (ac:H "__setattr__"=eh) (e:H W=eh)
  (i:Er (eK B) W=f9 eh) (Z:h.get? x=d9 a) (p:a.cls=ec C) (j:∀c,a.data≠.cls c) (aa:a.dict=eh)
  (G:∀u M,u.get? x=d9 { a with dict:=d9 h.objs.size }->u.Ns1 h.objs.size (λy=>if y=W then d9 v else eh)->
   (∀b o,b≠x->h.get? b=d9 o->u.get? b=d9 o)->Q () ⟨u,g,d,M,r⟩):
  fi (jI Y w) A (setAttr (ec x) W v) Q E ⟨h,g,d,t,r⟩ :=by
 have D:=O.slot.bind (ec x);unfold setAttr callSpecial? specialOf
 repeat (any_goals (first|assumption|(with_reducible refine Eu Z ?_;rw[p])|(with_reducible refine XD n S O.mro O.slot.lookup ?_;rw[ac])|wp_step))
 refine K0 O.slot.plain O.entry (wpAny_check_sa O n Z p (PS O n S e i Z p j aa λu M h1 I h3=>?_))
 repeat (any_goals (first|assumption|wp_step))
 exact G u M h1 I h3
end
variable{c:Cx}{V:eJ}{H:AH}
theorem Ob{x C N n t:et}{a:String}{v:ed}{Q:AH->Prop}(O:c.d)(D:oS c.e C N n)(ha:jg c.e N (eE a)=d9 eh)(i:Er (eK "Exception") (eE a)=f9 eh)
  (Z:H x=d9 (.c (lZ C t eh)))
  (h:∀j f,H j=eh->j≠x->(∀h:fH,h.get? j=d9 f->∃b,h.Ns1 j (λy=>if y=eE a then d9 b else eh))->Q (eQ (eQ H x (.c (lZ C t (d9 j)))) j (.c f))):qd c (ec x) a v V H Q:=λaj s b S hv=>by
 (refine lB D.b λnm q X sn L=>?_;refine lB L λaw ab ak dd T=>?_;refine lB T λk0 l k2 k3 W=>?_;refine fL W λk5 p=>?_)
 refine eR S.e λav F U=>?_;have B:=O.a.keeps F.keep;have hC:=B _ _ p;have ac:=KM (KW B D.a)
 (refine S.b.d x _ Z λro J M=>?_;obtain rfl:=M)
 refine PR (g:=s.gens) (d:=s.drawn) (t:=s.toks) (r:=s.os) Xc hC ac (Ef B D.a D.c) (Ef B D.a ha) i J rfl (by intro c q;cases q) rfl λu ag h1 I g=>?_;have z:s.heap.get? s.heap.objs.size=none:=ku (ig _);have P:s.heap.objs.size≠x:=λe=>by rw[←e,z] at J;exact nS J
 have K:=S.h z;refine fe (S.b.b x _ Z) λe1 m=>?_;have ae:St c V (eQ H x (.c (lZ C t (d9 s.heap.objs.size)))) { s with heap:=u,toks:=ag }:=by
  have au:=S;obtain⟨⟨G,A,Y⟩,R,hz,d,k⟩ :=S;refine St.v (s:=s) (X:=.c (lZ C t (d9 s.heap.objs.size))) ⟨(eu G A Y),R,hz,d,k⟩ Z (eu G ?_ Y) (λa o hb U e=>g a o hb e) h1 rfl;exact⟨A.ns.at' λo e=>g _ o (gM e1) e,λaa o e=>g aa o (λq=>by rw[q,m] at e;exact nS e) (A.keep aa o e),A.above⟩
 have aq:=I;refine oC I λf w ep ho r=>?_;have E:rU c (eQ H x (.c (lZ C t (d9 s.heap.objs.size)))) s.heap.objs.size:=⟨K.f,K.e,K.g,(fw _ _ P).trans K.d,K.b⟩;have af:=ae.x (a:=s.heap.objs.size) (o:=.c f) (l:=f) ho rfl E;exact(eu _ af (h _ f K.d P λhp hg=>⟨b,f,w,ep,hg,r⟩))
theorem Oc{x C N fI t j:et}{f:fN}{a b:String}{az:ed}{Q:AH->Prop}(O:c.d)(D:oS c.e C N fI)(M:jg c.e N (eE a)=d9 eh)(i:Er (eK "Exception") (eE a)=f9 eh)
  (Z:H x=d9 (.c (lZ C t (d9 j)))) (p:H j=d9 (.c f)) (G:j≠x) (au:∀h:fH,h.get? j=d9 f->∃v',h.Ns1 j (λaA=>if aA=eE b then d9 v' else eh))
  (h:∀K,Q (eQ H j (.c K))):qd c (ec x) a az V H Q:=λaB s v' S hv=>by
 (refine lB D.b λnm q bs sn n=>?_;refine lB n λaH ab aC dd g6=>?_;refine lB g6 λk0 k1 k2 k3 g7=>?_;refine fL g7 λk5 ae=>?_)
 refine eR S.e λaD ag U=>?_;have B:=O.a.keeps ag.keep;have hC:=B _ _ ae;have aq:=KM (KW B D.a)
 (refine S.b.d x _ Z λro J e8=>?_;obtain rfl:=e8)
 (refine S.b.d j _ p λaG y d=>?_;obtain rfl:=d)
 refine fL (au _ y) λaJ hu=>?_;refine fe (S.b.b j _ p) λe1 m=>?_;refine fe (S.b.b x _ Z) λr g=>?_;have v:x≠C:=λq=>by
  have:=O.a _ _ ae;rw[←q,g] at this;exact nS this
 refine store_attr (g:=s.gens) (d:=s.drawn) (t:=s.toks) (os:=s.os) Xc hC aq (Ef B D.a D.c) (Ef B D.a M) i v (lO _ J rfl (by intro c q;cases q) (eI (fQ j rfl G hu))) (λu aI I' z av=>?_) (hw:=Xk _ _ Xl) (hsz:=by rw[nz];simp);have aa:∀b o,b≠j->s.heap.get? b=d9 o->u.get? b=d9 o:=λb o hb e=>by
  by_cases af:b=x
  ·clear Z G r g v I' z
   subst af;rw[J] at e;obtain rfl:=eX e;refine oA (av _ J) λaw L T W P n=>?_;have ac:=n j rfl;clear n;obtain⟨c1,c2,c3,c4⟩ :=aw;dsimp only at T W P ac;subst T W P ac;exact L
  ·refine z b o af (λaE aj w E=>?_) e
   rw[J] at w;obtain rfl:=eX w;have:d9 j=d9 aj:=E;clear E;obtain rfl:=eX this;exact hb
 refine nR I' λoo X U U F=>?_;have gx:=aa x _ (gM G) J;rw[gx] at X;clear U;clear U;obtain rfl:=eX X;rcases F with ⟨F,_⟩ |⟨d',l,_,I⟩
 ·exact iX F
 ·have:d9 j=d9 d':=l
  clear l;clear left;obtain rfl:=eX this;refine oC I λK es ep ho aF=>?_;refine(eu _ ?_ (h K));obtain⟨⟨m',A,Y⟩,R,hz,ak,k⟩ :=S;refine St.v (s:=s) (X:=.c K) ⟨(eu m' A Y),R,hz,ak,k⟩ p (eu m' ?_ Y) (λa o hb U e=>aa a o hb e) ho rfl;exact⟨A.ns.at' λo e=>aa _ o (gM e1) e,λb o e=>aa b o (λq=>by rw[q,m] at e;exact nS e) (A.keep b o e),A.above⟩
end
section
variable{c:Cx}{V:eJ}{H:AH}
def Bt(c:Cx)(X:eJ->et->AH->Prop)(e:ed)(s:eZ):Prop:=∃a C V H,e=ec a∧mo c V H a C s∧X V C H
def BC(c:Cx)(e:eP)(V:eJ)(H:AH)(Q:ed->AH->Prop)(X:eJ->et->AH->Prop):Prop:=
 ∀(E:ed->eZ->Prop) s,St c V H s->(∀e P,Bt c X e P->E e P)->fi c.g c.b (jc e c.a) (λv P=>∃M,St c V M P∧Q (nv v) M) E s
def Fw(c:Cx)(u:fG)(V:eJ)(H:AH)(Q:gr->eJ->AH->Prop)(X:eJ->et->AH->Prop):Prop:=
 ∀(E:ed->eZ->Prop) s,St c V H s->(∀e P,Bt c X e P->E e P)->fi c.g c.b (exec u c.a) (λf P=>∃l M,St c l M P∧Q (nf f) l M) E s
def rZ(c:Cx)(O:List fG)(V:eJ)(H:AH)(Q:gr->eJ->AH->Prop)(X:eJ->et->AH->Prop):Prop:=
 ∀(E:ed->eZ->Prop) s,St c V H s->(∀e P,Bt c X e P->E e P)->fi c.g c.b (uW O c.a) (λf P=>∃l M,St c l M P∧Q (nf f) l M) E s
variable{X:eJ->et->AH->Prop}
theorem Ff{O:List fG}{Q:gr->eJ->AH->Prop}(h:TS c O V H Q):rZ c O V H Q X:=λE s S U=>h E s S
theorem Fe{u:fG}{o:List fG}{Q:gr->eJ->AH->Prop}
  (h:Fw c u V H (λf l M=>match f with|fY=>rZ c o l M Q X|f=>Q f l M) X):rZ c (u::o) V H Q X:=λE s S b=>by
 refine AZ (fc (h E s S b) (λf P G=>?_) λU U x=>x);refine iH G λl M A F=>?_;cases f with
 |next=>exact F E P A b
 |brk=>exact(ib l M A F)
 |cont=>exact(ib l M A F)
 |ret v=>exact(ib l M A F)
theorem EP{e d}{Q:gr->eJ->AH->Prop}(h:BC c e V H (λv M=>Q fY V M) X)
  (R:rN c.a=em) (W:tJ e eh d.line c.a=f9 em):Fw c (qH e d) V H Q X:=λE s S b=>by
 refine wpAny_Expr_any (fc (h E s S b) (λv P G=>?_) λU U x=>x) R W;refine eR G λM A F=>?_;exact(ib V M A F)
theorem NX{x:ft}{r d:fE}{w:List eP}{Q:ed->AH->Prop}{f:ed}(O:c.d)(W:iQ w=eb)
  (y:TE c (gk x r) V H (λv M=>v=f∧nv f=f∧(∀u,nv u=f->u=f)∧nF c f∧TA c w V M (λJ R=>mP c f J V R Q (X V)))):BC c (jr (gk x r) w [] d) V H Q X:=λE s S b=>by
 refine uX (fc (y E s S) (λv P G=>?_) λU U x=>x);refine un G λM A F K I z Z=>?_;clear y K;clear G;obtain rfl:=I v F;refine xR (P:=λh=>c.e.In h) (by rw[qn W];rfl) z (sN W (fc (Z E P d A) (λJ m F=>?_) λU U x=>x));refine eR F λR k q=>?_;exact⟨k.w O,xX (q E m J k rfl λa C L j D Y=>b _ _ ⟨a,C,V,L,rfl,D,Y⟩)⟩
theorem mo.f{e C:et}{s:eZ}{g:fH}(O:c.d)(F:mo c V H e C s)(t:uU (fo c) c.f g)(S:St (cg c g) V H s):∃v J,v.data=fB J∧J[2]? =d9 ez∧St (gO (cg c g) [(e,v)]) V H s:=by
 obtain⟨⟨b,B,aa,N,r,x2,x3,y,L,⟨f1,j,D,P⟩,i,x8⟩,hg,ho,v,J,n,p,I⟩ :=F;have u:∀o,b.get? e=d9 o->(∀J,o.data≠fB J)->False:=λo K W=>by
  refine fL (i e o K W) λx S=>?_;rw[n] at S;clear n;obtain rfl:=eX S;exact W J p
 have T:e≠c.h:=λq=>by
  refine qp r.ns λo es ep K h3 U=>?_;exact u o (q▸K) (λJ q=>by rw[h3] at q;cases q)
 have w:c.f.get? e=none:=by
  cases G:c.f.get? e with
  |none=>rfl
  |some o=>
   have M:=r.keep _ _ G;by_cases Y:e∈fs c
   ·rcases rn O Y with z|z
    ·exact absurd z T
    ·refine yX O z λU X A W=>?_
     rw[G] at A;obtain rfl:=eX A;exact(u o M W).elim
   ·have:=x3 e o M Y
    rw[j] at this;exact nS this
 refine(fS v J p I ?_);obtain⟨Q,R,f,d,k⟩ :=S;refine⟨Q,⟨R.f,R.b⟩,λa o h=>?_,d,k⟩;rcases h with h|h
 ·simp only[gR,AK] at h
  (refine fe h λE m=>?_;(clear P u h;obtain rfl:=E);(clear p;obtain rfl:=m))
  refine⟨n,T,?_,t.none_ _ w,?_⟩
  ·show a≠c.a.locals
   rw[x2.1];exact T
  ·cases G:H a with
   |none=>rfl
   |some X=>
    (refine fe (y a X G) λg3 U=>?_;refine eR g3 λl Z U=>?_)
    rw[j] at Z;exact nS Z
 ·exact f a o h
theorem Qd{e C ac n:et}{x:ft}{np aB:fE}{W:fG}{b:List fG}{E:ed->eZ->Prop}{Q:gr->eZ->Prop}{s:eZ}(O:c.d)(i:c.i=eh)(g:c.a=c.n)(R:c.e.In c.m)(u:rI c.p (rK c.p []) c.r c.s c.m)
  (EC:oS c.e C ac n) (ex:jg c.e ky x=d9 (d9 (ec C))) (hx:c.a.kindOf x=d9 eY) (hd:(x==("__debug__":ft))=em) (F:mo c V H e C s)
  (k:∀T P v J,uU (fo c) c.f T->(cg c T).d->v.data=fB J->J[2]? =d9 ez->St (gO (cg c T) [(e,v)]) V H P->∀E',fi c.g (c.b.mark (d9 (ec e))) (uW (W::b) c.a) Q E' P):
  fi c.g c.b (tG (ec e) c.a) (λU aC=>fi c.g c.b (K5 (ec e) eh) (λU aD=>
    fi c.g c.b (handleBy (ec e) c.a [uP (d9 (gk x np)) eh (W::b) aB]) Q E aD) E aC) E s:=by
 (refine lB EC.b λnm q bs sn g4=>?_;refine lB g4 λaK ab aH dd g5=>?_;refine lB g5 λk0 k1 k2 k3 K=>?_;refine fL K λk5 p=>?_)
 obtain⟨⟨G,B,m,N,r,x2,X,y,L,⟨f1,j,f3,f4⟩,x7,x8⟩,A,D,aw⟩ :=id F;rw[g];refine HU O.e f3 O.g f4 aw f1 j λaz w aE=>i8 w λn1 f n3 I=>?_;refine yV n1 f n3 aE λz S l t M d=>?_;have I:s.heap.UpToSlots az:=I;have a:D7 B (c.n::c.o) e (ec C) N z:=⟨S,j,l,t⟩;have o:mo c V H e C { s with heap:=z }:=⟨(we G B m N r x2 X y ⟨L,a,((x7.trans I).trans M),x8⟩),A,D,d⟩;refine f5 (o.d O i R u) λaI aG Y af=>?_;refine eR af.e λaJ h U=>?_;refine eR a.there λob aq au=>?_;have ak:z.get? C=_:=h.keep _ _ (Y.a _ _ p);refine wpAny_handleBy_cons (codeAny_handlers_test ?_) (by intro q;cases q);rw[←g];refine KF O.b hx (WZ (O.i▸Y.d.g.keeps h.keep) (mg_of Y.a Y.d.g ex) ?_) hd;refine wpAny_excMatches_sub_self ak aq au rfl (codeAny_handlers_suite ?_);refine yV S l t.at d λaA w1 w2 w3 av aF=>?_;have Z:mo c V H e C { s with heap:=aA }:=⟨(we G B m N r x2 X y ⟨L,⟨w1,j,w2,w3⟩,(((x7.trans I).trans M).trans av),x8⟩),A,D,aF⟩;refine f5 (Z.d O i R u) λaj aa ae ag=>?_;refine fT (Z.f O aa ag) λv J w q2 q3=>?_;exact k aj _ v J aa ae w q2 q3 _
theorem JS{C N n:et}{x:ft}{np d z:fE}{W:fG}{B b:List fG}{E:ed->eZ->Prop}{Q:gr->eZ->Prop}{s:eZ}(O:c.d)(i:c.i=eh)(g:c.a=c.n)(R:c.e.In c.m)(u:rI c.p (rK c.p []) c.r c.s c.m)
  (D:oS c.e C N n) (o:jg c.e ky x=d9 (d9 (ec C))) (Z:c.a.kindOf x=d9 eY) (p:(x==("__debug__":ft))=em) (y:St c V H s)
  (j:rZ c B V H (λf l M=>∀L P,nf L=f->St c l M P->Q L P) X)
  (K:∀l I M,X l I M->I=C) (k:∀l M e T P v J,X l C M->uU (fo c) c.f T->(cg c T).d->v.data=fB J->J[2]? =d9 ez->St (gO (cg c T) [(e,v)]) l M P->∀h,fi c.g (c.b.mark (d9 (ec e))) (uW (W::b) c.a) Q h P):
  fi c.g c.b (exec (uT B [uP (d9 (gk x np)) eh (W::b) d] [] [] z) c.a) Q E s:=by
 refine wpAny_Try_except (fc (j _ s y ?_) (λf P G=>?_) λU U x=>x)
 ·rintro e' P ⟨a,I,l,M,rfl,q,Y⟩
  obtain rfl:=K _ _ _ Y;exact Qd O i g R u D o Z p q λT m v J t r w q2 S h=>k l M a T m v J Y t r w q2 S h
 ·refine iH G λl M A F=>?_
  cases f with
  |next=>exact xY (F _ _ rfl A)
  |brk=>exact F _ _ rfl A
  |cont=>exact F _ _ rfl A
  |ret aa=>exact F _ _ rfl A
end
section
variable{c:Cx}{V:eJ}{H:AH}
def Tn(c:Cx)(g:fH):Prop:=uU (fo c) c.f g∧(cg c g).d
theorem Tn.a(O:c.d):Tn c c.f:=⟨KtsTurn.refl,⟨O.f,O.a,O.d,O.e,O.g,O.h,O.b,O.i,O.j⟩⟩
theorem Tn.b{g T:fH}(f:Tn c g)(e:Tn (cg c g) T):Tn c T:=⟨f.1.trans e.1,⟨e.2.f,e.2.a,e.2.d,e.2.e,e.2.g,e.2.h,e.2.b,e.2.i,e.2.j⟩⟩
theorem St.z{s:eZ}(S:St c V H s):St (cg c c.f) V H s:=⟨S.e,⟨S.b.f,S.b.b⟩,S.d,S.p,S.n⟩
def vn(c:Cx)(u:fG)(V:eJ)(H:AH)(Q:fH->gr->eJ->AH->Prop):Prop:=
 ∀E s,St c V H s->fi c.g c.b (exec u c.a) (λf P=>∃g l M,Tn c g∧St (cg c g) l M P∧Q g (nf f) l M) E s
def oY(c:Cx)(O:List fG)(V:eJ)(H:AH)(Q:fH->gr->eJ->AH->Prop):Prop:=
 ∀E s,St c V H s->fi c.g c.b (uW O c.a) (λf P=>∃g l M,Tn c g∧St (cg c g) l M P∧Q g (nf f) l M) E s
theorem Bb{u:fG}{Q:fH->gr->eJ->AH->Prop}(O:c.d)(h:T1 c u V H (Q c.f)):vn c u V H Q:=λE s S=>by
 refine fc (h E s S) (λf P G=>?_) λU U x=>x;refine iH G λl M A F=>?_;exact(mT _ l M (.a O) A.z F)
theorem Oa{Q:fH->gr->eJ->AH->Prop}(O:c.d)(h:Q c.f fY V H):oY c [] V H Q:=λE s S=>xY (mT _ V H (.a O) S.z h)
theorem vc{u:fG}{o:List fG}{Q:fH->gr->eJ->AH->Prop}
  (h:vn c u V H (λg f l M=>match f with|fY=>(cg c g).d->oY (cg c g) o l M Q|f=>Q g f l M)):oY c (u::o) V H Q:=λE s S=>by
 refine AZ (fc (h E s S) (λf P G=>?_) λU U x=>x);refine qp G λg l M z A F=>?_;cases f with
 |next=>
  refine fc (F z.2 E P A) (λf m F=>?_) λU U x=>x;refine qp F λT O R Z k q=>?_;exact(mT T O R (z.b Z) k q)
 |brk=>exact(mT g l M z A F)
 |cont=>exact(mT g l M z A F)
 |ret v=>exact(mT g l M z A F)
theorem MX{C N n:et}{x:ft}{r d z a:fE}{B:List fG}{Q:fH->gr->eJ->AH->Prop}{X:eJ->et->AH->Prop}(O:c.d)(i:c.i=eh)(aa:c.a=c.n)(R:c.e.In c.m)(u:rI c.p (rK c.p []) c.r c.s c.m)
  (D:oS c.e C N n) (o:jg c.e ky x=d9 (d9 (ec C))) (Z:c.a.kindOf x=d9 eY) (p:(x==("__debug__":ft))=em)
  (j:rZ c B V H (λf l M=>Q c.f f l M) X) (K:∀l I M,X l I M->I=C) (Y:∀g l M,Tn c g->X l C M->Q g fY l M):
  vn c (uT B [uP (d9 (gk x r)) eh [.Pass a] d] [] [] z) V H Q:=λE s S=>by
 refine JS (X:=X) O i aa R u D o Z p S ?_ K ?_
 ·refineλh P A b=>fc (j h P A b) (λf m G=>?_) λU U x=>x
  refine iH G λl M k F=>?_;refine(ib l M k (λL s3 y q=>(mT _ l M (.a O) q.z ?_)));rw[y];exact F
 ·intro l M e T P v J w t W h1 h2 A h
  exact AZ (wpAny_Pass (xY (mT T l M ⟨t,W⟩ A.j (Y T l M ⟨t,W⟩ w))))
def UY(Q:fH->gr->eJ->AH->Prop)(P:eJ->AH->Prop):fH->gr->eJ->AH->Prop:=λg=>Dh (Q g) P
theorem Tn.d{p:List (et×fN)}{g:fH}(h:Tn (gO c p) g):Tn c g:=⟨h.1,⟨h.2.f,h.2.a,h.2.d,h.2.e,h.2.g,h.2.h,h.2.b,h.2.i,h.2.j⟩⟩
theorem MW{e f:eP}{Y:List String}{B:List fG}{d:fE}{Q:fH->gr->eJ->AH->Prop}(O:c.d)(C:∀x∈Y,c.a.kindOf (eE x)=d9 ey)
  (T:∀a o,¬c.j a o)
  (h:j6 c f e Y V H (λn j u Z=>∃J:Nat->eJ->AH->Prop,J 0 V Z∧(∀i V H,J i V H->u H)∧
   (∀g,Tn c g->∀i l M p,i<n->J i l M->oY (gO (cg c g) p) B (j i l) M (UY Q (J (i+1))))∧(∀g l M,Tn c g->J n l M->Q g fY l M)))
  (N:∀v,pQ f c.a v=f9 v):vn c (.For e f B [] d) V H Q:=λE s S=>
 GP (f:=λg=>g) (W:=Tn c) (R:=Q) (λg t=>t.2) (.a O) (λh=>⟨h.e,⟨h.b.f,h.b.b⟩,h.d,h.p,h.n⟩) C (h.a λq=>nR q λJ K I k y=>lO J K I
  (λg z i l M p R D E s S=>fc (k g z i l M p R D E s S) (λX m q=>qp q λP L A t a b=>⟨P,L,A,z.b (c:=c) t.d,a,b⟩) λU U x=>x) λg l M t=>y g l M t) N S
theorem Nu{f:et}{w:List ed}{Q:ed->AH->Prop}{W j:ft}{i:AL}{B:List fG}{t:jG}{m k d E N ct oc:ed}{an od:Option et}{aO:Array (Option ed)}(O:c.d)(az:c.i=eh)(aJ:c.o=[])
  (ho:c.e.lookup f=d9 ⟨oc,od,xH (lJ W j i B t m k d E an N ct),aO⟩) (av:pP c.e N j=eb) (aK:c.b.depth<En)
  (Y:List String) (au:∀s J,J.length=w.length->D3 s (lJ W j i B t m k d E an N ct) ⟨J,[]⟩ ((Y.map eE).zip J))
  (aF:∀x∈Y,t.names.lookup (eE x)=d9 ey) (aw:∀x∈t.names,x.2≠fK)
  (aA:t.isCoroutine=em) (aB:t.isGenerator=em) (hk:t.kind=jH)
  (h:∀g L,(iM c g L (kR j t L f N [])).d->oY (iM c g L (kR j t L f N [])) B (iR Y w) H (λU X U M=>Q (pA X) M)):
  lL c (ec f) w V H Q:=λaj s J hs p=>by
 obtain⟨⟨ag,F,hm⟩,R,hz,aC,aH⟩ :=hs;have aE:J.length=w.length:=by rw[←p,fC]
 have aq:=R.k;refine i8 (groundX (R:=λ(r:pO) (P:eZ)=>match r with|kD (iV v)=>(∃M,St c V M P∧Q (nv v) M)|kD _=>False|xo e=>aj e P) O.f F aq O.e O.g O.h) λFG BG u lv=>?_;have hl:∀y∈(Y.map eE).zip J,t.names.lookup y.1=d9 ey:=by
  intro y hy;refine fP (rG hy).1 λx Z he=>?_;rw[←he];exact aF x Z
 refine(Xm (fd:=lJ W j i B t m k d E an N ct) (body:=B) (binds:=(Y.map eE).zip J) aK (F.keep _ _ (O.a _ _ ho)) rfl (O.d.nolimit.keeps F.keep) (KV (O.a.keeps F.keep) av) rfl (au s J aE) aw hl (λaf aG ae=>?_) aA aB hk);have F':Fr (lq s.heap ((j9 H s.heap).map (·.1))) s.heap.objs.size af (λy=>((Y.map eE).zip J).reverse.lookup y):=⟨aG,λb o e=>ae b o (AX _ e),xB (Ee _ _)⟩;have O':(iM c (lq s.heap ((j9 H s.heap).map (·.1))) s.heap.objs.size (kR j t s.heap.objs.size f N [])).d:=⟨BG,O.a.keeps u,O.d.keeps u,D0 O.e,rfl,hk,hk,rfl,rfl⟩;have aL:St (iM c (lq s.heap ((j9 H s.heap).map (·.1))) s.heap.objs.size (kR j t s.heap.objs.size f N [])) (iR Y w) H { s with heap:=af,toks:=s.toks+((Y.map eE).zip J).length }:=by
  refine⟨(eu _ F' ?_),⟨λa o T=>?_,λa o T=>?_⟩,(λa o q=>q.elim),aC,aH⟩
  ·exact⟨rfl,p▸BT⟩
  ·refine R.d a o T λl K I=>?_
   exact(eu l (ae _ _ K) I)
  ·refine R.d a o T λl K I=>?_
   exact⟨rH (l8 K),AV _ (jY (sY (p:=(a,l)) |>.mpr ⟨by rw[T];rfl,K⟩))⟩
 refine fc (h _ _ O' _ _ aL) (λX P G=>?_) λU U x=>x;obtain⟨g,aR,M,⟨aa,_⟩,⟨⟨m',D,aQ⟩,ac,_,aD,aI⟩,G⟩ :=G;have aP:fo (iM c (jt H s) s.heap.objs.size (kR j t s.heap.objs.size f N []))=fs c:=rfl;have aa:uU (fs c) (jt H s) g:=aa;have D:Fr g s.heap.objs.size P.heap m':=D;have n:∀a o,M a=d9 o->g.get? a=none:=λa o h=>(ac.b a o h).2;have aM:∀b,b∈fs c->b=c.h:=λb hb=>by
  rcases rn O hb with z|z
  ·exact z
  ·unfold fo at z;rw[aJ] at z;cases z
 have C:∀b o,(jt H s).get? b=d9 o->b≠c.h->P.heap.get? b=d9 o:=λb o e hb=>D.keep _ _ (aa.other b o e λq=>hb (aM b q));have ak:Fr c.f c.h P.heap ag:=by
  refine⟨?_,λb o e=>C b o (u b o e) (λq=>by rw[q,kts_self F] at e;exact nS e),F.above⟩;obtain⟨o,es,ep,K,r⟩ :=FG.ns;obtain⟨sl,S⟩ :=aa.up K;exact(pg _ es ep (D.keep _ _ S) r)
 have k0:∀a,g.get? a=eh->a≠c.h∧c.f.get? a=none:=λa ha=>by
  have A:(jt H s).get? a=none:=by
   cases Z:(jt H s).get? a with
   |none=>rfl
   |some o=>obtain⟨sl,S⟩ :=aa.up Z;rw[ha] at S;exact nS S
  refine⟨λq=>?_,?_⟩
  ·obtain⟨o,es,ep,K,_⟩ :=FG.ns
   rw[←q] at K;have K:(jt H s).get? a=d9 o:=K;rw[A] at K;exact nS K
  ·cases Z:c.f.get? a with
   |none=>rfl
   |some o=>
    have K:(jt H s).get? a=d9 o:=u a o Z;rw[A] at K;exact nS K
 refine(eu M ⟨(eu ag ak ?_),⟨ac.f,λa o T=>k0 a (n a o T)⟩,λa o T=>?_,aD,aI⟩ ?_)
 ·rw[az] at hm ⊢;exact hm
 ·obtain⟨z1,z2,z3,z4,z5⟩ :=hz a o T
  have A:=GV z1 z5;refine⟨C a o A z2,z2,z3,z4,?_⟩;cases hH:M a with
  |none=>rfl
  |some x=>
   obtain⟨sl,S⟩ :=aa.up A;rw[n a x hH] at S;exact nS S
 ·rw[CU] at G
  cases X<;>exact G
end
section
section
variable{Y:lI}{w:kS}{A:jZ}{E:ed->eZ->Prop}{s:eZ}
theorem Sv:plainId "proto.unchain"=true:=by decide+kernel
theorem PN:entryFor table "proto.unchain"=d9 Builtin.«proto.unchain»:=entryFor_of_tree (by kernel_rfl)
theorem U0{a e:et}{v:fN}{J:Array ed}{Q:ed->eZ->Prop}(n:s.heap.get? e=d9 v)(p:v.data=fB J)(I:J[2]? =d9 ez)(G:Q ez s):
  fi (jI Y w) A (runValue (uN "proto.unchain" ⟨[ec a,ec e,ec e,fF em],[]⟩)) Q E s:=by
 refine wpAny_runValue (codeAny_builtin PN ?_);rw[Around.under_plainId Sv _];show fi _ _ (field (ec e) 2>>=_) _ _ s;refine fv (pS n p I ?_);rw[if_pos (show(ez==ez)=eb from by simp)];exact iA G
theorem SO{L:Type}{a e:et}{v K:fN}{J W:Array ed}{Q:L->eZ->Prop}(g:A.handled=d9 (ec e))(G:e≠a)(n:s.heap.get? e=d9 v)(p:v.data=fB J)(I:J[2]? =d9 ez)
  (M:s.heap.get? a=d9 K) (o:K.data=fB W) (r:2<W.size) (h:E (ec a) { s with heap:=s.heap.update a (uQ (·.setIfInBounds 2 (ec e))) }):fi (jI Y w) A (raiseNew (ec a):Sem L) Q E s:=by
 unfold raiseNew;refine fv (wpAny_handled ?_);rw[g];dsimp only;rw[if_pos (by simpa using G)];refine fv (rP (U0 n p I (fv ?_)));unfold updateField;refine fv (wpAny_load M ?_);rw[o];dsimp only;rw[if_pos r];exact wpAny_update M (wpAny_throw h)
theorem QW{N l e:et}{i:Nat}{M:Array ed}{v:fN}{J:Array ed}{Q:Option ed->eZ->Prop}(g:A.handled=d9 (ec e))(n:s.heap.get? e=d9 v)(f:v.data=fB J)(I:J[2]? =d9 ez)(G:e≠N)
  (a:s.heap.IsListIter N l i) (c:s.heap.IsList l M) (Z:M[i]? =eh)
  (C:∀u,Xd N s.heap u->Q eh { s with heap:=u }):fi (jI Y w) A (rO (ec N)) Q E s:=by
 refine f5 (id a) λo D X p=>?_
 (refine f5 c λK q U L=>?_;refine fL L λR z=>?_)
 unfold rO;refine fv (wpAny_attempt (K' (name:=eE "__next__") a.typeIs Xq
  (Et Xq a.typeIs entry_listiter_next ?_ (args_listiter_next _))))
 show fi _ _ (field (ec N) 0>>=_) _ _ s;refine fv (pS D p (x:=ec l) rfl ?_);show fi _ _ (if(ec l==ez)=eb then _ else _) _ _ s;rw[if_neg (show¬((ec l==ez)=eb) from VY)];show fi _ _ (field (ec N) 1>>=_) _ _ s;refine fv (pS D p (x:=ej i 0) rfl ?_);show fi _ _ (seqItems? (ec l)>>=_) _ _ s;refine fv (Ew q z ?_);simp only[Dz,Z];refine fv (wpAny_rule (fv (Ey D p (by simp) ?_)));show fi _ _ (newExc (eK "StopIteration") []>>=_) _ _ _;refine fv ?_;simp only[newExc,newTuple];refine fv (A0 ?_ (by size_fits));refine fv (m:=firstArgMember _ _) (wpAny_of_eq (a:=ez) (by first|rfl|(simp only[firstArgMember];rfl)) ?_);refine A0 ?_ (by size_fits);have O:(s.heap.update N (uQ (·.setIfInBounds 0 ez))).get? e=d9 v:=(xM _ _ (gM G)).trans n;refine SO (e:=e) g ?_ (hY _ (hY _ O)) f I (jf _ rfl) rfl (by simp;lia) ?_
 ·exact rH (tv (hY _ O))
 refine fv (Xw (T:="StopIteration") (b:=eb) (eu _ (xN _ (jf _ rfl) rfl) rfl) isSubtype_stop ?_);refine iA (C _ λb y j P=>?_);have:=((KN s.heap N (uQ (·.setIfInBounds 0 ez))).extBut.push { cls:=eK "tuple",data:=kQ ([]:List ed).toArray }) b y j P;refine(xM _ _ ?_).trans (hY _ this);exact uK (tv this)
end
end
section
variable{c:Cx}{V:eJ}{H:AH}
def kJ(A:jZ)(H:AH):Prop:=A.handled=eh∨∃e v J,A.handled=d9 (ec e)∧H e=d9 (.c v)∧v.data=fB J∧J[2]? =d9 ez
theorem kJ.b{A:jZ}{M:AH}(h:kJ A H)(z:∀d o,H d=d9 (.c o)->M d=d9 (.c o)):kJ A M:=h.imp id λw=>qp w λc v J K I g=>⟨c,v,J,K,z _ _ I,g⟩
theorem kJ.a{A:jZ}(h:A.handled=eh):kJ A H:=eH h
theorem SH{Y:lI}{w:kS}{A:jZ}{l N:et}{J:List ed}{x:String}{z:fE}:
  pZ Y w A (gk (eE x) z) [x] (ec N) J.length (λi V=>ic V x (J.getD i ez)) (λH=>H l=d9 (.a J)∧kJ A H) [N] (Ct l N) where
 e:=by rintro i p ⟨o,rfl,_⟩ q G;simp at G;simp[G]
 d:=by
  rintro t rfl rfl rfl i p V H E s D W S;exact Xy (sU D S) ⟨rfl,S⟩
 b:=by
  rintro t rfl rfl rfl ac C f i p V H E s R D ⟨W,g⟩ S;refine S.b.e W λF n L T=>?_;refine rq T (jF R) λy hy h=>?_;refine XC (sU D S) (iU L) hy λu a j=>?_;refine f5 a λX k1 k k3=>?_;refine(eu y rfl (iA (tK ?_)))
  (refine f5 D λo O K I=>?_;(clear D;obtain rfl:=O))
  have r:St (gO t [(N,X)]) V H { s with heap:=u }:=S.f (A:=s.toks) (by simpa using f N (by simp)) (λb x v e=>(j.2 b (λq=>v (N,o) (by simp) q.symm)).trans e)
   (by intro q G;simp only[gR] at G;subst G;exact⟨k1,eH ⟨o,by simp⟩⟩)
  refine fc (oR (c:=gO t [(N,X)]) (Q:=λaa c=>aa=ic V x (J.getD i ez)∧c=H) ac.k (C x (by simp)) ⟨rfl,rfl⟩ _ _ y r ?_) (λU ag G=>?_) λU U x=>x
  ·rw[h,lD,jF R];rfl
  ·(refine fT G λaa c af m d=>?_;obtain rfl:=m;(clear W g S r G;obtain rfl:=d))
   exact(eu _ (fQ X rfl k (by simpa using k3)) af)
 c:=by
  rintro t rfl rfl rfl f p V H E s D ⟨W,g⟩ S;refine S.b.e W λF n L T=>?_;have R:F[J.length]? =none:=by rw(occs:=eO) [Aq,ke T];exact ig _
  have Q:∀u,Xd N s.heap u->(eh:Option ed)=eh∧St t V H { s with heap:=u }:=λu j=>by
   (refine f5 D λo M K I=>?_;(clear D;obtain rfl:=M))
   exact⟨rfl,(S.f (v:=[]) (A:=s.toks) (by simpa using f N (by simp)) (λb x v e=>j b x (λq=>v (N,o) (by simp) q.symm) e) (by simp)).j⟩
  rcases g with g|⟨e,oe,aj,O,m,d,M⟩
  ·exact XA g (sU D S) (iU L) R Q
  ·(refine S.b.d e _ m λro Z P=>?_;obtain rfl:=P)
   have ae:e≠N:=λq=>by
    (refine eR D λo B U=>?_;(clear D;obtain rfl:=B))
    have:=(S.d N o (eH (by simp))).2.2.2.2;rw[←q,m] at this;exact iX this
   exact QW O Z d M ae (sU D S) (iU L) R Q
theorem Of{f:eP}{x:String}{z:fE}{Q:Nat->(Nat->eJ->eJ)->(AH->Prop)->AH->Prop}
  (h:TE c f V H (λv Z=>∃l J,v=ec l∧Z l=d9 (.a J)∧kJ c.b Z∧Q J.length (λi V=>ic V x (J.getD i ez)) (λH=>H l=d9 (.a J)∧kJ c.b H) Z)):
  j6 c f (gk (eE x) z) [x] V H Q:=λE s S=>by
 refine fc (h E s S) (λv j G=>?_) λU U x=>x;obtain⟨Z,m,l,J,N,C,g,G⟩ :=G;obtain rfl:=gX N;obtain⟨F,n,L,T⟩ :=m.b.i C;refine xZ (iU L) ?_;have R:j.heap.get? j.heap.objs.size=none:=ku (ig _);have K:=m.h R;obtain⟨W,q⟩ :=m.q (d:=j.heap.objs.size) (X:=.c { cls:=eK "list_iterator",data:=fB #[ec l,ej 0 0] }) (u:=j.heap.push _) (p:=j.toks) R
  (λb o e=>hY _ e) (jf _ rfl) rfl
 exact⟨_,_,_,([j.heap.objs.size]),_,([(j.heap.objs.size,_)]),Z,SH,(fQ _ rfl rfl rfl),(by simpa using⟨K.b,_,jf _ rfl⟩),(q.u W),⟨C,g⟩,G⟩
theorem St.Q{g:fH}{s:eZ}(w:fo c=[])(T:uU (fo c) c.f g)(S:St (cg c g) V H s):St c V H s:=by
 have C:∀b o,c.f.get? b=d9 o->g.get? b=d9 o:=λb o e=>T.other b o e (by rw[w];simp);have j:∀b,g.get? b=eh->c.f.get? b=none:=λb e=>by
  cases G:c.f.get? b with
  |none=>rfl
  |some o=>have:=C b o G;rw[e] at this;exact nS this
 obtain⟨⟨m,F,Y⟩,R,f,d,k⟩ :=S;have A:Fr c.f c.h s.heap m:=⟨F.ns,λb o e=>F.keep b o (C b o e),by rw[←T.size];exact F.above⟩;refine⟨(eu m A ?_),⟨R.f,λa o h=>⟨(R.b a o h).1,j _ (R.b a o h).2⟩⟩,λa o h=>?_,d,k⟩
 ·cases i:c.i with
  |none=>
   rw[show(cg c g).i=eh from i] at Y;exact Y
  |some n=>
   rw[show(cg c g).i=d9 n from i] at Y
   (refine kB Y λK O I L=>?_;refine i8 L λl y J N=>?_)
   exact⟨K,O,I,l,y,j _ J,N⟩
 ·refine md (f a o h) λQ E t v U=>?_
  exact⟨Q,E,t,j _ v,U⟩
noncomputable def rj(c:Cx)(e:et):Cx:={ c with b:=c.b.mark (d9 (ec e)) }
theorem Cx.d.n(O:c.d){e:et}:(rj c e).d:=⟨O.f,O.a,O.d,O.e,O.g,O.h,O.b,O.i,O.j⟩
theorem Lx{e:et}{v:fN}{J:Array ed}(K:H e=d9 (.c v))(I:v.data=fB J)(g:J[2]? =d9 ez):kJ (rj c e).b H:=eI (ph e v J rfl K I g)
theorem MU{C N n:et}{x:ft}{np d z:fE}{W:fG}{B b:List fG}{Q:gr->eJ->AH->Prop}{X:eJ->et->AH->Prop}(O:c.d)(i:c.i=eh)(g:c.a=c.n)(w:fo c=[])(R:c.e.In c.m)(u:rI c.p (rK c.p []) c.r c.s c.m)
  (D:oS c.e C N n) (ex:jg c.e ky x=d9 (d9 (ec C))) (hx:c.a.kindOf x=d9 eY) (p:(x==("__debug__":ft))=em) (Y:∀a o,¬c.j a o)
  (j:rZ c B V H Q X) (aa:∀l I M,X l I M->I=C)
  (ag:∀l M e v J,X l C M->M e=eh->v.data=fB J->J[2]? =d9 ez->TS (rj c e) (W::b) l (eQ M e (.c v)) Q):
  T1 c (uT B [uP (d9 (gk x np)) eh (W::b) d] [] [] z) V H Q:=λaj ak S=>by
 refine JS (X:=X) O i g R u D ex hx p S ?_ aa ?_
 ·refineλh P A hE=>fc (j h P A hE) (λf m G=>?_) λU U x=>x
  refine iH G λl M k F=>?_;exact(ib l M k (λf' s3 y af=>(ib l M af (y▸F))))
 ·intro l M e T P v J ac t hO K h2 A h
  refine fe (St.J (c:=cg c T) A (λo=>Y e o)) λae q=>?_;have q:=q.Q w t;have L:St (rj c e) l (eQ M e (.c v)) P:=⟨q.e,⟨q.b.f,q.b.b⟩,q.d,q.p,q.n⟩;refine fc (ag l M e v J ac ae K h2 h P L) (λf m G=>?_) λU U x=>x;refine iH G λE Z r s=>?_;exact(ib E Z ⟨r.e,⟨r.b.f,r.b.b⟩,r.d,r.p,r.n⟩ s)
end
section
noncomputable abbrev pw:=W0
noncomputable abbrev ei(x:String):Str:=eE x
noncomputable abbrev de(P:iE)(x:String)(t:Tok)(v:ed):DictEntry:=⟨KR P (eE x),eC (eE x) t,v⟩
noncomputable def gH:Stmt:=.Pass fU
def eS(i:Nat):Stmt:=pw.main.body.getD i gH
def fW(i j:Nat):Stmt:=match eS i with|.ClassDef _ _ _ b _ _ _ _ _ _ _=>b.getD j gH|_=>gH
noncomputable def qg:fG->AL|KU _ a _ _ _ _ _ _ _ _=>a|_=>fU
noncomputable def fj:fG->List fG|KU _ _ b _ _ _ _ _ _ _=>b|_=>[]
noncomputable def fD:fG->jG|KU _ _ _ _ _ _ L _ _ _=>L|_=>fU
abbrev gQ(u:fG)(n q:ft)(m E s:ed):Data:=xH (lJ n q (qg u) (fj u) (fD u) m ez ez E eh s ez)
def KK(P:iE):Frag:=[
 (3,⟨(eK "dict"),eh,(oO (DU [de P "__name__" 165 (eC (ei "law_ok0064_01") 676),de P "__doc__" 166 ez,de P "__package__" 167 ez,de P "__loader__" 168 (iP "__main__.__loader__#opaque"),de P "__spec__" 169 ez,de P "__annotations__" 170 (ec 6),de P "__builtins__" 171 (ec 4),de P "__file__" 173 (eC (ei "/claim/cut.py") 172),de P "__cached__" 174 ez,de P "_wall" 193 (ec 21),de P "LispSignal" 226 (ec 38),de P "LEAF" 230 (ej (0) 229),de P "COLUMN" 232 (ej (1) 231),de P "ROW" 234 (ej (2) 233),de P "WIDTH" 236 (ej (0) 235),de P "HEIGHT" 238 (ej (1) 237),de P "Window" 324 (ec 93),de P "WindowTree" 426 (ec 164),de P "along" 433 (ec 175),de P "sort_along" 440 (ec 182),de P "leaves_under" 451 (ec 189),de P "leaves" 458 (ec 196),de P "windows_under" 469 (ec 203),de P "replace_child" 480 (ec 210),de P "forget" 489 (ec 217),de P "least_size" 497 (ec 222),de P "shares" 503 (ec 227),de P "set_tree_size" 509 (ec 232),de P "set_places" 522 (ec 239),de P "resize_frame" 531 (ec 246),de P "wrong_window" 544 (ec 253),de P "tree_error" 555 (ec 260),de P "node_of" 563 (ec 265),de P "configuration" 571 (ec 272),de P "split_parts" 586 (ec 279),de P "combined" 597 (ec 286),de P "split" 615 (ec 293),de P "joined" 627 (ec 300),de P "lifted" 637 (ec 307),de P "most_recent" 647 (ec 314),de P "delete_window" 662 (ec 321),de P "delete_others" 675 (ec 328),de P "_law_draw" 685 (ec 335),de P "_law_least" 691 (ec 340),de P "_law_is_shared" 697 (ec 345),de P "_law_built" 711 (ec 352),de P "_law_is_gone" 717 (ec 357),de P "law" 723 (ec 362)]) 48),#[]⟩),
 (20,⟨(eK "code"),eh,(fB #[(eC (ei "_wall") 187),(eC (ei "_wall") 188),(eC (ei "/claim/cut.py") 189),(ej (1) 0),(ej (1) 0),(ej (0) 0),(ej (0) 0),(ej (3) 0),(ec 15),(fF eb),(ej (181) 0),(ec 16),ez,(ec 17),(ec 18),(ec 19),(ej (191) 0),(ej (1) 0),(eC (ei "/claim/cut.py") 192)]),#[]⟩),
 (21,⟨(eK "function"),eh,(gQ (eS 0) (ei "_wall") (ei "_wall") ez (eC (ei "__main__") 164) (ec 20)),#[]⟩),
 (27,⟨(eK "code"),eh,(fB #[(eC (ei "LispSignal") 198),(eC (ei "LispSignal") 199),(eC (ei "/claim/cut.py") 200),(ej (5) 0),(ej (0) 0),(ej (0) 0),(ej (0) 0),(ej (0) 0),(ec 25),(fF em),(ej (181) 0),(ec 26),ez,ez,ez,ez,(ej (201) 0),(ej (5) 0),(eC (ei "/claim/cut.py") 202)]),#[]⟩),
 (34,⟨(eK "code"),eh,(fB #[(eC (ei "__init__") 208),(eC (ei "LispSignal.__init__") 209),(eC (ei "/claim/cut.py") 210),(ej (7) 0),(ej (3) 0),(ej (0) 0),(ej (0) 0),(ej (3) 0),(ec 29),(fF eb),(ej (181) 0),(ec 30),ez,(ec 31),(ec 32),(ec 33),(ej (214) 0),(ej (7) 0),(eC (ei "/claim/cut.py") 215)]),#[]⟩),
 (35,⟨(eK "function"),eh,(gQ (fW 2 0) (ei "__init__") (ei "LispSignal.__init__") ez (eC (ei "emacs.errors") 194) (ec 34)),#[]⟩),
 (37,⟨(eK "dict"),eh,(oO (DU [de P "__module__" 203 (eC (ei "emacs.errors") 194),de P "__firstlineno__" 207 (ej (5) 206),de P "__init__" 216 (ec 35),de P "__static_attributes__" 219 (ec 36),de P "__weakref__" 221 (ec 39),de P "__doc__" 222 ez]) 3),#[]⟩),
 (38,⟨(eK "type"),eh,(.cls ⟨(ei "LispSignal"),[(eK "Exception")],[(ec 38),(eK "Exception"),(eK "BaseException"),(eK "object")],37,(ei "LispSignal"),eb,[],[],em,eh,em⟩),#[(d9 (ec 22)),eh,(d9 (eC (ei "LispSignal") 196)),(d9 (eC (ei "LispSignal") 204)),(d9 (iP "Exception.__new__")),(d9 (fF eb))]⟩),
 (47,⟨(eK "code"),eh,(fB #[(eC (ei "Window") 241),(eC (ei "Window") 242),(eC (ei "/claim/cut.py") 243),(ej (16) 0),(ej (0) 0),(ej (0) 0),(ej (0) 0),(ej (0) 0),(ec 45),(fF em),(ej (181) 0),(ec 46),ez,ez,ez,ez,(ej (244) 0),(ej (16) 0),(eC (ei "/claim/cut.py") 245)]),#[]⟩),
 (54,⟨(eK "code"),eh,(fB #[(eC (ei "__init__") 251),(eC (ei "Window.__init__") 252),(eC (ei "/claim/cut.py") 253),(ej (18) 0),(ej (4) 0),(ej (0) 0),(ej (0) 0),(ej (3) 0),(ec 49),(fF eb),(ej (181) 0),(ec 50),ez,(ec 51),(ec 52),(ec 53),(ej (258) 0),(ej (18) 0),(eC (ei "/claim/cut.py") 259)]),#[]⟩),
 (55,⟨(eK "function"),eh,(gQ (fW 9 0) (ei "__init__") (ei "Window.__init__") ez (eC (ei "emacs.windows") 227) (ec 54)),#[]⟩),
 (61,⟨(eK "code"),eh,(fB #[(eC (ei "size") 261),(eC (ei "Window.size") 262),(eC (ei "/claim/cut.py") 263),(ej (36) 0),(ej (2) 0),(ej (0) 0),(ej (0) 0),(ej (3) 0),(ec 56),(fF eb),(ej (181) 0),(ec 57),ez,(ec 58),(ec 59),(ec 60),(ej (266) 0),(ej (36) 0),(eC (ei "/claim/cut.py") 267)]),#[]⟩),
 (62,⟨(eK "function"),eh,(gQ (fW 9 1) (ei "size") (ei "Window.size") ez (eC (ei "emacs.windows") 227) (ec 61)),#[]⟩),
 (68,⟨(eK "code"),eh,(fB #[(eC (ei "set_size") 269),(eC (ei "Window.set_size") 270),(eC (ei "/claim/cut.py") 271),(ej (39) 0),(ej (3) 0),(ej (0) 0),(ej (0) 0),(ej (3) 0),(ec 63),(fF eb),(ej (181) 0),(ec 64),ez,(ec 65),(ec 66),(ec 67),(ej (275) 0),(ej (39) 0),(eC (ei "/claim/cut.py") 276)]),#[]⟩),
 (69,⟨(eK "function"),eh,(gQ (fW 9 2) (ei "set_size") (ei "Window.set_size") ez (eC (ei "emacs.windows") 227) (ec 68)),#[]⟩),
 (75,⟨(eK "code"),eh,(fB #[(eC (ei "place") 278),(eC (ei "Window.place") 279),(eC (ei "/claim/cut.py") 280),(ej (45) 0),(ej (2) 0),(ej (0) 0),(ej (0) 0),(ej (3) 0),(ec 70),(fF eb),(ej (181) 0),(ec 71),ez,(ec 72),(ec 73),(ec 74),(ej (283) 0),(ej (45) 0),(eC (ei "/claim/cut.py") 284)]),#[]⟩),
 (76,⟨(eK "function"),eh,(gQ (fW 9 3) (ei "place") (ei "Window.place") ez (eC (ei "emacs.windows") 227) (ec 75)),#[]⟩),
 (82,⟨(eK "code"),eh,(fB #[(eC (ei "shown") 286),(eC (ei "Window.shown") 287),(eC (ei "/claim/cut.py") 288),(ej (48) 0),(ej (1) 0),(ej (0) 0),(ej (0) 0),(ej (3) 0),(ec 77),(fF eb),(ej (181) 0),(ec 78),ez,(ec 79),(ec 80),(ec 81),(ej (290) 0),(ej (48) 0),(eC (ei "/claim/cut.py") 291)]),#[]⟩),
 (83,⟨(eK "function"),eh,(gQ (fW 9 4) (ei "shown") (ei "Window.shown") ez (eC (ei "emacs.windows") 227) (ec 82)),#[]⟩),
 (89,⟨(eK "code"),eh,(fB #[(eC (ei "show") 293),(eC (ei "Window.show") 294),(eC (ei "/claim/cut.py") 295),(ej (51) 0),(ej (2) 0),(ej (0) 0),(ej (0) 0),(ej (3) 0),(ec 84),(fF eb),(ej (181) 0),(ec 85),ez,(ec 86),(ec 87),(ec 88),(ej (298) 0),(ej (51) 0),(eC (ei "/claim/cut.py") 299)]),#[]⟩),
 (90,⟨(eK "function"),eh,(gQ (fW 9 5) (ei "show") (ei "Window.show") ez (eC (ei "emacs.windows") 227) (ec 89)),#[]⟩),
 (92,⟨(eK "dict"),eh,(oO (DU [de P "__module__" 246 (eC (ei "emacs.windows") 227),de P "__firstlineno__" 250 (ej (16) 249),de P "__init__" 260 (ec 55),de P "size" 268 (ec 62),de P "set_size" 277 (ec 69),de P "place" 285 (ec 76),de P "shown" 292 (ec 83),de P "show" 300 (ec 90),de P "__static_attributes__" 317 (ec 91),de P "__dict__" 319 (ec 94),de P "__weakref__" 321 (ec 95),de P "__doc__" 322 ez]) 4),#[]⟩),
 (93,⟨(eK "type"),eh,(.cls ⟨(ei "Window"),[(eK "object")],[(ec 93),(eK "object")],92,(ei "Window"),eb,[],[],em,eh,em⟩),#[eh,eh,(d9 (eC (ei "Window") 239)),(d9 (eC (ei "Window") 247)),(d9 (iP "object.__new__")),(d9 (fF eb))]⟩),
 (103,⟨(eK "code"),eh,(fB #[(eC (ei "WindowTree") 327),(eC (ei "WindowTree") 328),(eC (ei "/claim/cut.py") 329),(ej (53) 0),(ej (0) 0),(ej (0) 0),(ej (0) 0),(ej (0) 0),(ec 101),(fF em),(ej (181) 0),(ec 102),ez,ez,ez,ez,(ej (330) 0),(ej (53) 0),(eC (ei "/claim/cut.py") 331)]),#[]⟩),
 (105,⟨(eK "tuple"),eh,(kQ #[(ej (10) 337),(ej (4) 338)] 0),#[]⟩),
 (111,⟨(eK "code"),eh,(fB #[(eC (ei "__init__") 339),(eC (ei "WindowTree.__init__") 340),(eC (ei "/claim/cut.py") 341),(ej (55) 0),(ej (6) 0),(ej (0) 0),(ej (0) 0),(ej (3) 0),(ec 106),(fF eb),(ej (181) 0),(ec 107),ez,(ec 108),(ec 109),(ec 110),(ej (349) 0),(ej (55) 0),(eC (ei "/claim/cut.py") 350)]),#[]⟩),
 (112,⟨(eK "function"),eh,(gQ (fW 10 0) (ei "__init__") (ei "WindowTree.__init__") (ec 105) (eC (ei "emacs.windows") 227) (ec 111)),#[]⟩),
 (118,⟨(eK "code"),eh,(fB #[(eC (ei "fresh") 352),(eC (ei "WindowTree.fresh") 353),(eC (ei "/claim/cut.py") 354),(ej (69) 0),(ej (3) 0),(ej (0) 0),(ej (0) 0),(ej (3) 0),(ec 113),(fF eb),(ej (181) 0),(ec 114),ez,(ec 115),(ec 116),(ec 117),(ej (359) 0),(ej (69) 0),(eC (ei "/claim/cut.py") 360)]),#[]⟩),
 (119,⟨(eK "function"),eh,(gQ (fW 10 1) (ei "fresh") (ei "WindowTree.fresh") ez (eC (ei "emacs.windows") 227) (ec 118)),#[]⟩),
 (125,⟨(eK "code"),eh,(fB #[(eC (ei "window") 362),(eC (ei "WindowTree.window") 363),(eC (ei "/claim/cut.py") 364),(ej (75) 0),(ej (2) 0),(ej (0) 0),(ej (0) 0),(ej (3) 0),(ec 120),(fF eb),(ej (181) 0),(ec 121),ez,(ec 122),(ec 123),(ec 124),(ej (368) 0),(ej (75) 0),(eC (ei "/claim/cut.py") 369)]),#[]⟩),
 (126,⟨(eK "function"),eh,(gQ (fW 10 2) (ei "window") (ei "WindowTree.window") ez (eC (ei "emacs.windows") 227) (ec 125)),#[]⟩),
 (132,⟨(eK "code"),eh,(fB #[(eC (ei "leaf") 371),(eC (ei "WindowTree.leaf") 372),(eC (ei "/claim/cut.py") 373),(ej (81) 0),(ej (2) 0),(ej (0) 0),(ej (0) 0),(ej (3) 0),(ec 127),(fF eb),(ej (181) 0),(ec 128),ez,(ec 129),(ec 130),(ec 131),(ej (377) 0),(ej (81) 0),(eC (ei "/claim/cut.py") 378)]),#[]⟩),
 (133,⟨(eK "function"),eh,(gQ (fW 10 3) (ei "leaf") (ei "WindowTree.leaf") ez (eC (ei "emacs.windows") 227) (ec 132)),#[]⟩),
 (139,⟨(eK "code"),eh,(fB #[(eC (ei "touch") 380),(eC (ei "WindowTree.touch") 381),(eC (ei "/claim/cut.py") 382),(ej (87) 0),(ej (2) 0),(ej (0) 0),(ej (0) 0),(ej (3) 0),(ec 134),(fF eb),(ej (181) 0),(ec 135),ez,(ec 136),(ec 137),(ec 138),(ej (385) 0),(ej (87) 0),(eC (ei "/claim/cut.py") 386)]),#[]⟩),
 (140,⟨(eK "function"),eh,(gQ (fW 10 4) (ei "touch") (ei "WindowTree.touch") ez (eC (ei "emacs.windows") 227) (ec 139)),#[]⟩),
 (146,⟨(eK "code"),eh,(fB #[(eC (ei "select") 388),(eC (ei "WindowTree.select") 389),(eC (ei "/claim/cut.py") 390),(ej (91) 0),(ej (2) 0),(ej (0) 0),(ej (0) 0),(ej (3) 0),(ec 141),(fF eb),(ej (181) 0),(ec 142),ez,(ec 143),(ec 144),(ec 145),(ej (393) 0),(ej (91) 0),(eC (ei "/claim/cut.py") 394)]),#[]⟩),
 (147,⟨(eK "function"),eh,(gQ (fW 10 5) (ei "select") (ei "WindowTree.select") ez (eC (ei "emacs.windows") 227) (ec 146)),#[]⟩),
 (153,⟨(eK "code"),eh,(fB #[(eC (ei "least_leaf") 396),(eC (ei "WindowTree.least_leaf") 397),(eC (ei "/claim/cut.py") 398),(ej (95) 0),(ej (2) 0),(ej (0) 0),(ej (0) 0),(ej (3) 0),(ec 148),(fF eb),(ej (181) 0),(ec 149),ez,(ec 150),(ec 151),(ec 152),(ej (401) 0),(ej (95) 0),(eC (ei "/claim/cut.py") 402)]),#[]⟩),
 (154,⟨(eK "function"),eh,(gQ (fW 10 6) (ei "least_leaf") (ei "WindowTree.least_leaf") ez (eC (ei "emacs.windows") 227) (ec 153)),#[]⟩),
 (160,⟨(eK "code"),eh,(fB #[(eC (ei "frame_size") 404),(eC (ei "WindowTree.frame_size") 405),(eC (ei "/claim/cut.py") 406),(ej (98) 0),(ej (2) 0),(ej (0) 0),(ej (0) 0),(ej (3) 0),(ec 155),(fF eb),(ej (181) 0),(ec 156),ez,(ec 157),(ec 158),(ec 159),(ej (409) 0),(ej (98) 0),(eC (ei "/claim/cut.py") 410)]),#[]⟩),
 (161,⟨(eK "function"),eh,(gQ (fW 10 7) (ei "frame_size") (ei "WindowTree.frame_size") ez (eC (ei "emacs.windows") 227) (ec 160)),#[]⟩),
 (163,⟨(eK "dict"),eh,(oO (DU [de P "__module__" 332 (eC (ei "emacs.windows") 227),de P "__firstlineno__" 336 (ej (53) 335),de P "__init__" 351 (ec 112),de P "fresh" 361 (ec 119),de P "window" 370 (ec 126),de P "leaf" 379 (ec 133),de P "touch" 387 (ec 140),de P "select" 395 (ec 147),de P "least_leaf" 403 (ec 154),de P "frame_size" 411 (ec 161),de P "__static_attributes__" 419 (ec 162),de P "__dict__" 421 (ec 165),de P "__weakref__" 423 (ec 166),de P "__doc__" 424 ez]) 4),#[]⟩),
 (164,⟨(eK "type"),eh,(.cls ⟨(ei "WindowTree"),[(eK "object")],[(ec 164),(eK "object")],163,(ei "WindowTree"),eb,[],[],em,eh,em⟩),#[eh,eh,(d9 (eC (ei "WindowTree") 325)),(d9 (eC (ei "WindowTree") 333)),(d9 (iP "object.__new__")),(d9 (fF eb))]⟩),
 (174,⟨(eK "code"),eh,(fB #[(eC (ei "along") 427),(eC (ei "along") 428),(eC (ei "/claim/cut.py") 429),(ej (100) 0),(ej (1) 0),(ej (0) 0),(ej (0) 0),(ej (3) 0),(ec 169),(fF eb),(ej (181) 0),(ec 170),ez,(ec 171),(ec 172),(ec 173),(ej (431) 0),(ej (100) 0),(eC (ei "/claim/cut.py") 432)]),#[]⟩),
 (175,⟨(eK "function"),eh,(gQ (eS 11) (ei "along") (ei "along") ez (eC (ei "emacs.windows") 227) (ec 174)),#[]⟩),
 (181,⟨(eK "code"),eh,(fB #[(eC (ei "sort_along") 434),(eC (ei "sort_along") 435),(eC (ei "/claim/cut.py") 436),(ej (102) 0),(ej (1) 0),(ej (0) 0),(ej (0) 0),(ej (3) 0),(ec 176),(fF eb),(ej (181) 0),(ec 177),ez,(ec 178),(ec 179),(ec 180),(ej (438) 0),(ej (102) 0),(eC (ei "/claim/cut.py") 439)]),#[]⟩),
 (182,⟨(eK "function"),eh,(gQ (eS 12) (ei "sort_along") (ei "sort_along") ez (eC (ei "emacs.windows") 227) (ec 181)),#[]⟩),
 (188,⟨(eK "code"),eh,(fB #[(eC (ei "leaves_under") 441),(eC (ei "leaves_under") 442),(eC (ei "/claim/cut.py") 443),(ej (104) 0),(ej (2) 0),(ej (0) 0),(ej (0) 0),(ej (3) 0),(ec 183),(fF eb),(ej (181) 0),(ec 184),ez,(ec 185),(ec 186),(ec 187),(ej (449) 0),(ej (104) 0),(eC (ei "/claim/cut.py") 450)]),#[]⟩),
 (189,⟨(eK "function"),eh,(gQ (eS 13) (ei "leaves_under") (ei "leaves_under") ez (eC (ei "emacs.windows") 227) (ec 188)),#[]⟩),
 (195,⟨(eK "code"),eh,(fB #[(eC (ei "leaves") 452),(eC (ei "leaves") 453),(eC (ei "/claim/cut.py") 454),(ej (114) 0),(ej (1) 0),(ej (0) 0),(ej (0) 0),(ej (3) 0),(ec 190),(fF eb),(ej (181) 0),(ec 191),ez,(ec 192),(ec 193),(ec 194),(ej (456) 0),(ej (114) 0),(eC (ei "/claim/cut.py") 457)]),#[]⟩),
 (196,⟨(eK "function"),eh,(gQ (eS 14) (ei "leaves") (ei "leaves") ez (eC (ei "emacs.windows") 227) (ec 195)),#[]⟩),
 (202,⟨(eK "code"),eh,(fB #[(eC (ei "windows_under") 459),(eC (ei "windows_under") 460),(eC (ei "/claim/cut.py") 461),(ej (116) 0),(ej (2) 0),(ej (0) 0),(ej (0) 0),(ej (3) 0),(ec 197),(fF eb),(ej (181) 0),(ec 198),ez,(ec 199),(ec 200),(ec 201),(ej (467) 0),(ej (116) 0),(eC (ei "/claim/cut.py") 468)]),#[]⟩),
 (203,⟨(eK "function"),eh,(gQ (eS 15) (ei "windows_under") (ei "windows_under") ez (eC (ei "emacs.windows") 227) (ec 202)),#[]⟩),
 (209,⟨(eK "code"),eh,(fB #[(eC (ei "replace_child") 470),(eC (ei "replace_child") 471),(eC (ei "/claim/cut.py") 472),(ej (124) 0),(ej (3) 0),(ej (0) 0),(ej (0) 0),(ej (3) 0),(ec 204),(fF eb),(ej (181) 0),(ec 205),ez,(ec 206),(ec 207),(ec 208),(ej (478) 0),(ej (124) 0),(eC (ei "/claim/cut.py") 479)]),#[]⟩),
 (210,⟨(eK "function"),eh,(gQ (eS 16) (ei "replace_child") (ei "replace_child") ez (eC (ei "emacs.windows") 227) (ec 209)),#[]⟩),
 (216,⟨(eK "code"),eh,(fB #[(eC (ei "forget") 481),(eC (ei "forget") 482),(eC (ei "/claim/cut.py") 483),(ej (132) 0),(ej (2) 0),(ej (0) 0),(ej (0) 0),(ej (3) 0),(ec 211),(fF eb),(ej (181) 0),(ec 212),ez,(ec 213),(ec 214),(ec 215),(ej (487) 0),(ej (132) 0),(eC (ei "/claim/cut.py") 488)]),#[]⟩),
 (217,⟨(eK "function"),eh,(gQ (eS 17) (ei "forget") (ei "forget") ez (eC (ei "emacs.windows") 227) (ec 216)),#[]⟩),
 (221,⟨(eK "code"),eh,(fB #[(eC (ei "least_size") 492),(eC (ei "least_size") 493),(eC (ei "/claim/cut.py") 494),(ej (136) 0),(ej (3) 0),(ej (0) 0),(ej (0) 0),(ej (3) 0),(ec 218),(fF eb),(ej (181) 0),(ec 219),ez,ez,ez,(ec 220),(ej (495) 0),(ej (136) 0),(eC (ei "/claim/cut.py") 496)]),#[]⟩),
 (222,⟨(eK "function"),eh,(gQ (eS 19) (ei "least_size") (ei "least_size") ez (eC (ei "emacs.sizes") 490) (ec 221)),#[]⟩),
 (226,⟨(eK "code"),eh,(fB #[(eC (ei "shares") 498),(eC (ei "shares") 499),(eC (ei "/claim/cut.py") 500),(ej (147) 0),(ej (3) 0),(ej (0) 0),(ej (0) 0),(ej (3) 0),(ec 223),(fF eb),(ej (181) 0),(ec 224),ez,ez,ez,(ec 225),(ej (501) 0),(ej (147) 0),(eC (ei "/claim/cut.py") 502)]),#[]⟩),
 (227,⟨(eK "function"),eh,(gQ (eS 20) (ei "shares") (ei "shares") ez (eC (ei "emacs.sizes") 490) (ec 226)),#[]⟩),
 (231,⟨(eK "code"),eh,(fB #[(eC (ei "set_tree_size") 504),(eC (ei "set_tree_size") 505),(eC (ei "/claim/cut.py") 506),(ej (155) 0),(ej (4) 0),(ej (0) 0),(ej (0) 0),(ej (3) 0),(ec 228),(fF eb),(ej (181) 0),(ec 229),ez,ez,ez,(ec 230),(ej (507) 0),(ej (155) 0),(eC (ei "/claim/cut.py") 508)]),#[]⟩),
 (232,⟨(eK "function"),eh,(gQ (eS 21) (ei "set_tree_size") (ei "set_tree_size") ez (eC (ei "emacs.sizes") 490) (ec 231)),#[]⟩),
 (238,⟨(eK "code"),eh,(fB #[(eC (ei "set_places") 510),(eC (ei "set_places") 511),(eC (ei "/claim/cut.py") 512),(ej (170) 0),(ej (1) 0),(ej (0) 0),(ej (0) 0),(ej (3) 0),(ec 233),(fF eb),(ej (181) 0),(ec 234),ez,(ec 235),(ec 236),(ec 237),(ej (520) 0),(ej (170) 0),(eC (ei "/claim/cut.py") 521)]),#[]⟩),
 (239,⟨(eK "function"),eh,(gQ (eS 22) (ei "set_places") (ei "set_places") ez (eC (ei "emacs.sizes") 490) (ec 238)),#[]⟩),
 (245,⟨(eK "code"),eh,(fB #[(eC (ei "resize_frame") 523),(eC (ei "resize_frame") 524),(eC (ei "/claim/cut.py") 525),(ej (182) 0),(ej (3) 0),(ej (0) 0),(ej (0) 0),(ej (3) 0),(ec 240),(fF eb),(ej (181) 0),(ec 241),ez,(ec 242),(ec 243),(ec 244),(ej (529) 0),(ej (182) 0),(eC (ei "/claim/cut.py") 530)]),#[]⟩),
 (246,⟨(eK "function"),eh,(gQ (eS 23) (ei "resize_frame") (ei "resize_frame") ez (eC (ei "emacs.sizes") 490) (ec 245)),#[]⟩),
 (252,⟨(eK "code"),eh,(fB #[(eC (ei "wrong_window") 532),(eC (ei "wrong_window") 533),(eC (ei "/claim/cut.py") 534),(ej (188) 0),(ej (2) 0),(ej (0) 0),(ej (0) 0),(ej (3) 0),(ec 247),(fF eb),(ej (181) 0),(ec 248),ez,(ec 249),(ec 250),(ec 251),(ej (542) 0),(ej (188) 0),(eC (ei "/claim/cut.py") 543)]),#[]⟩),
 (253,⟨(eK "function"),eh,(gQ (eS 24) (ei "wrong_window") (ei "wrong_window") ez (eC (ei "emacs.sizes") 490) (ec 252)),#[]⟩),
 (259,⟨(eK "code"),eh,(fB #[(eC (ei "tree_error") 545),(eC (ei "tree_error") 546),(eC (ei "/claim/cut.py") 547),(ej (209) 0),(ej (1) 0),(ej (0) 0),(ej (0) 0),(ej (3) 0),(ec 254),(fF eb),(ej (181) 0),(ec 255),ez,(ec 256),(ec 257),(ec 258),(ej (553) 0),(ej (209) 0),(eC (ei "/claim/cut.py") 554)]),#[]⟩),
 (260,⟨(eK "function"),eh,(gQ (eS 25) (ei "tree_error") (ei "tree_error") ez (eC (ei "emacs.sizes") 490) (ec 259)),#[]⟩),
 (264,⟨(eK "code"),eh,(fB #[(eC (ei "node_of") 558),(eC (ei "node_of") 559),(eC (ei "/claim/cut.py") 560),(ej (222) 0),(ej (2) 0),(ej (0) 0),(ej (0) 0),(ej (3) 0),(ec 261),(fF eb),(ej (181) 0),(ec 262),ez,ez,ez,(ec 263),(ej (561) 0),(ej (222) 0),(eC (ei "/claim/cut.py") 562)]),#[]⟩),
 (265,⟨(eK "function"),eh,(gQ (eS 27) (ei "node_of") (ei "node_of") ez (eC (ei "emacs.configuration") 556) (ec 264)),#[]⟩),
 (271,⟨(eK "code"),eh,(fB #[(eC (ei "configuration") 564),(eC (ei "configuration") 565),(eC (ei "/claim/cut.py") 566),(ej (232) 0),(ej (1) 0),(ej (0) 0),(ej (0) 0),(ej (3) 0),(ec 266),(fF eb),(ej (181) 0),(ec 267),ez,(ec 268),(ec 269),(ec 270),(ej (569) 0),(ej (232) 0),(eC (ei "/claim/cut.py") 570)]),#[]⟩),
 (272,⟨(eK "function"),eh,(gQ (eS 28) (ei "configuration") (ei "configuration") ez (eC (ei "emacs.configuration") 556) (ec 271)),#[]⟩),
 (278,⟨(eK "code"),eh,(fB #[(eC (ei "split_parts") 574),(eC (ei "split_parts") 575),(eC (ei "/claim/cut.py") 576),(ej (236) 0),(ej (4) 0),(ej (0) 0),(ej (0) 0),(ej (3) 0),(ec 273),(fF eb),(ej (181) 0),(ec 274),ez,(ec 275),(ec 276),(ec 277),(ej (584) 0),(ej (236) 0),(eC (ei "/claim/cut.py") 585)]),#[]⟩),
 (279,⟨(eK "function"),eh,(gQ (eS 30) (ei "split_parts") (ei "split_parts") ez (eC (ei "emacs.splits") 572) (ec 278)),#[]⟩),
 (285,⟨(eK "code"),eh,(fB #[(eC (ei "combined") 587),(eC (ei "combined") 588),(eC (ei "/claim/cut.py") 589),(ej (246) 0),(ej (3) 0),(ej (0) 0),(ej (0) 0),(ej (3) 0),(ec 280),(fF eb),(ej (181) 0),(ec 281),ez,(ec 282),(ec 283),(ec 284),(ej (595) 0),(ej (246) 0),(eC (ei "/claim/cut.py") 596)]),#[]⟩),
 (286,⟨(eK "function"),eh,(gQ (eS 31) (ei "combined") (ei "combined") ez (eC (ei "emacs.splits") 572) (ec 285)),#[]⟩),
 (292,⟨(eK "code"),eh,(fB #[(eC (ei "split") 598),(eC (ei "split") 599),(eC (ei "/claim/cut.py") 600),(ej (256) 0),(ej (5) 0),(ej (0) 0),(ej (0) 0),(ej (3) 0),(ec 287),(fF eb),(ej (181) 0),(ec 288),ez,(ec 289),(ec 290),(ec 291),(ej (613) 0),(ej (256) 0),(eC (ei "/claim/cut.py") 614)]),#[]⟩),
 (293,⟨(eK "function"),eh,(gQ (eS 32) (ei "split") (ei "split") ez (eC (ei "emacs.splits") 572) (ec 292)),#[]⟩),
 (299,⟨(eK "code"),eh,(fB #[(eC (ei "joined") 616),(eC (ei "joined") 617),(eC (ei "/claim/cut.py") 618),(ej (273) 0),(ej (2) 0),(ej (0) 0),(ej (0) 0),(ej (3) 0),(ec 294),(fF eb),(ej (181) 0),(ec 295),ez,(ec 296),(ec 297),(ec 298),(ej (625) 0),(ej (273) 0),(eC (ei "/claim/cut.py") 626)]),#[]⟩),
 (300,⟨(eK "function"),eh,(gQ (eS 33) (ei "joined") (ei "joined") ez (eC (ei "emacs.splits") 572) (ec 299)),#[]⟩),
 (306,⟨(eK "code"),eh,(fB #[(eC (ei "lifted") 628),(eC (ei "lifted") 629),(eC (ei "/claim/cut.py") 630),(ej (286) 0),(ej (2) 0),(ej (0) 0),(ej (0) 0),(ej (3) 0),(ec 301),(fF eb),(ej (181) 0),(ec 302),ez,(ec 303),(ec 304),(ec 305),(ej (635) 0),(ej (286) 0),(eC (ei "/claim/cut.py") 636)]),#[]⟩),
 (307,⟨(eK "function"),eh,(gQ (eS 34) (ei "lifted") (ei "lifted") ez (eC (ei "emacs.splits") 572) (ec 306)),#[]⟩),
 (313,⟨(eK "code"),eh,(fB #[(eC (ei "most_recent") 638),(eC (ei "most_recent") 639),(eC (ei "/claim/cut.py") 640),(ej (296) 0),(ej (2) 0),(ej (0) 0),(ej (0) 0),(ej (3) 0),(ec 308),(fF eb),(ej (181) 0),(ec 309),ez,(ec 310),(ec 311),(ec 312),(ej (645) 0),(ej (296) 0),(eC (ei "/claim/cut.py") 646)]),#[]⟩),
 (314,⟨(eK "function"),eh,(gQ (eS 35) (ei "most_recent") (ei "most_recent") ez (eC (ei "emacs.splits") 572) (ec 313)),#[]⟩),
 (320,⟨(eK "code"),eh,(fB #[(eC (ei "delete_window") 648),(eC (ei "delete_window") 649),(eC (ei "/claim/cut.py") 650),(ej (302) 0),(ej (2) 0),(ej (0) 0),(ej (0) 0),(ej (3) 0),(ec 315),(fF eb),(ej (181) 0),(ec 316),ez,(ec 317),(ec 318),(ec 319),(ej (660) 0),(ej (302) 0),(eC (ei "/claim/cut.py") 661)]),#[]⟩),
 (321,⟨(eK "function"),eh,(gQ (eS 36) (ei "delete_window") (ei "delete_window") ez (eC (ei "emacs.splits") 572) (ec 320)),#[]⟩),
 (327,⟨(eK "code"),eh,(fB #[(eC (ei "delete_others") 663),(eC (ei "delete_others") 664),(eC (ei "/claim/cut.py") 665),(ej (318) 0),(ej (2) 0),(ej (0) 0),(ej (0) 0),(ej (3) 0),(ec 322),(fF eb),(ej (181) 0),(ec 323),ez,(ec 324),(ec 325),(ec 326),(ej (673) 0),(ej (318) 0),(eC (ei "/claim/cut.py") 674)]),#[]⟩),
 (328,⟨(eK "function"),eh,(gQ (eS 37) (ei "delete_others") (ei "delete_others") ez (eC (ei "emacs.splits") 572) (ec 327)),#[]⟩),
 (334,⟨(eK "code"),eh,(fB #[(eC (ei "_law_draw") 678),(eC (ei "_law_draw") 679),(eC (ei "/claim/cut.py") 680),(ej (331) 0),(ej (2) 0),(ej (0) 0),(ej (0) 0),(ej (3) 0),(ec 329),(fF eb),(ej (181) 0),(ec 330),ez,(ec 331),(ec 332),(ec 333),(ej (683) 0),(ej (331) 0),(eC (ei "/claim/cut.py") 684)]),#[]⟩),
 (335,⟨(eK "function"),eh,(gQ (eS 39) (ei "_law_draw") (ei "_law_draw") ez (eC (ei "law_ok0064_01") 676) (ec 334)),#[]⟩),
 (339,⟨(eK "code"),eh,(fB #[(eC (ei "_law_least") 686),(eC (ei "_law_least") 687),(eC (ei "/claim/cut.py") 688),(ej (336) 0),(ej (3) 0),(ej (0) 0),(ej (0) 0),(ej (3) 0),(ec 336),(fF eb),(ej (181) 0),(ec 337),ez,ez,ez,(ec 338),(ej (689) 0),(ej (336) 0),(eC (ei "/claim/cut.py") 690)]),#[]⟩),
 (340,⟨(eK "function"),eh,(gQ (eS 40) (ei "_law_least") (ei "_law_least") ez (eC (ei "law_ok0064_01") 676) (ec 339)),#[]⟩),
 (344,⟨(eK "code"),eh,(fB #[(eC (ei "_law_is_shared") 692),(eC (ei "_law_is_shared") 693),(eC (ei "/claim/cut.py") 694),(ej (342) 0),(ej (4) 0),(ej (0) 0),(ej (0) 0),(ej (3) 0),(ec 341),(fF eb),(ej (181) 0),(ec 342),ez,ez,ez,(ec 343),(ej (695) 0),(ej (342) 0),(eC (ei "/claim/cut.py") 696)]),#[]⟩),
 (345,⟨(eK "function"),eh,(gQ (eS 41) (ei "_law_is_shared") (ei "_law_is_shared") ez (eC (ei "law_ok0064_01") 676) (ec 344)),#[]⟩),
 (351,⟨(eK "code"),eh,(fB #[(eC (ei "_law_built") 698),(eC (ei "_law_built") 699),(eC (ei "/claim/cut.py") 700),(ej (362) 0),(ej (1) 0),(ej (0) 0),(ej (0) 0),(ej (3) 0),(ec 346),(fF eb),(ej (181) 0),(ec 347),ez,(ec 348),(ec 349),(ec 350),(ej (709) 0),(ej (362) 0),(eC (ei "/claim/cut.py") 710)]),#[]⟩),
 (352,⟨(eK "function"),eh,(gQ (eS 42) (ei "_law_built") (ei "_law_built") ez (eC (ei "law_ok0064_01") 676) (ec 351)),#[]⟩),
 (356,⟨(eK "code"),eh,(fB #[(eC (ei "_law_is_gone") 712),(eC (ei "_law_is_gone") 713),(eC (ei "/claim/cut.py") 714),(ej (377) 0),(ej (3) 0),(ej (0) 0),(ej (0) 0),(ej (3) 0),(ec 353),(fF eb),(ej (181) 0),(ec 354),ez,ez,ez,(ec 355),(ej (715) 0),(ej (377) 0),(eC (ei "/claim/cut.py") 716)]),#[]⟩),
 (357,⟨(eK "function"),eh,(gQ (eS 43) (ei "_law_is_gone") (ei "_law_is_gone") ez (eC (ei "law_ok0064_01") 676) (ec 356)),#[]⟩),
 (361,⟨(eK "code"),eh,(fB #[(eC (ei "law") 718),(eC (ei "law") 719),(eC (ei "/claim/cut.py") 720),(ej (396) 0),(ej (1) 0),(ej (0) 0),(ej (0) 0),(ej (3) 0),(ec 358),(fF eb),(ej (181) 0),(ec 359),ez,ez,ez,(ec 360),(ej (721) 0),(ej (396) 0),(eC (ei "/claim/cut.py") 722)]),#[]⟩),
 (362,⟨(eK "function"),eh,(gQ (eS 44) (ei "law") (ei "law") ez (eC (ei "law_ok0064_01") 676) (ec 361)),#[]⟩)]
noncomputable def KA:List Addr:=[3,20,21,27,34,35,37,38,47,54,55,61,62,68,69,75,76,82,83,89,90,92,93,103,105,111,112,118,119,125,126,132,133,139,140,146,147,153,154,160,161,163,164,174,175,181,182,188,189,195,196,202,203,209,210,216,217,221,222,226,227,231,232,238,239,245,246,252,253,259,260,264,265,271,272,278,279,285,286,292,293,299,300,306,307,313,314,320,321,327,328,334,335,339,340,344,345,351,352,356,357,361,362]
theorem Os(P:iE):KA=(KK P).map (·.1):=rfl
end
section
open PySem PySem.W PySem.W.X PyProof.Rows
noncomputable def qv:Program:=view W0 [0,2,4,5,6,7,8,9,10,11,12,13,14,15,16,17,19,20,21,22,23,24,25,27,28,30,31,32,33,34,35,36,37,39,40,41,42,43,44]
theorem O7:opening pw=plainProg pw.main.scope.names:=by kernel_rfl
theorem O8(s:eZ):fenceModules? pw s=d9 s:=by kernel_rfl
def hk:Hook:=kHook KK KA (λP=>Os P)
theorem UR(w:kS)(r:OsState):(topFrom treeTable pw w 5000 ⟨boot_heap w.params,Array.mk [],boot_drawn,boot_toks,r⟩).map (λs=>(openSeen qv [] (importedModules pw.main.body) (λs=>xlAt qv [] s&&recOk [] s) eb s,hk.obs s))=d9 (openGood qv [],hk.val w):=by
 kernel_rfl
theorem XF:LeftO pw qv [] (λs=>xlAt qv [] s&&recOk [] s) hk.obs hk.val 5000 true:=by
 intro w;obtain⟨⟨h,O,d,k,r⟩,e,P⟩ :=xD.mp (boot_open (p:=pw) (N:=5000) O7 (by decide) O8 w);obtain⟨rfl,rfl,rfl,rfl⟩ :h=boot_heap w.params∧O=Array.mk []∧d=boot_drawn∧k=boot_toks:=by simpa using P
 unfold openEnds;rw[e];exact UR w r
end
section
variable{c:Cx}{V:eJ}{H:AH}{P:iE}
noncomputable def qq(L:jG)(Y:List String):Bool:=Y.all (λx=>eU (L.names.lookup (eE x)=d9 ey))&&L.names.all (λx=>eU (x.2≠fK))&&!L.isCoroutine&&!L.isGenerator&&eU (L.kind=jH)
theorem RE{L:jG}{Y:List String}(h:qq L Y=eb):(∀x∈Y,L.names.lookup (eE x)=d9 ey)∧(∀x∈L.names,x.2≠fK)∧L.isCoroutine=em∧L.isGenerator=em∧L.kind=jH:=by
 unfold qq at h;simp only[uD,iC,decide_eq_true_eq,Bool.not_eq_true'] at h;exact⟨h.1.1.1.1,h.1.1.1.2,h.1.1.2,h.1.2,h.2⟩
theorem wJ{L:jG}{Y:List String}(h:qq L Y=eb){G:Prop}(N:(∀x∈Y,L.names.lookup (eE x)=d9 ey)->(∀x∈L.names,x.2≠fK)->L.isCoroutine=em->L.isGenerator=em->L.kind=jH->G):G:=md (RE h) N
def sF(Z:AN)(Y:List String):Prop:=∀J:List ed,J.length=Y.length->Eh Z ⟨J,[]⟩ =f9 ((Y.map eE).zip J)
theorem Be{f s:et}{u:fG}{n q:ft}{E m:ed}{w:List ed}{Q:ed->AH->Prop}{k:Nat}(F:c.e=KK P)(O:c.d)(l:Lv c k)(Y:List String)
  (K:(KK P).lookup f=d9 ⟨eK "function",eh,gQ u n q m E (ec s),#[]⟩) (I:pP (KK P) (ec s) q=eb) (j:sF (lJ n q (qg u) (fj u) (fD u) m ez ez E eh (ec s) ez) Y) (b:qq (fD u) Y=eb) (W:w.length=Y.length)
  (h:∀g L,(iM c g L (kR q (fD u) L f (ec s) [])).d->TS (iM c g L (kR q (fD u) L f (ec s) [])) (fj u) (iR Y w) H (λX U M=>Q (pA X) M)):lL c (ec f) w V H Q:=by
 refine wJ b λi t R a Z=>?_;exact EW O (F▸K) (F▸I) l.f Y (λd J U N=>D4 (j J (N.trans W))) i t R a Z h
theorem QQ{L:Type}{l:List L}{n:Nat}(h:l.length=n+1):∃a r,l=a::r∧r.length=n:=by
 cases l with
 |nil=>exact nZ h
 |cons a r=>exact(ib a r rfl (ny h))
theorem ot{L:Type}{l:List L}{n:Nat}(h:l.length=n+1){G:Prop}(N:∀a r,l=a::r->r.length=n->G):G:=iH (QQ h) N
def ve(Z:AN)(Y:List String):List String->List ed->Prop
 |[],J=>Eh Z ⟨J,[]⟩ =f9 ((Y.map eE).zip J)
 |_::r,J=>∀a,ve Z Y r (J++[a])
theorem ve.a{Z:AN}{Y:List String}{J:List ed}(h:Eh Z ⟨J,[]⟩ =f9 ((Y.map eE).zip J)):ve Z Y [] J:=h
theorem Le{Z:AN}{Y:List String}{r:List String}:∀{J W:List ed},ve Z Y r J->W.length=r.length->Eh Z ⟨J++W,[]⟩ =f9 ((Y.map eE).zip (J++W)):=by
 induction r with
 |nil=>exactλh C=>by rw[oK.mp C,mJ];exact h
 |cons x r D=>
  intro J W h C;cases W with
  |nil=>exact nZ C
  |cons a W=>rw(occs:=eO) [List.append_cons];exact D (h a) (ny C)
theorem ij{Z:AN}{Y:List String}(h:ve Z Y Y []):sF Z Y:=λU N=>Le h N
theorem tS{x:String}{d:fE}{v:ed}{Q:ed->AH->Prop}(F:c.e=KK P)(O:c.d)(Z:c.a.kindOf (eE x)=d9 eY)
  (e:jg (KK P) ky (eE x)=d9 (d9 v)) (h:Q (nv v) H) (p:(eE x==("__debug__":ft))=em):TE c (gk (eE x) d) V H Q:=NQ O Z (F▸e) h p
end
section
mutual
inductive eW where
 |a (i:Nat)
 |w (g:Nat)
 |d (i:Int)
 |F
 |I (b:Bool)
 |G (s:String)
 |c (e:eW) (f:Nat)
 |n (e i:eW)
 |H (e:eW)
 |p (o:qG) (l r:eW)
 |h (o:oN) (l r:eW)
 |M (e:eW)
 |K (e:eW)
 |D (o:BoolOp) (es:Es)
 |C (t b o:eW)
 |z (es:Es)
 |A (es:Es)
 |N
 |B (elt:eW) (tg:List Nat) (src:iF) (ifs:Es) (tbl:List (Nat×fX))
 |j (g:Nat) (es:Es)
 |v (o:eW) (m:Nat) (es:Es)
 |x (g:Nat) (e:eW)
 |J (o k:eW)
 |L (o k:eW)
inductive Es where
 |b
 |a (e:eW) (es:Es)
inductive iF where
 |a (e:eW)
 |b (x y:eW)
 |f (x y z:eW)
 |h (e:eW)
end
mutual
inductive js where
 |a (i:Nat) (e:eW)
 |l (sw:Bool) (is:List Nat) (e:eW)
 |z (is:List Nat) (x:Nat)
 |y (i t x:Nat)
 |d (o:eW) (f:Nat) (e:eW)
 |B (o:eW) (x:Nat)
 |s (i:Nat) (fs:List Nat) (e:eW)
 |n (x:Nat) (k e:eW)
 |m (x:Nat) (e:eW)
 |r (x:Nat) (e:eW)
 |A (x:Nat) (k e:eW)
 |C (o:Nat) (e:eW)
 |q (t:Nat) (e:eW)
 |h (e:eW)
 |c (t:eW) (b o:Ss)
 |w (t:eW) (b:Ss)
 |j (tg:List Nat) (src:iF) (b:Ss)
 |g (e:eW)
 |u (x:Nat)
 |D
 |p
inductive Ss where
 |b
 |a (s:js) (r:Ss)
end
end
section
noncomputable def wG:List String:=["len","sum","max","sorted","abs","tuple","list","zip","enumerate","range","LEAF","COLUMN","ROW","WIDTH",
"HEIGHT","along","sort_along","leaves_under","leaves","windows_under","replace_child","forget","least_size",
"shares","set_tree_size","set_places","resize_frame","wrong_window","tree_error","node_of","configuration",
"split_parts","combined","split","joined","lifted","most_recent","delete_window","delete_others","_law_draw",
"_law_least","_law_is_shared","_law_built","_law_is_gone","LispSignal","WindowTree","Window","_wall",".0","k",
"self","symbol","data","number","sort","parent","axis","size","told","width","height","buffer",
"least_width","least_height","first","found","tree","waiting","here","old","new","children","own","child",
"total","weights","leasts","room","whole","rest","least","weight","at","much","spare","part","left","top",
"root","word","made","nodes","around","is_ahead","model","numbers","other","is_gone","deck","many","ahead",
"one","extra","used","lap","due","selected","script","wide","high","kept","is_enough","cell"]
noncomputable def lN:List String:=["number","sort","parent","children","left","top","width","height","buffer","start","point","hscroll",
"is_dedicated","use_time","earlier","later","windows","last","clock","least_width","least_height","root",
"selected","size","set_size","place","shown","show","fresh","window","leaf","touch","select","least_leaf"]
def nm(i:Nat):String:=wG.getD i "?"
def gf(i:Nat):String:=lN.getD i "?"
noncomputable def kx:eP->List eP×Nat×List Comprehension
 |jL v _ _=>([v],0,[])|pL v i _=>([v,i],0,[])|.BinOp l _ r _=>([l,r],0,[])|D6 l _ W _=>(l::W,0,[])|xK _ x _=>([x],0,[])|.IfExp t b o _=>([t,b,o],0,[])
 |jr f w _ _=>(f::w,0,[])|pK e O _ _=>([e],0,O)|xJ _ _ s _=>(s.toList,0,[])|AM w _=>(fU::w,0,[])|iD w k _=>(fU::w,k,[])|D5 _ w _=>(fU::w,0,[])|oP _ k _=>([],k,[])
 |_=>([],0,[])
def x1(x:eP):Expr:=(kx x).1.headD fU
def xl(x:eP):List Expr:=(kx x).1.tail
def x2(x:eP):Expr:=(xl x).headD fU
def x3(x:eP):Expr:=(xl x).tail.headD fU
def xk(x:eP):Nat:=(kx x).2.1
def xg(x:eP):Comprehension:=(kx x).2.2.headD fU
def jy(i:Nat)(x:eP):Expr:=gk (eE (nm i)) x.pos
noncomputable def jU:List Nat->List eP->List eP
 |[],_=>[]
 |i::m,z=>jy i (z.headD fU)::jU m z.tail
def xb:List Nat->eP->eP
 |[i],x=>jy i x
 |m,x=>iD (jU m (xl x)) (xk x) x.pos
def fM(Y:List (Nat×fX)):Scope:={ kind:=jH,names:=Y.map λp=>(eE (nm p.1),p.2),isGenerator:=em,isCoroutine:=em,more:=[] }
mutual
noncomputable def eW.u:eW->eP->eP
 |.a i,S=>jy i S
 |.w i,S=>jy i S
 |.d i,S=>oP (.int i) (xk S) S.pos
 |.F,S=>oP .none (xk S) S.pos
 |.I b,S=>oP (.bool b) (xk S) S.pos
 |.G s,S=>oP (.str (eE s)) (xk S) S.pos
 |.c e f,S=>jL (e.u (x1 S)) (eE (gf f)) S.pos
 |.n e i,S=>pL (e.u (x1 S)) (i.u (x2 S)) S.pos
 |.H e,S=>pL (e.u (x1 S)) (xJ eh eh (d9 (xK .USub (oP (.int 1) (xk (x1 (x1 (x2 S)))) (x1 (x1 (x2 S))).pos) (x1 (x2 S)).pos)) (x2 S).pos) S.pos
 |.p o l r,S=>.BinOp (l.u (x1 S)) o (r.u (x2 S)) S.pos
 |.h o l r,S=>D6 (l.u (x1 S)) [o] [r.u (x2 S)] S.pos
 |.M e,S=>xK .Not (e.u (x1 S)) S.pos
 |.K e,S=>xK .USub (e.u (x1 S)) S.pos
 |.D o U,S=>D5 o (U.c (xl S)) S.pos
 |.C t b o,S=>.IfExp (t.u (x1 S)) (b.u (x2 S)) (o.u (x3 S)) S.pos
 |.z U,S=>AM (U.c (xl S)) S.pos
 |.A U,S=>iD (U.c (xl S)) (xk S) S.pos
 |.N,S=>.Dict [] [] S.pos
 |.B T X W V Y,S=>pK (T.u (x1 S)) [⟨xb X (xg S).target,W.i (xg S).iter,V.c (xg S).ifs,0⟩] (fM Y) S.pos
 |.j g U,S=>jr (jy g (x1 S)) (U.c (xl S)) [] S.pos
 |.v o m U,S=>jr (jL (o.u (x1 (x1 S))) (eE (gf m)) (x1 S).pos) (U.c (xl S)) [] S.pos
 |.x g e,S=>jr (jy g (x1 S)) [e.u ((xl S).headD fU)] [] S.pos
 |.J o k,S=>jr (jL (o.u (x1 (x1 S))) (eE "index") (x1 S).pos) [k.u ((xl S).headD fU)] [] S.pos
 |.L o k,S=>jr (jL (o.u (x1 (x1 S))) (eE "get") (x1 S).pos) [k.u ((xl S).headD fU),oP .none (xk ((xl S).tail.headD fU)) ((xl S).tail.headD fU).pos] [] S.pos
noncomputable def Es.c:Es->List eP->List eP
 |.b,_=>[]
 |.a e w,z=>e.u (z.headD fU)::w.c z.tail
noncomputable def iF.i:iF->eP->eP
 |.a e,x=>e.u x
 |.b e j,x=>jr (gk "zip" (x1 x).pos) [e.u ((xl x).headD fU),j.u ((xl x).tail.headD fU)] [] x.pos
 |.f e j m,x=>jr (gk "zip" (x1 x).pos) [e.u ((xl x).headD fU),j.u ((xl x).tail.headD fU),m.u ((xl x).tail.tail.headD fU)] [] x.pos
 |.h e,x=>jr (gk "enumerate" (x1 x).pos) [e.u ((xl x).headD fU)] [] x.pos
end
noncomputable def ks:fG->eP×eP×List fG×List fG
 |lm a v _=>(a.headD fU,v,[],[])|.For t e b _ _=>(t,e,b,[])|qH v _=>(fU,v,[],[])|.If t b o _=>(fU,t,b,o)|.While t b _ _=>(fU,t,b,[])|xQ v _=>(fU,v.getD fU,[],[])
 |_=>(fU,fU,[],[])
def sT(s:fG):Expr:=(ks s).1
def sE(s:fG):Expr:=(ks s).2.1
def sB(s:fG):List Stmt:=(ks s).2.2.1
def sO(s:fG):List Stmt:=(ks s).2.2.2
noncomputable def re(i:Nat):List Nat->List eP->List eP
 |[],_=>[]
 |f::B,z=>jL (jy i (x1 (z.headD fU))) (eE (gf f)) (z.headD fU).pos::re i B z.tail
def uj(i:Nat)(m:String)(w:List eP)(x:eP):Expr:=jr (jL (jy i (x1 (x1 x))) (eE m) (x1 x).pos) w [] x.pos
mutual
noncomputable def js.v:js->fG->fG
 |.a i e,E=>lm [jy i (sT E)] (e.u (sE E)) E.pos
 |.l _ I e,E=>lm [iD (jU I (xl (sT E))) (xk (sT E)) (sT E).pos] (e.u (sE E)) E.pos
 |.z I x,E=>lm [iD (jU I (xl (sT E))) (xk (sT E)) (sT E).pos] (uj x "pop" [] (sE E)) E.pos
 |.y i t x,E=>lm [jy i (sT E)] (pL (jL (jy t (x1 (x1 (sE E)))) (eE "windows") (x1 (sE E)).pos) (uj x "pop" [] (x2 (sE E))) (sE E).pos) E.pos
 |.d o f e,E=>lm [jL (o.u (x1 (sT E))) (eE (gf f)) (sT E).pos] (e.u (sE E)) E.pos
 |.B o x,E=>lm [jL (o.u (x1 (sT E))) (eE "children") (sT E).pos] (jy x (sE E)) E.pos
 |.s i J e,E=>lm [iD (re i J (xl (sT E))) (xk (sT E)) (sT E).pos] (e.u (sE E)) E.pos
 |.n x k e,E=>lm [pL (jy x (x1 (sT E))) (k.u (x2 (sT E))) (sT E).pos] (e.u (sE E)) E.pos
 |.m x e,E=>qH (uj x "append" [e.u ((xl (sE E)).headD fU)] (sE E)) E.pos
 |.r x e,E=>qH (uj x "extend" [e.u ((xl (sE E)).headD fU)] (sE E)) E.pos
 |.A x k e,E=>qH (uj x "insert" [k.u ((xl (sE E)).headD fU),e.u ((xl (sE E)).tail.headD fU)] (sE E)) E.pos
 |.C o e,E=>qH (jr (jL (jL (jy o (x1 (x1 (x1 (sE E))))) (eE "children") (x1 (x1 (sE E))).pos) (eE "remove") (x1 (sE E)).pos) [e.u ((xl (sE E)).headD fU)] [] (sE E).pos) E.pos
 |.q t e,E=>qH (jr (jL (jL (jy t (x1 (x1 (x1 (sE E))))) (eE "windows") (x1 (x1 (sE E))).pos) (eE "pop") (x1 (sE E)).pos) [e.u ((xl (sE E)).headD fU)] [] (sE E).pos) E.pos
 |.h e,E=>qH (e.u (sE E)) E.pos
 |.c t b o,E=>.If (t.u (sE E)) (b.d (sB E)) (o.d (sO E)) E.pos
 |.w t b,E=>.While (t.u (sE E)) (b.d (sB E)) [] E.pos
 |.j N L b,E=>.For (xb N (sT E)) (L.i (sE E)) (b.d (sB E)) [] E.pos
 |.g e,E=>xQ (d9 (e.u (sE E))) E.pos
 |.u x,E=>xQ (d9 (jy x (sE E))) E.pos
 |.D,E=>xQ eh E.pos
 |.p,E=>E
noncomputable def Ss.d:Ss->List fG->List fG
 |.b,_=>[]
 |.a s r,z=>s.v (z.headD gH)::r.d z.tail
end
noncomputable def zX:List (Nat×fX):=[(50,ey),(53,ey),(54,ey),(55,ey)]
noncomputable def OT:Ss:=.a (.d (.a 50) 0 (.a 53)) (.a (.d (.a 50) 1 (.a 54)) (.a (.d (.a 50) 2 (.a 55)) (.a (.d (.a 50) 3 (.z .b)) (.a (.d (.a 50) 4 (.d 0)) (.a (.d (.a 50) 5 (.d 0)) (.a (.d (.a 50) 6 (.d 0)) (.a (.d (.a 50) 7 (.d 0)) (.a (.d (.a 50) 8 (.d 0)) (.a (.d (.a 50) 9 (.d 1)) (.a (.d (.a 50) 10 (.d 1)) (.a (.d (.a 50) 11 (.d 0)) (.a (.d (.a 50) 12 (.I em)) (.a (.d (.a 50) 13 (.d 0)) (.a (.d (.a 50) 14 (.z .b)) (.a (.d (.a 50) 15 (.z .b)) .b)))))))))))))))
noncomputable def Ji:List (Nat×fX):=[(50,ey),(56,ey),(13,eY)]
noncomputable def sr:Ss:=.a (.g (.C (.h fZ (.a 56) (.w 13)) (.c (.a 50) 6) (.c (.a 50) 7))) .b
noncomputable def Jf:List (Nat×fX):=[(50,ey),(56,ey),(57,ey),(13,eY)]
noncomputable def sq:Ss:=.a (.c (.h fZ (.a 56) (.w 13)) (.a (.d (.a 50) 6 (.a 57)) .b) (.a (.d (.a 50) 7 (.a 57)) .b)) .b
noncomputable def Je:List (Nat×fX):=[(50,ey),(56,ey),(13,eY)]
noncomputable def sj:Ss:=.a (.g (.C (.h fZ (.a 56) (.w 13)) (.c (.a 50) 4) (.c (.a 50) 5))) .b
noncomputable def Jh:List (Nat×fX):=[(50,ey)]
noncomputable def FT:Ss:=.a (.g (.A (.a (.c (.a 50) 8) (.a (.c (.a 50) 9) (.a (.c (.a 50) 10) (.a (.c (.a 50) 11) .b)))))) .b
noncomputable def Jg:List (Nat×fX):=[(50,ey),(58,ey)]
noncomputable def vC:Ss:=.a (.s 50 [8,9,10,11] (.a 58)) .b
noncomputable def w9:List (Nat×fX):=[(50,ey),(59,ey),(60,ey),(61,ey),(62,ey),(63,ey),(64,ey),(10,eY)]
noncomputable def OQ:Ss:=.a (.d (.a 50) 16 (.N)) (.a (.d (.a 50) 17 (.d 0)) (.a (.d (.a 50) 18 (.d 0)) (.a (.d (.a 50) 19 (.a 62)) (.a (.d (.a 50) 20 (.a 63)) (.a (.a 64 (.v (.a 50) 28 (.a (.w 10) (.a (.d 0) .b)))) (.a (.d (.a 64) 6 (.a 59)) (.a (.d (.a 64) 7 (.a 60)) (.a (.d (.a 64) 8 (.a 61)) (.a (.d (.a 50) 21 (.c (.a 64) 0)) (.a (.d (.a 50) 22 (.c (.a 64) 0)) (.a (.h (.v (.a 50) 31 (.a (.c (.a 64) 0) .b))) .b)))))))))))
noncomputable def I8:List (Nat×fX):=[(50,ey),(54,ey),(55,ey),(65,ey),(46,eY)]
noncomputable def OS:Ss:=.a (.d (.a 50) 17 (.p io (.c (.a 50) 17) (.d 1))) (.a (.a 65 (.j 46 (.a (.c (.a 50) 17) (.a (.a 54) (.a (.a 55) .b))))) (.a (.p) (.a (.u 65) .b)))
noncomputable def Jd:List (Nat×fX):=[(50,ey),(53,ey),(65,ey),(44,eY)]
noncomputable def vB:Ss:=.a (.a 65 (.L (.c (.a 50) 16) (.a 53))) (.a (.c (.h .Is (.a 65) (.F)) (.a (.p) .b) .b) (.a (.u 65) .b))
noncomputable def I9:List (Nat×fX):=[(50,ey),(53,ey),(65,ey),(10,eY),(44,eY)]
noncomputable def vy:Ss:=.a (.a 65 (.v (.a 50) 29 (.a (.a 53) .b))) (.a (.c (.h gd (.c (.a 65) 1) (.w 10)) (.a (.p) .b) .b) (.a (.u 65) .b))
noncomputable def Jc:List (Nat×fX):=[(50,ey),(53,ey)]
noncomputable def vA:Ss:=.a (.d (.a 50) 18 (.p io (.c (.a 50) 18) (.d 1))) (.a (.d (.n (.c (.a 50) 16) (.a 53)) 13 (.c (.a 50) 18)) .b)
noncomputable def Jb:List (Nat×fX):=[(50,ey),(53,ey)]
noncomputable def vz:Ss:=.a (.d (.a 50) 22 (.c (.v (.a 50) 30 (.a (.a 53) .b)) 0)) (.a (.h (.v (.a 50) 31 (.a (.a 53) .b))) .b)
noncomputable def Ja:List (Nat×fX):=[(50,ey),(56,ey),(13,eY)]
noncomputable def si:Ss:=.a (.g (.C (.h fZ (.a 56) (.w 13)) (.c (.a 50) 19) (.c (.a 50) 20))) .b
noncomputable def Jj:List (Nat×fX):=[(54,ey),(12,eY),(13,eY),(14,eY)]
noncomputable def vD:Ss:=.a (.g (.C (.h fZ (.a 54) (.w 12)) (.w 13) (.w 14))) .b
noncomputable def JE:List (Nat×fX):=[(56,ey),(13,eY),(12,eY),(11,eY)]
noncomputable def vP:Ss:=.a (.g (.C (.h fZ (.a 56) (.w 13)) (.w 12) (.w 11))) .b
noncomputable def Jw:List (Nat×fX):=[(66,ey),(53,ey),(65,ey),(67,ey),(68,ey),(10,eY)]
noncomputable def BR:Ss:=.a (.a 65 (.z .b)) (.a (.a 67 (.z (.a (.a 53) .b))) (.a (.w (.h gd (.a 67) (.z .b)) (.a (.y 68 66 67) (.a (.c (.h fZ (.c (.a 68) 1) (.w 10)) (.a (.m 65 (.c (.a 68) 0)) .b) (.a (.r 67 (.H (.c (.a 68) 3))) .b)) .b))) (.a (.u 65) .b)))
noncomputable def Jv:List (Nat×fX):=[(66,ey),(17,eY)]
noncomputable def yK:Ss:=.a (.g (.j 17 (.a (.a 66) (.a (.c (.a 66) 21) .b)))) .b
noncomputable def JH:List (Nat×fX):=[(66,ey),(53,ey),(65,ey),(67,ey),(68,ey)]
noncomputable def BS:Ss:=.a (.a 65 (.z .b)) (.a (.a 67 (.z (.a (.a 53) .b))) (.a (.w (.h gd (.a 67) (.z .b)) (.a (.y 68 66 67) (.a (.m 65 (.c (.a 68) 0)) (.a (.r 67 (.H (.c (.a 68) 3))) .b)))) (.a (.u 65) .b)))
noncomputable def JA:List (Nat×fX):=[(66,ey),(69,ey),(70,ey),(55,ey),(71,ey)]
noncomputable def rg:Ss:=.a (.a 55 (.c (.n (.c (.a 66) 16) (.a 69)) 2)) (.a (.d (.n (.c (.a 66) 16) (.a 70)) 2 (.a 55)) (.a (.c (.h fZ (.a 55) (.d 0)) (.a (.d (.a 66) 21 (.a 70)) .b) (.a (.a 71 (.c (.n (.c (.a 66) 16) (.a 55)) 3)) (.a (.n 71 (.J (.a 71) (.a 69)) (.a 70)) .b))) .b))
noncomputable def Jo:List (Nat×fX):=[(66,ey),(53,ey),(72,ey),(19,eY)]
noncomputable def vG:Ss:=.a (.j [72] (.a (.j 19 (.a (.a 66) (.a (.a 53) .b)))) (.a (.q 66 (.a 72)) .b)) .b
noncomputable def Ju:List (Nat×fX):=[(66,ey),(53,ey),(56,ey),(65,fK),(72,ey),(68,ey),(19,eY),(10,eY),(15,eY),(1,eY),(2,eY)]
noncomputable def vJ:Ss:=.a (.a 65 (.N)) (.a (.j [72] (.a (.H (.j 19 (.a (.a 66) (.a (.a 53) .b))))) (.a (.a 68 (.n (.c (.a 66) 16) (.a 72))) (.a (.c (.h fZ (.c (.a 68) 1) (.w 10)) (.a (.n 65 (.a 72) (.v (.a 66) 33 (.a (.a 56) .b))) .b) (.a (.c (.h fZ (.j 15 (.a (.c (.a 68) 1) .b)) (.a 56)) (.a (.n 65 (.a 72) (.x 1 (.B (.n (.a 65) (.a 73)) [73] (.a (.c (.a 68) 3)) .b [(48,ey),(73,ey),(65,gb)]))) .b) (.a (.n 65 (.a 72) (.x 2 (.B (.n (.a 65) (.a 73)) [73] (.a (.c (.a 68) 3)) .b [(48,ey),(73,ey),(65,gb)]))) .b)) .b)) .b))) (.a (.g (.n (.a 65) (.a 53))) .b))
noncomputable def JD:List (Nat×fX):=[(74,ey),(75,ey),(76,ey),(77,fK),(78,fK),(65,ey),(79,fK),(1,eY),(0,eY),(7,eY),(8,eY)]
noncomputable def sC:Ss:=.a (.l em [77,78] (.A (.a (.p gS (.a 74) (.x 1 (.a 76))) (.a (.x 1 (.a 75)) .b)))) (.a (.c (.h fZ (.a 78) (.d 0)) (.a (.a 75 (.p jb (.z (.a (.d 1) .b)) (.x 0 (.a 76)))) (.a (.a 78 (.x 0 (.a 76))) .b)) .b) (.a (.a 65 (.B (.p io (.a 80) (.p pN (.p jb (.a 77) (.a 81)) (.a 78))) [81,80] (.b (.a 75) (.a 76)) .b [(48,ey),(81,ey),(80,ey),(77,gb),(78,gb)])) (.a (.a 79 (.p gS (.a 74) (.x 1 (.a 65)))) (.a (.g (.B (.p io (.a 72) (.C (.h lj (.a 82) (.a 79)) (.d 1) (.d 0))) [82,72] (.h (.a 65)) .b [(48,ey),(82,ey),(72,ey),(79,gb)])) .b))))
noncomputable def JC:List (Nat×fX):=[(66,fK),(53,ey),(56,fK),(57,ey),(67,ey),(72,ey),(83,ey),(68,ey),(73,ey),(76,ey),(84,ey),(85,ey),(10,eY),(15,eY),(7,eY),(23,eY)]
noncomputable def vO:Ss:=.a (.a 67 (.z (.a (.A (.a (.a 53) (.a (.a 57) .b))) .b))) (.a (.w (.h gd (.a 67) (.z .b)) (.a (.z [72,83] 67) (.a (.a 68 (.n (.c (.a 66) 16) (.a 72))) (.a (.c (.h gd (.c (.a 68) 1) (.w 10)) (.a (.c (.h fZ (.j 15 (.a (.c (.a 68) 1) .b)) (.a 56)) (.a (.a 76 (.B (.j 22 (.a (.a 66) (.a (.a 73) (.a (.a 56) .b)))) [73] (.a (.c (.a 68) 3)) .b [(48,ey),(73,ey),(22,eY),(56,gb),(66,gb)])) (.a (.a 84 (.B (.p gS (.v (.n (.c (.a 66) 16) (.a 73)) 23 (.a (.a 56) .b)) (.a 80)) [73,80] (.b (.c (.a 68) 3) (.a 76)) .b [(48,ey),(73,ey),(80,ey),(56,gb),(66,gb)])) (.a (.j [73,85] (.b (.c (.a 68) 3) (.j 23 (.a (.a 83) (.a (.a 84) (.a (.a 76) .b))))) (.a (.m 67 (.A (.a (.a 73) (.a (.a 85) .b)))) .b)) .b))) (.a (.j [73] (.a (.c (.a 68) 3)) (.a (.m 67 (.A (.a (.a 73) (.a (.a 83) .b)))) .b)) .b)) .b) .b) (.a (.h (.v (.a 68) 24 (.a (.a 56) (.a (.a 83) .b)))) .b))))) .b)
noncomputable def JB:List (Nat×fX):=[(66,ey),(67,ey),(53,ey),(86,ey),(87,ey),(68,ey),(73,ey),(15,eY),(13,eY)]
noncomputable def vN:Ss:=.a (.a 67 (.z (.a (.A (.a (.c (.a 66) 21) (.a (.d 0) (.a (.d 0) .b)))) .b))) (.a (.w (.h gd (.a 67) (.z .b)) (.a (.z [53,86,87] 67) (.a (.a 68 (.n (.c (.a 66) 16) (.a 53))) (.a (.s 68 [4,5] (.A (.a (.a 86) (.a (.a 87) .b)))) (.a (.j [73] (.a (.c (.a 68) 3)) (.a (.m 67 (.A (.a (.a 73) (.a (.a 86) (.a (.a 87) .b))))) (.a (.c (.h fZ (.j 15 (.a (.c (.a 68) 1) .b)) (.w 13)) (.a (.a 86 (.p io (.a 86) (.c (.n (.c (.a 66) 16) (.a 73)) 6))) .b) (.a (.a 87 (.p io (.a 87) (.c (.n (.c (.a 66) 16) (.a 73)) 7))) .b)) .b))) .b))))) .b)
noncomputable def zY:List (Nat×fX):=[(66,ey),(59,ey),(60,ey),(22,eY),(13,eY),(14,eY),(44,eY),(24,eY),(25,eY)]
noncomputable def vM:Ss:=.a (.c (.D jw (.a (.h lj (.a 59) (.j 22 (.a (.a 66) (.a (.c (.a 66) 21) (.a (.w 13) .b))))) (.a (.h lj (.a 60) (.j 22 (.a (.a 66) (.a (.c (.a 66) 21) (.a (.w 14) .b))))) .b))) (.a (.p) .b) .b) (.a (.h (.j 24 (.a (.a 66) (.a (.c (.a 66) 21) (.a (.w 13) (.a (.a 59) .b)))))) (.a (.h (.j 24 (.a (.a 66) (.a (.c (.a 66) 21) (.a (.w 14) (.a (.a 60) .b)))))) (.a (.h (.j 25 (.a (.a 66) .b))) .b)))
noncomputable def JI:List (Nat×fX):=[(66,ey),(53,ey),(68,ey),(56,ey),(82,ey),(73,ey),(72,ey),(10,eY),(0,eY),(15,eY)]
noncomputable def vS:Ss:=.a (.a 68 (.n (.c (.a 66) 16) (.a 53))) (.a (.c (.h fZ (.c (.a 68) 1) (.w 10)) (.a (.c (.h gd (.c (.a 68) 3) (.z .b)) (.a (.g (.G "children")) .b) .b) (.a (.c (.D jw (.a (.h lj (.c (.a 68) 6) (.c (.a 66) 19)) (.a (.h lj (.c (.a 68) 7) (.c (.a 66) 20)) .b))) (.a (.g (.G "least")) .b) .b) (.a (.g (.F)) .b))) .b) (.a (.c (.h lj (.x 0 (.c (.a 68) 3)) (.d 2)) (.a (.g (.G "alone")) .b) .b) (.a (.l eb [56,82] (.A (.a (.j 15 (.a (.c (.a 68) 1) .b)) (.a (.v (.a 68) 25 (.a (.j 15 (.a (.c (.a 68) 1) .b)) .b)) .b)))) (.a (.j [73] (.a (.c (.a 68) 3)) (.a (.a 72 (.L (.c (.a 66) 16) (.a 73))) (.a (.c (.D jw (.a (.h .Is (.a 72) (.F)) (.a (.h gd (.c (.a 72) 2) (.a 53)) (.a (.h fZ (.c (.a 72) 1) (.c (.a 68) 1)) .b)))) (.a (.g (.G "child")) .b) .b) (.a (.c (.D jw (.a (.h gd (.v (.a 72) 25 (.a (.a 56) .b)) (.a 82)) (.a (.h gd (.v (.a 72) 25 (.a (.p gS (.d 1) (.a 56)) .b)) (.v (.a 68) 25 (.a (.p gS (.d 1) (.a 56)) .b))) .b))) (.a (.g (.G "place")) .b) .b) (.a (.c (.h gd (.v (.a 72) 23 (.a (.p gS (.d 1) (.a 56)) .b)) (.v (.a 68) 23 (.a (.p gS (.d 1) (.a 56)) .b))) (.a (.g (.G "size")) .b) .b) (.a (.a 82 (.p io (.a 82) (.v (.a 72) 23 (.a (.a 56) .b)))) .b)))))) (.a (.g (.C (.h fZ (.a 82) (.p io (.v (.a 68) 25 (.a (.a 56) .b)) (.v (.a 68) 23 (.a (.a 56) .b)))) (.F) (.G "cover"))) .b)))))
noncomputable def JG:List (Nat×fX):=[(66,ey),(88,ey),(65,ey),(53,ey),(89,ey),(19,eY),(27,eY),(3,eY),(17,eY)]
noncomputable def vR:Ss:=.a (.a 88 (.L (.c (.a 66) 16) (.c (.a 66) 21))) (.a (.c (.D jw (.a (.h .Is (.a 88) (.F)) (.a (.h gd (.c (.a 88) 2) (.d 0)) (.a (.h gd (.c (.a 88) 4) (.d 0)) (.a (.h gd (.c (.a 88) 5) (.d 0)) .b))))) (.a (.g (.A (.a (.c (.a 66) 21) (.a (.G "root") .b)))) .b) .b) (.a (.a 65 (.j 19 (.a (.a 66) (.a (.c (.a 66) 21) .b)))) (.a (.j [53] (.a (.a 65)) (.a (.a 89 (.j 27 (.a (.a 66) (.a (.a 53) .b)))) (.a (.c (.h uM (.a 89) (.F)) (.a (.g (.A (.a (.a 53) (.a (.a 89) .b)))) .b) .b) .b))) (.a (.c (.h gd (.x 3 (.a 65)) (.x 3 (.c (.a 66) 16))) (.a (.g (.A (.a (.d 0) (.a (.G "strangers") .b)))) .b) .b) (.a (.g (.C (.h og (.c (.a 66) 22) (.j 17 (.a (.a 66) (.a (.c (.a 66) 21) .b)))) (.F) (.A (.a (.c (.a 66) 22) (.a (.G "selected") .b))))) .b)))))
noncomputable def Jz:List (Nat×fX):=[(66,ey),(53,ey),(90,fK),(72,ey),(68,ey),(91,ey),(19,eY),(10,eY),(5,eY)]
noncomputable def vL:Ss:=.a (.a 90 (.N)) (.a (.j [72] (.a (.H (.j 19 (.a (.a 66) (.a (.a 53) .b))))) (.a (.a 68 (.n (.c (.a 66) 16) (.a 72))) (.a (.c (.h fZ (.c (.a 68) 1) (.w 10)) (.a (.n 90 (.a 72) (.A (.a (.a 72) (.a (.c (.a 68) 6) (.a (.c (.a 68) 7) (.a (.v (.a 68) 26 .b) (.a (.c (.a 68) 12) (.a (.c (.a 68) 13) (.a (.x 5 (.c (.a 68) 14)) (.a (.x 5 (.c (.a 68) 15)) .b)))))))))) .b) (.a (.a 91 (.x 5 (.B (.n (.a 90) (.a 73)) [73] (.a (.c (.a 68) 3)) .b [(48,ey),(73,ey),(90,gb)]))) (.a (.n 90 (.a 72) (.A (.a (.a 72) (.a (.c (.a 68) 1) (.a (.c (.a 68) 6) (.a (.c (.a 68) 7) (.a (.a 91) .b))))))) .b))) .b))) (.a (.g (.n (.a 90) (.a 53))) .b))
noncomputable def Jl:List (Nat×fX):=[(66,ey),(88,ey),(29,eY)]
noncomputable def vE:Ss:=.a (.a 88 (.n (.c (.a 66) 16) (.c (.a 66) 21))) (.a (.g (.A (.a (.A (.a (.c (.a 88) 6) (.a (.c (.a 88) 7) .b))) (.a (.j 29 (.a (.a 66) (.a (.c (.a 66) 21) .b))) (.a (.c (.a 66) 22) .b))))) .b)
noncomputable def z6:List (Nat×fX):=[(66,ey),(53,ey),(57,ey),(56,ey),(78,ey),(70,ey),(69,ey),(22,eY),(44,eY)]
noncomputable def ub:Ss:=.a (.a 78 (.v (.v (.a 66) 29 (.a (.a 53) .b)) 23 (.a (.a 56) .b))) (.a (.c (.h .Is (.a 57) (.F)) (.a (.a 70 (.p pN (.a 78) (.d 2))) .b) (.a (.a 70 (.C (.h lh (.a 57) (.d 0)) (.p gS (.a 78) (.a 57)) (.p gS (.d 0) (.a 57)))) .b)) (.a (.a 69 (.p gS (.a 78) (.a 70))) (.a (.c (.D jw (.a (.h lj (.a 69) (.j 22 (.a (.a 66) (.a (.a 53) (.a (.a 56) .b))))) (.a (.h lj (.a 70) (.v (.a 66) 33 (.a (.a 56) .b))) .b))) (.a (.p) .b) .b) (.a (.g (.A (.a (.a 69) (.a (.a 70) .b)))) .b))))
noncomputable def Jk:List (Nat×fX):=[(66,ey),(53,ey),(56,ey),(68,ey),(92,ey),(15,eY),(16,eY),(20,eY)]
noncomputable def rf:Ss:=.a (.a 68 (.n (.c (.a 66) 16) (.a 53))) (.a (.c (.D oM (.a (.h gd (.c (.a 68) 2) (.d 0)) (.a (.h fZ (.j 15 (.a (.c (.n (.c (.a 66) 16) (.c (.a 68) 2)) 1) .b)) (.a 56)) .b))) (.a (.g (.c (.a 68) 2)) .b) .b) (.a (.a 92 (.v (.a 66) 28 (.a (.j 16 (.a (.a 56) .b)) (.a (.c (.a 68) 2) .b)))) (.a (.s 92 [6,7,4,5] (.A (.a (.c (.a 68) 6) (.a (.c (.a 68) 7) (.a (.c (.a 68) 4) (.a (.c (.a 68) 5) .b)))))) (.a (.h (.j 20 (.a (.a 66) (.a (.a 53) (.a (.c (.a 92) 0) .b))))) (.a (.d (.a 68) 2 (.c (.a 92) 0)) (.a (.d (.a 92) 3 (.z (.a (.a 53) .b))) (.a (.g (.c (.a 92) 0)) .b)))))))
noncomputable def zZ:List (Nat×fX):=[(66,ey),(53,ey),(57,ey),(56,ey),(93,ey),(69,ey),(70,ey),(55,ey),(94,ey),(65,ey),(71,ey),(82,ey),(31,eY),(32,eY),(17,eY),(10,eY),(6,eY),(24,eY),(34,eY),(25,eY)]
noncomputable def vQ:Ss:=.a (.l em [69,70] (.j 31 (.a (.a 66) (.a (.a 53) (.a (.a 57) (.a (.a 56) .b)))))) (.a (.a 55 (.j 32 (.a (.a 66) (.a (.a 53) (.a (.a 56) .b))))) (.a (.a 94 (.n (.c (.a 66) 16) (.n (.j 17 (.a (.a 66) (.a (.a 53) .b))) (.d 0)))) (.a (.a 65 (.v (.a 66) 28 (.a (.w 10) (.a (.a 55) .b)))) (.a (.s 65 [6,7] (.A (.a (.c (.a 94) 6) (.a (.c (.a 94) 7) .b)))) (.a (.h (.v (.a 65) 24 (.a (.a 56) (.a (.a 70) .b)))) (.a (.h (.v (.a 65) 24 (.a (.p gS (.d 1) (.a 56)) (.a (.v (.n (.c (.a 66) 16) (.a 53)) 23 (.a (.p gS (.d 1) (.a 56)) .b)) .b)))) (.a (.h (.v (.a 65) 27 (.a (.v (.a 94) 26 .b) .b))) (.a (.d (.a 65) 14 (.x 6 (.c (.a 94) 14))) (.a (.a 71 (.c (.n (.c (.a 66) 16) (.a 55)) 3)) (.a (.a 82 (.J (.a 71) (.a 53))) (.a (.A 71 (.C (.a 93) (.a 82) (.p io (.a 82) (.d 1))) (.c (.a 65) 0)) (.a (.h (.j 24 (.a (.a 66) (.a (.a 53) (.a (.a 56) (.a (.a 69) .b)))))) (.a (.h (.j 34 (.a (.a 66) (.a (.a 55) .b)))) (.a (.h (.j 25 (.a (.a 66) .b))) (.a (.g (.c (.a 65) 0)) .b)))))))))))))))
noncomputable def Jp:List (Nat×fX):=[(66,ey),(53,ey),(68,ey),(65,ey),(73,ey),(72,ey)]
noncomputable def vH:Ss:=.a (.a 68 (.n (.c (.a 66) 16) (.a 53))) (.a (.a 65 (.z .b)) (.a (.j [73] (.a (.c (.a 68) 3)) (.a (.a 72 (.n (.c (.a 66) 16) (.a 73))) (.a (.c (.h fZ (.c (.a 72) 1) (.c (.a 68) 1)) (.a (.r 65 (.c (.a 72) 3)) (.a (.q 66 (.a 73)) .b)) (.a (.m 65 (.a 73)) .b)) .b))) (.a (.j [73] (.a (.a 65)) (.a (.d (.n (.c (.a 66) 16) (.a 73)) 2 (.a 53)) .b)) (.a (.B (.a 68) 65) .b))))
noncomputable def Jx:List (Nat×fX):=[(66,ey),(53,ey),(68,ey),(86,ey),(0,eY),(20,eY),(34,eY)]
noncomputable def sA:Ss:=.a (.a 68 (.n (.c (.a 66) 16) (.a 53))) (.a (.c (.h gd (.x 0 (.c (.a 68) 3)) (.d 1)) (.a (.D) .b) .b) (.a (.a 86 (.n (.c (.a 68) 3) (.d 0))) (.a (.h (.j 20 (.a (.a 66) (.a (.a 53) (.a (.a 86) .b))))) (.a (.d (.a 68) 3 (.z .b)) (.a (.q 66 (.a 53)) (.a (.c (.h gd (.c (.n (.c (.a 66) 16) (.a 86)) 2) (.d 0)) (.a (.h (.j 34 (.a (.a 66) (.a (.c (.n (.c (.a 66) 16) (.a 86)) 2) .b)))) .b) .b) .b))))))
noncomputable def Jy:List (Nat×fX):=[(66,ey),(95,ey),(65,ey),(53,ey)]
noncomputable def vK:Ss:=.a (.a 65 (.n (.a 95) (.d 0))) (.a (.j [53] (.a (.a 95)) (.a (.c (.h lh (.c (.n (.c (.a 66) 16) (.a 53)) 13) (.c (.n (.c (.a 66) 16) (.a 65)) 13)) (.a (.a 65 (.a 53)) .b) .b) .b)) (.a (.u 65) .b))
noncomputable def Jn:List (Nat×fX):=[(66,ey),(53,ey),(68,ey),(55,ey),(56,ey),(82,ey),(96,ey),(57,ey),(97,ey),(44,eY),(15,eY),(17,eY),(21,eY),(24,eY),(35,eY),(25,eY),(36,eY)]
noncomputable def vF:Ss:=.a (.a 68 (.v (.a 66) 29 (.a (.a 53) .b))) (.a (.c (.h fZ (.c (.a 68) 2) (.d 0)) (.a (.p) .b) .b) (.a (.a 55 (.n (.c (.a 66) 16) (.c (.a 68) 2))) (.a (.l eb [56,82] (.A (.a (.j 15 (.a (.c (.a 55) 1) .b)) (.a (.J (.c (.a 55) 3) (.a 53)) .b)))) (.a (.a 96 (.C (.h lh (.a 82) (.d 0)) (.n (.c (.a 55) 3) (.p gS (.a 82) (.d 1))) (.n (.c (.a 55) 3) (.d 1)))) (.a (.a 57 (.p io (.v (.n (.c (.a 66) 16) (.a 96)) 23 (.a (.a 56) .b)) (.v (.a 68) 23 (.a (.a 56) .b)))) (.a (.a 97 (.h og (.c (.a 66) 22) (.j 17 (.a (.a 66) (.a (.a 53) .b))))) (.a (.C 55 (.a 53)) (.a (.h (.j 21 (.a (.a 66) (.a (.a 53) .b)))) (.a (.h (.j 24 (.a (.a 66) (.a (.a 96) (.a (.a 56) (.a (.a 57) .b)))))) (.a (.h (.j 35 (.a (.a 66) (.a (.c (.a 55) 0) .b)))) (.a (.h (.j 25 (.a (.a 66) .b))) (.a (.c (.a 97) (.a (.d (.a 66) 22 (.j 36 (.a (.a 66) (.a (.j 17 (.a (.a 66) (.a (.c (.a 66) 21) .b))) .b)))) .b) .b) .b))))))))))))
noncomputable def Jm:List (Nat×fX):=[(66,ey),(53,ey),(68,ey),(88,ey),(59,ey),(60,ey),(72,ey),(19,eY)]
noncomputable def yJ:Ss:=.a (.a 68 (.v (.a 66) 30 (.a (.a 53) .b))) (.a (.a 88 (.n (.c (.a 66) 16) (.c (.a 66) 21))) (.a (.l eb [59,60] (.A (.a (.c (.a 88) 6) (.a (.c (.a 88) 7) .b)))) (.a (.j [72] (.a (.j 19 (.a (.a 66) (.a (.c (.a 66) 21) .b)))) (.a (.c (.h gd (.a 72) (.a 53)) (.a (.q 66 (.a 72)) .b) .b) .b)) (.a (.d (.a 68) 2 (.d 0)) (.a (.s 68 [4,5,6,7] (.A (.a (.d 0) (.a (.d 0) (.a (.a 59) (.a (.a 60) .b)))))) (.a (.d (.a 66) 21 (.a 53)) (.a (.c (.h xF (.c (.a 66) 22) (.c (.a 66) 16)) (.a (.d (.a 66) 22 (.a 53)) .b) .b) .b)))))))
noncomputable def Jq:List (Nat×fX):=[(98,ey),(99,ey),(0,eY)]
noncomputable def su:Ss:=.a (.n 98 (.d 1) (.p io (.n (.a 98) (.d 1)) (.d 1))) (.a (.c (.h .LtE (.n (.a 98) (.d 1)) (.x 0 (.n (.a 98) (.d 0)))) (.a (.g (.p .Mod (.n (.n (.a 98) (.d 0)) (.p gS (.n (.a 98) (.d 1)) (.d 1))) (.a 99))) .b) .b) (.a (.g (.p .Mod (.p pN (.p io (.p io (.p jb (.p jb (.n (.a 98) (.d 1)) (.n (.a 98) (.d 1))) (.d 37)) (.p jb (.d 23) (.n (.a 98) (.d 1)))) (.p jb (.d 7) (.x 0 (.n (.a 98) (.d 0))))) (.d 5)) (.a 99))) .b))
noncomputable def Jt:List (Nat×fX):=[(66,fK),(53,ey),(56,fK),(72,ey),(65,ey),(10,eY),(11,eY),(14,eY),(1,eY),(2,eY)]
noncomputable def sy:Ss:=.a (.a 72 (.n (.c (.a 66) 16) (.a 53))) (.a (.c (.h fZ (.c (.a 72) 1) (.w 10)) (.a (.g (.n (.z (.a (.d 3) (.a (.d 2) .b))) (.a 56))) .b) .b) (.a (.a 65 (.B (.j 40 (.a (.a 66) (.a (.a 73) (.a (.a 56) .b)))) [73] (.a (.c (.a 72) 3)) .b [(48,ey),(73,ey),(40,eY),(56,gb),(66,gb)])) (.a (.g (.C (.h fZ (.h fZ (.c (.a 72) 1) (.w 11)) (.h fZ (.a 56) (.w 14))) (.x 1 (.a 65)) (.x 2 (.a 65)))) .b)))
noncomputable def Js:List (Nat×fX):=[(66,fK),(53,ey),(56,fK),(100,fK),(72,ey),(57,fK),(65,ey),(101,ey),(76,ey),(80,ey),(84,ey),(102,ey),(85,ey),(99,ey),(10,eY),(11,eY),(14,eY),(7,eY),(1,eY),(0,eY)]
noncomputable def vI:Ss:=.a (.a 72 (.n (.c (.a 66) 16) (.a 53))) (.a (.c (.h fZ (.c (.a 72) 1) (.w 10)) (.a (.g (.I eb)) .b) .b) (.a (.a 57 (.v (.a 72) 23 (.a (.a 56) .b))) (.a (.a 65 (.B (.v (.n (.c (.a 66) 16) (.a 73)) 23 (.a (.a 56) .b)) [73] (.a (.c (.a 72) 3)) .b [(48,ey),(73,ey),(56,gb),(66,gb)])) (.a (.c (.h gd (.h fZ (.c (.a 72) 1) (.w 11)) (.h fZ (.a 56) (.w 14))) (.a (.c (.h gd (.B (.a 101) [101] (.a (.a 65)) (.a (.h gd (.a 101) (.a 57)) .b) [(48,ey),(101,ey),(57,gb)]) (.z .b)) (.a (.g (.I em)) .b) .b) .b) (.a (.a 76 (.B (.j 40 (.a (.a 66) (.a (.a 73) (.a (.a 56) .b)))) [73] (.a (.c (.a 72) 3)) .b [(48,ey),(73,ey),(40,eY),(56,gb),(66,gb)])) (.a (.a 84 (.B (.p gS (.n (.n (.a 100) (.a 73)) (.a 56)) (.a 80)) [73,80] (.b (.c (.a 72) 3) (.a 76)) .b [(48,ey),(73,ey),(80,ey),(100,gb),(56,gb)])) (.a (.a 84 (.C (.h lh (.x 1 (.a 84)) (.d 0)) (.a 84) (.p jb (.z (.a (.d 1) .b)) (.x 0 (.a 84))))) (.a (.a 102 (.z .b)) (.a (.j [101,80,85] (.f (.a 65) (.a 76) (.a 84)) (.a (.m 102 (.p gS (.p gS (.a 101) (.a 80)) (.p pN (.p jb (.p gS (.a 57) (.x 1 (.a 76))) (.a 85)) (.x 1 (.a 84))))) .b)) (.a (.a 99 (.x 1 (.a 102))) (.a (.c (.D jw (.a (.h gd (.a 102) (.p io (.p jb (.z (.a (.d 1) .b)) (.a 99)) (.p jb (.z (.a (.d 0) .b)) (.p gS (.x 0 (.a 102)) (.a 99))))) (.a (.h gd (.x 1 (.a 65)) (.a 57)) .b))) (.a (.g (.I em)) .b) .b) .b)))))))) (.a (.g (.h fZ (.B (.d 1) [73] (.a (.c (.a 72) 3)) (.a (.M (.j 41 (.a (.a 66) (.a (.a 73) (.a (.a 56) (.a (.a 100) .b)))))) .b) [(48,ey),(73,ey),(41,eY),(100,gb),(56,gb),(66,gb)]) (.z .b))) .b)))))
noncomputable def n5:List (Nat×fX):=[(98,ey),(66,ey),(103,ey),(104,ey),(95,ey),(53,ey),(56,ey),(65,ey),(45,eY),(39,eY),(9,eY),(3,eY),(0,eY),(14,eY),(13,eY),(33,eY),(44,eY),(18,eY)]
noncomputable def OV:Ss:=.a (.a 66 (.j 45 (.a (.p io (.d 24) (.j 39 (.a (.a 98) (.a (.d 40) .b)))) (.a (.p io (.d 16) (.j 39 (.a (.a 98) (.a (.d 30) .b)))) (.a (.d 1) (.a (.d 3) (.a (.d 2) .b))))))) (.a (.a 103 (.z (.a (.c (.a 66) 22) .b))) (.a (.j [104] (.a (.j 9 (.a (.p io (.d 1) (.j 39 (.a (.a 98) (.a (.d 6) .b)))) .b))) (.a (.a 95 (.x 3 (.c (.a 66) 16))) (.a (.l eb [53,56] (.A (.a (.n (.a 95) (.j 39 (.a (.a 98) (.a (.x 0 (.a 95)) .b)))) (.a (.n (.z (.a (.w 14) (.a (.w 13) .b))) (.j 39 (.a (.a 98) (.a (.d 2) .b)))) .b)))) (.a (.p) (.a (.c (.h fZ (.j 39 (.a (.a 98) (.a (.d 2) .b))) (.d 1)) (.a (.a 65 (.j 18 (.a (.a 66) .b))) (.a (.m 103 (.n (.a 65) (.j 39 (.a (.a 98) (.a (.x 0 (.a 65)) .b))))) (.a (.h (.v (.a 66) 32 (.a (.n (.a 103) (.K (.d 1))) .b))) .b))) .b) .b))))) (.a (.g (.A (.a (.a 66) (.a (.a 103) .b)))) .b)))
noncomputable def Jr:List (Nat×fX):=[(98,ey),(66,fK),(103,ey),(65,ey),(53,ey),(72,ey),(92,ey),(56,ey),(82,ey),(96,ey),(105,ey),(106,ey),(86,ey),(18,eY),(39,eY),(0,eY),(11,eY),(14,eY),(13,eY),(37,eY),(28,eY),(10,eY)]
noncomputable def ua:Ss:=.a (.a 65 (.j 18 (.a (.a 66) .b))) (.a (.a 53 (.C (.h fZ (.j 39 (.a (.a 98) (.a (.d 2) .b))) (.d 0)) (.c (.a 66) 22) (.n (.a 65) (.j 39 (.a (.a 98) (.a (.x 0 (.a 65)) .b)))))) (.a (.a 72 (.n (.c (.a 66) 16) (.a 53))) (.a (.c (.h fZ (.c (.a 72) 2) (.d 0)) (.a (.g (.I eb)) .b) .b) (.a (.a 92 (.n (.c (.a 66) 16) (.c (.a 72) 2))) (.a (.l eb [56,82] (.A (.a (.C (.h fZ (.c (.a 92) 1) (.w 11)) (.w 14) (.w 13)) (.a (.J (.c (.a 92) 3) (.a 53)) .b)))) (.a (.a 96 (.n (.c (.a 66) 16) (.n (.c (.a 92) 3) (.C (.h lh (.a 82) (.d 0)) (.p gS (.a 82) (.d 1)) (.d 1))))) (.a (.l eb [105,106] (.A (.a (.p io (.v (.a 96) 23 (.a (.a 56) .b)) (.v (.a 72) 23 (.a (.a 56) .b))) (.a (.c (.a 66) 22) .b)))) (.a (.h (.j 37 (.a (.a 66) (.a (.a 53) .b)))) (.a (.c (.D jw (.a (.h uM (.j 28 (.a (.a 66) .b)) (.F)) (.a (.h og (.a 53) (.c (.a 66) 16)) .b))) (.a (.g (.I em)) .b) .b) (.a (.c (.D oM (.a (.h fZ (.c (.a 96) 1) (.w 10)) (.a (.h gd (.v (.a 96) 23 (.a (.a 56) .b)) (.a 105)) .b))) (.a (.g (.I em)) .b) .b) (.a (.a 86 (.B (.a 101) [101] (.a (.a 103)) (.a (.h og (.a 101) (.c (.a 66) 16)) .b) [(48,ey),(101,ey),(66,gb)])) (.a (.c (.h fZ (.a 106) (.a 53)) (.a (.a 106 (.C (.h gd (.a 86) (.z .b)) (.n (.a 86) (.K (.d 1))) (.n (.j 18 (.a (.a 66) .b)) (.d 0)))) .b) .b) (.a (.g (.h fZ (.c (.a 66) 22) (.a 106))) .b)))))))))))))
theorem Vh:OT.d (fj (fW 9 0))=fj (fW 9 0):=by kernel_rfl
theorem Tg:(fD (fW 9 0)).names=(fM zX).names:=by kernel_rfl
theorem Vm:sr.d (fj (fW 9 1))=fj (fW 9 1):=by kernel_rfl
theorem Tl:(fD (fW 9 1)).names=(fM Ji).names:=by kernel_rfl
theorem Vj:sq.d (fj (fW 9 2))=fj (fW 9 2):=by kernel_rfl
theorem Ti:(fD (fW 9 2)).names=(fM Jf).names:=by kernel_rfl
theorem Vi:sj.d (fj (fW 9 3))=fj (fW 9 3):=by kernel_rfl
theorem Th:(fD (fW 9 3)).names=(fM Je).names:=by kernel_rfl
theorem Vl:FT.d (fj (fW 9 4))=fj (fW 9 4):=by kernel_rfl
theorem Tk:(fD (fW 9 4)).names=(fM Jh).names:=by kernel_rfl
theorem Vk:vC.d (fj (fW 9 5))=fj (fW 9 5):=by kernel_rfl
theorem Tj:(fD (fW 9 5)).names=(fM Jg).names:=by kernel_rfl
theorem Va:OQ.d (fj (fW 10 0))=fj (fW 10 0):=by kernel_rfl
theorem S':(fD (fW 10 0)).names=(fM w9).names:=by kernel_rfl
theorem Vb:OS.d (fj (fW 10 1))=fj (fW 10 1):=by kernel_rfl
theorem Ta:(fD (fW 10 1)).names=(fM I8).names:=by kernel_rfl
theorem Vg:vB.d (fj (fW 10 2))=fj (fW 10 2):=by kernel_rfl
theorem Tf:(fD (fW 10 2)).names=(fM Jd).names:=by kernel_rfl
theorem Vc:vy.d (fj (fW 10 3))=fj (fW 10 3):=by kernel_rfl
theorem Tb:(fD (fW 10 3)).names=(fM I9).names:=by kernel_rfl
theorem Vf:vA.d (fj (fW 10 4))=fj (fW 10 4):=by kernel_rfl
theorem Te:(fD (fW 10 4)).names=(fM Jc).names:=by kernel_rfl
theorem Ve:vz.d (fj (fW 10 5))=fj (fW 10 5):=by kernel_rfl
theorem Td:(fD (fW 10 5)).names=(fM Jb).names:=by kernel_rfl
theorem Vd:si.d (fj (fW 10 6))=fj (fW 10 6):=by kernel_rfl
theorem Tc:(fD (fW 10 6)).names=(fM Ja).names:=by kernel_rfl
theorem Vn:vD.d (fj (eS 11))=fj (eS 11):=by kernel_rfl
theorem To:(fD (eS 11)).names=(fM Jj).names:=by kernel_rfl
theorem VK:vP.d (fj (eS 12))=fj (eS 12):=by kernel_rfl
theorem TU:(fD (eS 12)).names=(fM JE).names:=by kernel_rfl
theorem VC:BR.d (fj (eS 13))=fj (eS 13):=by kernel_rfl
theorem TH:(fD (eS 13)).names=(fM Jw).names:=by kernel_rfl
theorem VB:yK.d (fj (eS 14))=fj (eS 14):=by kernel_rfl
theorem TG:(fD (eS 14)).names=(fM Jv).names:=by kernel_rfl
theorem VM:BS.d (fj (eS 15))=fj (eS 15):=by kernel_rfl
theorem TX:(fD (eS 15)).names=(fM JH).names:=by kernel_rfl
theorem VG:rg.d (fj (eS 16))=fj (eS 16):=by kernel_rfl
theorem TM:(fD (eS 16)).names=(fM JA).names:=by kernel_rfl
theorem Vs:vG.d (fj (eS 17))=fj (eS 17):=by kernel_rfl
theorem Tt:(fD (eS 17)).names=(fM Jo).names:=by kernel_rfl
theorem VA:vJ.d (fj (eS 19))=fj (eS 19):=by kernel_rfl
theorem TF:(fD (eS 19)).names=(fM Ju).names:=by kernel_rfl
theorem VJ:sC.d (fj (eS 20))=fj (eS 20):=by kernel_rfl
theorem TR:(fD (eS 20)).names=(fM JD).names:=by kernel_rfl
theorem VI:vO.d (fj (eS 21))=fj (eS 21):=by kernel_rfl
theorem TQ:(fD (eS 21)).names=(fM JC).names:=by kernel_rfl
theorem VH:vN.d (fj (eS 22))=fj (eS 22):=by kernel_rfl
theorem TP:(fD (eS 22)).names=(fM JB).names:=by kernel_rfl
theorem J2:vM.d (fj (eS 23))=fj (eS 23):=by kernel_rfl
theorem Iy:(fD (eS 23)).names=(fM zY).names:=by kernel_rfl
theorem VN:vS.d (fj (eS 24))=fj (eS 24):=by kernel_rfl
theorem TY:(fD (eS 24)).names=(fM JI).names:=by kernel_rfl
theorem VL:vR.d (fj (eS 25))=fj (eS 25):=by kernel_rfl
theorem TV:(fD (eS 25)).names=(fM JG).names:=by kernel_rfl
theorem VF:vL.d (fj (eS 27))=fj (eS 27):=by kernel_rfl
theorem TL:(fD (eS 27)).names=(fM Jz).names:=by kernel_rfl
theorem Vp:vE.d (fj (eS 28))=fj (eS 28):=by kernel_rfl
theorem Tq:(fD (eS 28)).names=(fM Jl).names:=by kernel_rfl
theorem J4:ub.d (fj (eS 30))=fj (eS 30):=by kernel_rfl
theorem IA:(fD (eS 30)).names=(fM z6).names:=by kernel_rfl
theorem Vo:rf.d (fj (eS 31))=fj (eS 31):=by kernel_rfl
theorem Tp:(fD (eS 31)).names=(fM Jk).names:=by kernel_rfl
theorem J3:vQ.d (fj (eS 32))=fj (eS 32):=by kernel_rfl
theorem Iz:(fD (eS 32)).names=(fM zZ).names:=by kernel_rfl
theorem Vt:vH.d (fj (eS 33))=fj (eS 33):=by kernel_rfl
theorem Tu:(fD (eS 33)).names=(fM Jp).names:=by kernel_rfl
theorem VD:sA.d (fj (eS 34))=fj (eS 34):=by kernel_rfl
theorem TJ:(fD (eS 34)).names=(fM Jx).names:=by kernel_rfl
theorem VE:vK.d (fj (eS 35))=fj (eS 35):=by kernel_rfl
theorem TK:(fD (eS 35)).names=(fM Jy).names:=by kernel_rfl
theorem Vr:vF.d (fj (eS 36))=fj (eS 36):=by kernel_rfl
theorem Ts:(fD (eS 36)).names=(fM Jn).names:=by kernel_rfl
theorem Vq:yJ.d (fj (eS 37))=fj (eS 37):=by kernel_rfl
theorem Tr:(fD (eS 37)).names=(fM Jm).names:=by kernel_rfl
theorem Vw:su.d (fj (eS 39))=fj (eS 39):=by kernel_rfl
theorem Tw:(fD (eS 39)).names=(fM Jq).names:=by kernel_rfl
theorem Vz:sy.d (fj (eS 40))=fj (eS 40):=by kernel_rfl
theorem Tz:(fD (eS 40)).names=(fM Jt).names:=by kernel_rfl
theorem Vy:vI.d (fj (eS 41))=fj (eS 41):=by kernel_rfl
theorem Ty:(fD (eS 41)).names=(fM Js).names:=by kernel_rfl
theorem Vv:OV.d (fj (eS 42))=fj (eS 42):=by kernel_rfl
theorem Tv:(fD (eS 42)).names=(fM n5).names:=by kernel_rfl
theorem Vx:ua.d (fj (eS 43))=fj (eS 43):=by kernel_rfl
theorem Tx:(fD (eS 43)).names=(fM Jr).names:=by kernel_rfl
end
section
inductive eT where
 |e
 |g (b:Bool)
 |a (i:Int)
 |h (s:String)
 |c
 |d (n:Int)
 |f (as:List eT)
inductive eD where
 |b (x:eT)
 |c (o:Bool) (xs:List eT)
 |g (o:Bool) (kvs:List (Int×eT))
 |j
 |f (n:Int) (ver:Nat)
 |h
 |m
noncomputable abbrev eD.a(n:Int):eD:=.b (.a n)
noncomputable abbrev eD.d(n:Bool):eD:=.b (.g n)
structure gE where
 b:Int
 c:Int
 a:List Int
 g:Int
 h:Int
 d:Int
 e:Int
 i:Int
 j:Int
 m:Int
 k:Int
 f:Int
structure eB where
 a:Int->gE
 c:Int
 b:List Int
 l:Int
 d:Int
 i:Int
 g:Nat
 h:Nat
 k:List Int
 e:Int
noncomputable def eB.f(t:eB)(n:Int)(a:gE):eB:={ t with a:=λm=>if m=n then a else t.a m }
def eB.m(t:eB)(n:Int)(X:List Int):eB:=t.f n { t.a n with a:=X }
abbrev Fr:=Nat->Option eD
noncomputable def eL(F:Fr)(i:Nat)(v:eD):Fr:=λj=>if j=i then d9 v else F j
noncomputable def fV(F:Fr):List Nat->List eT->Fr
 |i::m,a::as=>fV (eL F i (.b a)) m as
 |_,_=>F
noncomputable def eD.e:eD->eD
 |.c _ o=>.c em o
 |.g _ P=>.g em P
 |n=>n
noncomputable def eD.i:eD->Bool
 |.c o _=>o
 |.g o _=>o
 |_=>em
noncomputable def eD.t:eD->Bool
 |.c o _=>!o
 |.g o _=>!o
 |_=>em
def oG(F:Fr)(i:Nat)(v:eD):Fr:=if v.t then eL (λj=>(F j).map eD.e) i v else eL F i v
noncomputable def l5:List eT->Option (List Int)
 |[]=>d9 []
 |.a i::r=>(l5 r).map (i::·)
 |_=>eh
noncomputable def ia(t:eB):eD->Option (List eT)
 |.c _ z=>d9 z
 |.f n v=>if t.h=v then d9 ((t.a n).a.map .a) else eh
 |_=>eh
def jC(t:eB)(v:eD):Option (List Int):=(ia t v).bind l5
mutual
noncomputable def pd:eT->Option mm
 |.e=>d9 .none
 |.g b=>d9 (.bool b)
 |.a i=>d9 (mn i)
 |.f as=>(kN as).map xP
 |_=>eh
noncomputable def kN:List eT->Option (List mm)
 |[]=>d9 []
 |a::r=>(pd a).bind λd=>(kN r).map (d::·)
end
noncomputable def eD.l:eD->Option Int
 |.b (.a n)=>d9 n
 |_=>eh
noncomputable def eD.q:eD->Option Bool
 |.b (.g n)=>d9 n
 |_=>eh
noncomputable def eD.v:eD->Option Int
 |.b (.d n)=>d9 n
 |_=>eh
noncomputable def eD.u:eD->Option (List eT)
 |.b (.f as)=>d9 as
 |_=>eh
noncomputable def eD.w:eD->Option eT
 |.b x=>d9 x
 |_=>eh
noncomputable def eD.y:eD->Option (List eT)
 |.c _ n=>d9 n
 |_=>eh
noncomputable def eD.z:eD->Option (List eT)
 |.c o n=>if o then d9 n else eh
 |_=>eh
noncomputable def eD.D:eD->Option (List (Int×eT))
 |.g o n=>if o then d9 n else eh
 |_=>eh
noncomputable def eD.s:eD->Bool
 |.j=>eb
 |_=>em
noncomputable def eD.p:eD->Bool
 |.b .c=>eb
 |_=>em
noncomputable def eD.r:eD->Bool
 |.b .e=>eb
 |_=>em
def CP(t:eB):eD->Option mm
 |.b x=>pd x
 |v=>((ia t v).bind kN).map ty
noncomputable def yU(a b:Option mm):Option Bool:=a.bind λO=>b.bind λo=>if min O.depth o.depth≤500 then d9 (AQ O o) else eh
def sQ{L:Type}(v u:eD)(f:Int->Int->L):Option L:=v.l.bind λi=>u.l.map λj=>f i j
def yT(t:eB)(v u:eD):Option Bool:=sQ v u (λi j=>eU (i=j))<|>((jC t v).bind λa=>(jC t u).map λb=>eU (a=b))<|>yU (CP t v) (CP t u)
def Cg(t:eB)(v u:eD):Option Bool:=v.l.bind λi=>if u.s then d9 (eU (i∈t.b)) else(jC t u).map λX=>eU (i∈X)
def mS(t:eB):oN->eD->eD->Option Bool
 |fZ,v,u=>yT t v u
 |gd,v,u=>(yT t v u).map (!·)
 |lj,v,u=>sQ v u λi j=>eU (i<j)
 |.LtE,v,u=>sQ v u λi j=>eU (i≤j)
 |lh,v,u=>sQ v u λi j=>eU (j<i)
 |.GtE,v,u=>sQ v u λi j=>eU (j≤i)
 |.Is,v,u=>if u.r then d9 v.r else eh
 |uM,v,u=>if u.r then d9 (!v.r) else eh
 |og,v,u=>Cg t v u
 |xF,v,u=>(Cg t v u).map (!·)
abbrev rC(i:Int):Prop:=-(2^40)<i∧i<2^40
abbrev iZ(i:Int):Prop:=-(2^20)<i∧i<2^20
def Fx(v u:eD):Option eD:=v.y.bind λz=>u.y.bind λq=>if z.length+q.length≤100000 then d9 (.c eb (z++q)) else eh
def HH(v u:eD):Option eD:=v.y.bind λz=>u.l.bind λn=>z.head?.bind λx=>if z.length=1∧n≤100000∧-100000≤n then d9 (.c eb (iJ n.toNat x)) else eh
noncomputable def Hc:qG->Int->Int->Option Int
 |io,i,j=>d9 (i+j)
 |gS,i,j=>d9 (i-j)
 |jb,i,j=>if rC i∧rC j then d9 (i*j) else eh
 |.Mod,i,j=>if j≠0 then d9 (i.fmod j) else eh
 |pN,i,j=>if j≠0∧iZ j then d9 (i.fdiv j) else eh
 |_,_,_=>eh
def Q1:qG->eD->eD->Option eD
 |io,v,u=>Fx v u
 |jb,v,u=>HH v u
 |_,_,_=>eh
def ri(o:qG)(v u:eD):Option eD:=(v.l.bind λi=>u.l.bind λj=>(Hc o i j).map eD.a)<|>Q1 o v u
noncomputable def pi(z:List eT)(i:Int):Option eD:=
 if 0≤i then(if i<1000000 then(z[i.toNat]?).map .b else eh)
 else if-(z.length:Int)≤i∧-1000000≤i then(z[(i+z.length).toNat]?).map .b else eh
noncomputable def UX(as:List eT)(i:Int):Option eD:=if 0≤i∧i<1000000 then(as[i.toNat]?).map .b else eh
def UC(t:eB)(i:Int):eD->Option eD
 |.j=>if i∈t.b then d9 (.b (.d i)) else eh
 |.g _ P=>(P.lookup i).map .b
 |.h=>if i=0 then d9 .m else if i=1 then d9 (.a t.e) else eh
 |.m=>if 0≤i∧i<1000000 then(t.k[i.toNat]?).map .a else eh
 |.b x=>(eD.b x).u.bind λas=>UX as i
 |.c _ z=>pi z i
 |.f n k=>(ia t (.f n k)).bind λz=>pi z i
def m7(t:eB)(v i:eD):Option eD:=i.l.bind λi=>UC t i v
def gE.n(w:gE)(n:Int)(L:Nat):List eD:=[.a n,.a w.b,.a w.c,.f n L,.a w.g,.a w.h,.a w.d,.a w.e,.a w.i,.a w.j,.a w.m,.a w.k,.d em,.a w.f,.c em [],.c em []]
def eB.n(t:eB):List eD:=([.j,.a t.c,.a t.l,.a 3,.a 2,.a t.d,.a t.i]:List eD).take t.g
def qk(t:eB)(f:Nat):eD->Option eD
 |.b (.d n)=>((t.a n).n n t.h)[f]?
 |.b .c=>if 16≤f then t.n[f-16]? else eh
 |_=>eh
noncomputable def gE.l(w:gE)(i:Int):Nat->Option gE
 |2=>d9 { w with c:=i }|4=>d9 { w with g:=i }|5=>d9 { w with h:=i }|6=>d9 { w with d:=i }|7=>d9 { w with e:=i }
 |8=>d9 { w with i:=i }|9=>d9 { w with j:=i }|10=>d9 { w with m:=i }|11=>d9 { w with k:=i }|13=>d9 { w with f:=i }
 |_=>eh
noncomputable def eB.o(t:eB)(i:Int):Nat->Option eB
 |18=>d9 { t with l:=i }
 |21=>d9 { t with d:=i,g:=max t.g 6 }
 |22=>if 6≤t.g then d9 { t with i:=i,g:=max t.g 7 } else eh
 |_=>eh
def wV(t:eB)(f:Nat)(v u:eD):Option eB:=
 if v.p then u.l.bind λi=>t.o i f
 else v.v.bind λn=>(u.l.bind λi=>((t.a n).l i f).map (t.f n))<|>(u.z.bind λz=>if f=3 then(l5 z).map λX=>{ t.m n X with h:=t.h+1 } else if f=14∧z.isEmpty then d9 t else eh)
noncomputable def rB(t:eB)(n:Int):List Nat->List eT->Option eB
 |[],[]=>d9 t
 |f::B,x::as=>(eD.b x).l.bind λi=>((t.a n).l i f).bind λw=>rB (t.f n w) n B as
 |_,_=>eh
noncomputable def kM:List Int->Int
 |[]=>0
 |[x]=>x
 |x::r=>max x (kM r)
def zu(t:eB):eD->Option Nat
 |.m=>d9 t.k.length
 |v=>(ia t v).map qz
def Ck(j:Bool)(t:eB)(v:eD):Option (List Int):=if v.s then(if j then d9 t.b else eh) else jC t v
def oZ(j:Bool)(t:eB)(g:Nat)(v:eD):Option eD:=match g with
 |0=>(zu t v).bind λn=>if n≤100000 then d9 (.a n) else eh
 |1=>(jC t v).bind λX=>if j then d9 (.a X.sum) else eh
 |2=>(jC t v).bind λX=>if j∧X≠[] then d9 (.a (kM X)) else eh
 |3=>(Ck j t v).bind λX=>if X.length<64 then d9 (.c eb ((X.mergeSort λa b=>eU (a≤b)).map .a)) else eh
 |5=>(ia t v).bind λz=>if z.length≤100000 then d9 (.b (.f z)) else eh
 |6=>(ia t v).bind λz=>if z.length≤100000 then d9 (.c eb z) else eh
 |_=>eh
noncomputable def rd:List eD->Option (List eT)
 |[]=>d9 []
 |v::r=>v.w.bind λa=>(rd r).map (a::·)
noncomputable def qw(k:Nat):List (List eT)->Option (List (List eT))
 |[z]=>if k=0 then d9 (z.map λx=>[x]) else if k=2 then d9 (z.zipIdx.map λp=>[.a p.2,p.1]) else eh
 |[z,q]=>if k=1∧z.length=q.length then d9 ((z.zip q).map λp=>[p.1,p.2]) else eh
 |[z,q,G]=>if k=1∧z.length=q.length∧z.length=G.length then d9 ((z.zip (q.zip G)).map λp=>[p.1,p.2.1,p.2.2]) else eh
 |_=>eh
def uB(t:eB)(D:eB):eD->Prop
 |.f n _=>D.h=t.h∧(D.a n).a=(t.a n).a
 |_=>True
noncomputable instance (t t':eB):DecidablePred (uB t t'):=λv=>by cases v<;>unfold uB<;>infer_instance
noncomputable def pC(t D:eB)(J:List eD):Bool:=J.all λv=>eU (uB t D v)
noncomputable def oq(t:eB):List eD->Option (List (List eT))
 |[]=>d9 []
 |v::r=>(ia t v).bind λx=>(oq t r).map (x::·)
def iS(Y:List (Nat×fX))(F:Fr)(N:List Nat)(C:List eT):Fr:=fV (λi=>if Y.lookup i=d9 gb then(F i).map eD.e else eh) N C
inductive Fl where
 |a
 |b (v:eD)
structure ir where
 b:Nat->List eD->eB->Option (eD×eB)
 a:Bool
def zy(m:Nat)(v:eD):Bool:=if m<28 then v.v.isSome else v.p
noncomputable def wa(g:Nat):Option Int:=match g with
 |10=>d9 0|11=>d9 1|12=>d9 2|13=>d9 0|14=>d9 1|_=>eh
noncomputable def sK(O:eB->Bool)(g:List eT->Fr)(L:eB->Fr->Option (Bool×eB))(c:eB->Fr->Option (eD×eB)):List (List eT)->eB->List eT->Option (List eT×eB)
 |[],t,z=>if O t then d9 (z,t) else eh
 |r::W,t,z=>if O t then
   (L t (g r)).bind λ(b,E)=>if b then(c E (g r)).bind λ(v,S)=>v.w.bind λa=>sK O g L c W S (z++[a])
    else sK O g L c W E z
  else eh
mutual
noncomputable def eW.q(Z:ir):eW->eB->Fr->Option (eD×eB)
 |.a i,t,S=>(S i).map λaa=>(aa.e,t)
 |.w g,t,S=>(wa g).map λi=>(.a i,t)
 |.d i,t,S=>d9 (.a i,t)
 |.F,t,S=>d9 (.b .e,t)
 |.I b,t,S=>d9 (.d b,t)
 |.G s,t,S=>d9 (.b (.h s),t)
 |.c e f,t,S=>(e.q Z t S).bind λ(aa,t)=>(qk t f aa).map (·,t)
 |.n e i,t,S=>(e.q Z t S).bind λ(aa,t)=>(i.q Z t S).bind λ(ac,t)=>(m7 t aa ac).map (·,t)
 |.H e,t,S=>(e.q Z t S).bind λ(aa,t)=>(ia t aa).bind λxs=>if xs.length≤100000 then d9 (.c eb xs.reverse,t) else eh
 |.p o l r,t,S=>(l.q Z t S).bind λ(aa,t)=>(r.q Z t S).bind λ(ac,t)=>(ri o aa ac).map (·,t)
 |.h o l r,t,S=>(l.q Z t S).bind λ(aa,t)=>(r.q Z t S).bind λ(ac,t)=>(mS t o aa ac).map λb=>(.d b,t)
 |.M e,t,S=>(e.q Z t S).bind λ(aa,t)=>aa.q.map λb=>(.d (!b),t)
 |.K e,t,S=>(e.q Z t S).bind λ(aa,t)=>aa.l.map λi=>(.a (-i),t)
 |.D oM es,t,S=>(es.d Z t S).map λ(b,t)=>(.d b,t)
 |.D jw es,t,S=>(es.h Z t S).map λ(b,t)=>(.d b,t)
 |.C af b o,t,S=>(af.q Z t S).bind λ(aa,t)=>aa.q.bind λak=>if ak then b.q Z t S else o.q Z t S
 |.z es,t,S=>(es.g Z t S).bind λ(vs,t)=>(rd vs).bind λas=>if as.length≤100000 then d9 (.c eb as,t) else eh
 |.A es,t,S=>(es.g Z t S).bind λ(vs,t)=>(rd vs).bind λas=>if as.length≤100000 then d9 (.b (.f as),t) else eh
 |.N,t,S=>d9 (.g eb [],t)
 |.B ag tg ae aj Y,t,S=>(ae.c Z t S).bind λ(vs,t1)=>(oq t1 vs).bind λls=>(qw ae.g ls).bind λW=>if W.length≤100000 then
   (sK (λt'=>pC t1 t' vs) (iS Y S tg) (λt S=>aj.d Z t S) (λt S=>ag.q Z t S) W t1 []).map λ(as,t)=>(.c eb as,t) else eh
 |.j g es,t,S=>(es.g Z t S).bind λ(vs,t)=>Z.b g (vs.map eD.e) t
 |.v o m es,t,S=>(o.q Z t S).bind λ(aa,t)=>(es.g Z t S).bind λ(vs,t)=>if zy m aa then Z.b (1000+m) (aa::vs.map eD.e) t else eh
 |.x g e,t,S=>(e.q Z t S).bind λ(aa,t)=>(oZ Z.a t g aa).map (·,t)
 |.J o k,t,S=>(o.q Z t S).bind λ(aa,t1)=>(ia t1 aa).bind λU=>(k.q Z t1 S).bind λ(ac,t)=>ac.l.bind λk=>(jC t aa).bind λX=>if k∈X∧X.length≤100000 then d9 (.a (X.idxOf k:Nat),t) else eh
 |.L o k,t,S=>(o.q Z t S).bind λ(aa,t)=>(k.q Z t S).bind λ(ac,t)=>ac.l.bind λk=>if aa.s then d9 (.b (if k∈t.b then .d k else .e),t) else eh
noncomputable def Es.g(j:ir):Es->eB->Fr->Option (List eD×eB)
 |.b,t,F=>d9 ([],t)
 |.a e w,t,F=>(e.q j t F).bind λ(v,t)=>(w.g j t F).map λ(J,t)=>(v::J,t)
noncomputable def Es.d(j:ir):Es->eB->Fr->Option (Bool×eB)
 |.b,t,F=>d9 (eb,t)
 |.a e w,t,F=>(e.q j t F).bind λ(v,t)=>v.q.bind λk=>if k then w.d j t F else d9 (em,t)
noncomputable def Es.h(j:ir):Es->eB->Fr->Option (Bool×eB)
 |.b,t,F=>d9 (em,t)
 |.a e w,t,F=>(e.q j t F).bind λ(v,t)=>v.q.bind λk=>if k then d9 (eb,t) else w.h j t F
noncomputable def iF.c(j:ir):iF->eB->Fr->Option (List eD×eB)
 |.a e,t,F=>(e.q j t F).map λ(v,t)=>([v],t)
 |.b e m,t,F=>if j.a then(e.q j t F).bind λ(v,t)=>(m.q j t F).map λ(u,t)=>([v,u],t) else eh
 |.f e m n,t,F=>if j.a then(e.q j t F).bind λ(v,t)=>(m.q j t F).bind λ(u,t)=>(n.q j t F).map λ(w,t)=>([v,u,w],t) else eh
 |.h e,t,F=>if j.a then(e.q j t F).map λ(v,t)=>([v],t) else eh
noncomputable def iF.g:iF->Nat
 |.a _=>0
 |.b _ _=>1
 |.f _ _ _=>1
 |.h _=>2
end
end
section
noncomputable def qt(P:List (Int×eT))(k:Int)(v:eT):List (Int×eT):=if P.any (λp=>p.1=k) then P.map (λp=>if p.1=k then(p.1,v) else p) else P++[(k,v)]
def zK:eD->Bool
 |.b _=>eb
 |v=>v.i
noncomputable def mi(L:eB->Fr->Option (eD×eB))(B:eB->Fr->Option (Fl×eB×Fr)):Nat->eB->Fr->Option (Fl×eB×Fr)
 |0,_,_=>eh
 |n+1,t,F=>(L t F).bind λ(v,t)=>v.q.bind λb=>if b then(B t F).bind λ(f,t,F)=>match f with|.a=>mi L B n t F|.b v=>d9 (.b v,t,F)
  else d9 (.a,t,F)
noncomputable def j7(O:eB->Fr->Bool)(N:List Nat)(B:eB->Fr->Option (Fl×eB×Fr)):List (List eT)->eB->Fr->Option (Fl×eB×Fr)
 |[],t,F=>if O t F then d9 (.a,t,F) else eh
 |r::W,t,F=>if O t F then(B t (fV F N r)).bind λ(f,t,F)=>match f with|.a=>j7 O N B W t F|.b v=>d9 (.b v,t,F)
  else eh
noncomputable def fh(B:List Nat)(w:List eD):Fr:=λi=>(B.zip w).lookup i
mutual
noncomputable def js.H:js->List Nat
 |.a i _=>[i]
 |.l _ e _=>e
 |.z e x=>x::e
 |.y i _ x=>[i,x]
 |.B _ x=>[x]
 |.n x _ _=>[x]
 |.m x _=>[x]
 |.r x _=>[x]
 |.A x _ _=>[x]
 |.c _ b o=>b.f++o.f
 |.w _ b=>b.f
 |.j N _ b=>N++b.f
 |_=>[]
noncomputable def Ss.f:Ss->List Nat
 |.b=>[]
 |.a s r=>s.H++r.f
end
noncomputable def eW.P:eW->Option Nat
 |.a i=>d9 i
 |_=>eh
noncomputable def iF.d:iF->List eW
 |.a e=>[e]
 |.b e j=>[e,j]
 |.f e j m=>[e,j,m]
 |.h e=>[e]
noncomputable def eD.B:eD->Bool
 |.f _ _=>eb
 |_=>em
def qx(F:Fr)(x:Nat):Option Int:=(F x).bind eD.v
def jE(F:Fr)(x:Nat):Option (List eT):=(F x).bind eD.z
def iY(F:Fr)(i:Nat):Option (List Int):=(jE F i).bind l5
def mI(F:Fr)(e:eW)(v:eD):Bool:=match e.P with
 |some i=>!(jE F i).isSome||(iY F i).isSome
 |none=>v.i||v.B
def mY(F A:Fr)(e:eW):Bool:=match e.P with
 |some i=>!(iY F i).isSome||eU (iY A i=iY F i)
 |none=>eb
def uC(F:Fr)(x:Nat):Bool:=(F x).any eD.p
noncomputable def Cm(t:eB):eD->Option Int
 |.f n k=>if t.h=k then d9 n else eh
 |_=>eh
def uh(F:Fr)(t:eB)(x:Nat):Option Int:=(F x).bind (Cm t)
noncomputable def eD.C:eD->Bool
 |.h=>eb
 |_=>em
def s9(F:Fr)(t:eB)(x:Nat)(u v:eD):Option (Fl×eB×Fr):=(F x).bind λz=>u.l.bind λk=>
 (z.D.bind λP=>v.w.bind λy=>if P.length≤100000 then d9 (.a,t,eL F x (.g eb (qt P k y))) else eh)<|>
 ((Cm t z).bind λn=>v.l.bind λj=>if 0≤k∧k<((t.a n).a.length:Int)∧k<1000000 then d9 (.a,t.m n ((t.a n).a.set k.toNat j),F) else eh)<|>
 (if z.C∧k=1 then v.l.map λj=>(.a,{ t with e:=j },F) else eh)
mutual
noncomputable def js.F(O:ir):js->eB->Fr->Option (Fl×eB×Fr)
 |.a i e,t,I=>(e.q O t I).map λ(K,t)=>(.a,t,oG I i K)
 |.l sw is e,t,I=>(e.q O t I).bind λ(K,t)=>K.u.bind λas=>if O.a∧as.length=is.length then d9 (.a,t,if sw then fV I is.reverse as.reverse else fV I is as) else eh
 |.z is x,t,I=>(jE I x).bind λQ=>Q.getLast?.bind λaa=>(eD.b aa).u.bind λas=>
   if O.a∧as.length=is.length∧Q.length≤100000 then d9 (.a,t,fV (eL I x (.c eb Q.dropLast)) is as) else eh
 |.y i Z x,t,I=>(jE I x).bind λQ=>Q.getLast?.bind λaa=>(eD.b aa).l.bind λP=>
   if uC I Z∧P∈t.b∧Q.length≤100000 then d9 (.a,t,eL (eL I x (.c eb Q.dropLast)) i (.b (.d P))) else eh
 |.d o f e,t,I=>(e.q O t I).bind λ(K,t)=>(o.q O t I).bind λ(Y,t)=>(wV t f Y K).map λt=>(.a,t,I)
 |.B o x,t,I=>(jE I x).bind λQ=>(o.q O t I).bind λ(Y,t)=>Y.v.bind λP=>(l5 Q).map λX=>
   (.a,{ t.m P X with h:=t.h+1 },λac=>if ac=x then eh else I ac)
 |.s i fs e,t,I=>(e.q O t I).bind λ(K,t)=>K.u.bind λas=>(qx I i).bind λP=>if O.a then(rB t P fs as).map λt=>(.a,t,I) else eh
 |.n x k e,t,I=>(e.q O t I).bind λ(K,t)=>(k.q O t I).bind λ(Y,t)=>s9 I t x Y K
 |.m x e,t,I=>(e.q O t I).bind λ(K,t)=>(jE I x).bind λQ=>K.w.bind λaa=>if Q.length≤100000 then d9 (.a,t,eL I x (.c eb (Q++[aa]))) else eh
 |.r x e,t,I=>(e.q O t I).bind λ(K,t)=>(jE I x).bind λQ=>(ia t K).bind λys=>if Q.length+ys.length≤100000 then d9 (.a,t,eL I x (.c eb (Q++ys))) else eh
 |.A x k e,t,I=>(uh I t x).bind λU=>(k.q O t I).bind λ(Y,t)=>(e.q O t I).bind λ(K,t)=>(uh I t x).bind λP=>Y.l.bind λk=>K.l.bind λac=>
   if 0≤k∧k≤((t.a P).a.length:Int)∧(t.a P).a.length<100000 then d9 (.a,t.m P ((t.a P).a.take k.toNat++ac::(t.a P).a.drop k.toNat),I) else eh
 |.C o e,t,I=>(e.q O t I).bind λ(K,R)=>(qx I o).bind λP=>K.l.bind λk=>
   if R.h=t.h∧k∈(R.a P).a∧(R.a P).a.length≤100000 then d9 (.a,R.m P ((R.a P).a.eraseIdx ((R.a P).a.idxOf k)),I) else eh
 |.q Z e,t,I=>(e.q O t I).bind λ(K,t)=>K.l.bind λk=>
   if uC I Z∧k∈t.b∧t.b.length≤100000 then d9 (.a,{ t with b:=t.b.filter λP=>eU (P≠k) },I) else eh
 |.h e,t,I=>(e.q O t I).map λ(K,t)=>(.a,t,I)
 |.c ae b o,t,I=>(ae.q O t I).bind λ(K,t)=>K.q.bind λx=>if x then b.c O t I else o.c O t I
 |.w ae b,t,I=>mi (λt I=>ae.q O t I) (λt I=>b.c O t I) 10000 t I
 |.j N L b,t,I=>(L.c O t I).bind λ(J,E)=>(oq E J).bind λM=>(qw L.g M).bind λW=>if L.d.all (λe=>e.P.all λi=>!((N++b.f).contains i))∧(L.d.zip J).all (λaf=>mI I af.1 af.2) then
   j7 (λR F'=>pC E R J&&L.d.all λe=>mY I F' e) N (λt I=>b.c O t I) W E I else eh
 |.g e,t,I=>(e.q O t I).bind λ(K,t)=>if zK K then d9 (.b K,t,I) else eh
 |.u x,t,I=>(I x).bind λK=>if zK K then d9 (.b K,t,I) else eh
 |.D,t,I=>d9 (.b (.b .e),t,I)
 |.p,t,I=>eh
noncomputable def Ss.c(g:ir):Ss->eB->Fr->Option (Fl×eB×Fr)
 |.b,t,F=>d9 (.a,t,F)
 |.a s r,t,F=>(s.F g t F).bind λ(h,t,F)=>match h with|.a=>r.c g t F|.b v=>d9 (.b v,t,F)
end
def yZ(w:List eD)(t:eB):Option (eD×eB):=if w.length=3∧t.b.length≤100000 then w[0]?.bind λv=>if v.p=eb then w[1]?.bind λv=>v.l.bind λs=>w[2]?.bind λv=>v.l.map λp=>
  (.b (.d (t.c+1)),{ t.f (t.c+1) ⟨s,p,[],0,0,0,0,0,1,1,0,0⟩ with c:=t.c+1,b:=t.b++[t.c+1] }) else eh else eh
def UO:List (Nat×List Nat×Ss):=[
 (31,[66,53,57,56],ub),
 (33,[66,53,57,56,93],vQ),
 (26,[66,59,60],vM),
 (1023,[50,56],sr),
 (1024,[50,56,57],sq),
 (1025,[50,56],sj),
 (1026,[50],FT),
 (1027,[50,58],vC),
 (1029,[50,53],vB),
 (1030,[50,53],vy),
 (1031,[50,53],vA),
 (1032,[50,53],vz),
 (1033,[50,56],si),
 (15,[54],vD),
 (16,[56],vP),
 (17,[66,53],BR),
 (18,[66],yK),
 (19,[66,53],BS),
 (20,[66,69,70],rg),
 (21,[66,53],vG),
 (22,[66,53,56],vJ),
 (23,[74,75,76],sC),
 (24,[66,53,56,57],vO),
 (25,[66],vN),
 (27,[66,53],vS),
 (28,[66],vR),
 (29,[66,53],vL),
 (30,[66],vE),
 (32,[66,53,56],rf),
 (34,[66,53],vH),
 (35,[66,53],sA),
 (36,[66,95],vK),
 (37,[66,53],vF),
 (38,[66,53],yJ),
 (39,[98,99],su),
 (40,[66,53,56],sy),
 (41,[66,53,56,100],vI),
 (43,[98,66,103],ua)]
def BU(g:Nat):Option (List Nat×Ss):=UO.lookup g
noncomputable def gF(j:Bool):Nat->Nat->List eD->eB->Option (eD×eB)
 |0,_,_,_=>eh
 |k+1,g,w,t=>if g=1028 then(if j∧3≤k then yZ w t else eh) else(BU g).bind λ(B,b)=>if B.length=w.length then
   (b.c ⟨gF j k,j⟩ t (fh B (w.map eD.e))).bind λ(f,t,_)=>match f with
    |.b v=>d9 (v,t)
    |.a=>d9 (.b .e,t)
  else eh
end
section
variable{c:Cx}{V:eJ}{H M:AH}
structure Ad where
 e:et
 i:et
 c:et
 f:et
 j:et
 b:Int->et
 g:Int->et
 a:Int->et
 d:Int->et
 h:Int->et
def m8(a:Ad)(n:Int)(w:gE):List Value:=[vi n,vi w.b,vi w.c,ec (a.a n),vi w.g,vi w.h,vi w.d,vi w.e,vi w.i,vi w.j,vi w.m,vi w.k,fF em,vi w.f,ec (a.d n),ec (a.h n)]
def xe(a:Ad)(t:eB):List Value:=[ec a.c,vi t.c,vi t.l,vi 3,vi 2,vi t.d,vi t.i]
def i0(a:Ad)(n:Int)(w:gE):List (String×ed):=(lN.take 16).zip (m8 a n w)
def jv(a:Ad)(t:eB):List (String×ed):=((lN.drop 16).take 7).zip ((xe a t).take t.g)
def eB.j(t:eB)(n:Int):Prop:=1≤n∧n≤t.c
structure yD(H:AH)(a:Ad)(n:Int)(w:gE):Prop where
 d:H (a.b n)=d9 (.h 93 (a.g n))
 b:H (a.g n)=d9 (.b (i0 a n w))
 c:H (a.a n)=d9 (.a (w.a.map vi))
 f:H (a.d n)=d9 (.a [])
 e:H (a.h n)=d9 (.a [])
structure In(H:AH)(a:Ad)(t:eB):Prop where
 e:H a.e=d9 (.h 164 a.i)
 d:H a.i=d9 (.b (jv a t))
 c:H a.c=d9 (.e (t.b.map λn=>(n,ec (a.b n))))
 h:(a.c==mL)=em
 g:t.b.Nodup∧0≤t.c
 f:∀n∈t.b,t.j n
 b:∀n,t.j n->yD H a n (t.a n)
 j:∀n m,t.j n->t.j m->(n≠m->a.a n≠a.a m)∧a.a n≠a.d m∧a.a n≠a.h m
 i:∀n,t.j n->a.a n≠a.f∧a.a n≠a.j∧a.d n≠a.f∧a.h n≠a.f
structure Wd(H:AH)(a:Ad)(t:eB):Prop where
 c:H a.f=d9 (.a [ec a.j,vi t.e])
 d:H a.j=d9 (.a (t.k.map vi))
 e:a.f≠a.j
 b:5≤t.g->In H a t
def jB(a:Ad)(t:eB)(x:et):Prop:=x=a.f∨(5≤t.g∧(x=a.i∨x=a.c∨∃n,t.j n∧(x=a.g n∨x=a.a n)))
noncomputable def AO.i:AO->Bool
 |.a _=>eb
 |.e _=>eb
 |.b _=>eb
 |_=>em
theorem Lu{a:Ad}{t:eB}{x:et}(w:Wd H a t)(h:jB a t x):∃o,H x=d9 o∧o.i=true:=by
 rcases h with rfl|⟨J,h⟩
 ·exact(eu _ w.c rfl)
 ·have i:=w.b J
  rcases h with rfl|rfl|⟨n,W,rfl|rfl⟩
  ·exact(eu _ i.d rfl)
  ·exact(eu _ i.c rfl)
  ·exact(eu _ ((i.b n W).b) rfl)
  ·exact(eu _ ((i.b n W).c) rfl)
theorem jB.a{b:Ad}{t:eB}{x:et}(w:Wd H b t)(h:jB b t x){G:Prop}(N:∀o,H x=d9 o->o.i=eb->G):G:=eR (Lu w h) N
theorem nE{a:Ad}{t:eB}{x:et}{o:AO}(w:Wd H a t)(Z:H x=d9 o)(Y:o.i=em):¬jB a t x:=λh=>by
 refine h.a w λX K I=>?_;rw[Z] at K;obtain rfl:=eX K;rw[Y] at I;exact nB I
theorem A7{a:Ad}{t:eB}{x:et}(w:Wd H a t)(Z:H x=eh):¬jB a t x:=λh=>by
 refine h.a w λX K I=>?_;rw[Z] at K;exact nS K
def jx(a:Ad)(t:eB)(x:et):Prop:=jB a t x∨x=a.j∨(5≤t.g∧(x=a.e∨∃n,t.j n∧(x=a.b n∨x=a.d n∨x=a.h n)))
noncomputable def AO.j:AO->Bool
 |.g _=>em
 |.f _=>em
 |.c _=>em
 |_=>eb
theorem Ly{a:Ad}{t:eB}{x:et}(w:Wd H a t)(h:jx a t x):∃o,H x=d9 o∧o.j=true:=by
 rcases h with h|rfl|⟨J,h⟩
 ·refine h.a w λo K I=>?_
  exact(eu o K (by(clear K;cases o)<;>first|rfl|exact nB I))
 ·exact(eu _ w.d rfl)
 ·have i:=w.b J
  rcases h with rfl|⟨n,W,rfl|rfl|rfl⟩
  ·exact(eu _ i.e rfl)
  ·exact(eu _ ((i.b n W).d) rfl)
  ·exact(eu _ ((i.b n W).f) rfl)
  ·exact(eu _ ((i.b n W).e) rfl)
theorem jx.a{b:Ad}{t:eB}{x:et}(w:Wd H b t)(h:jx b t x){G:Prop}(N:∀o,H x=d9 o->o.j=eb->G):G:=eR (Ly w h) N
theorem A8{a:Ad}{t:eB}{x:et}{o:AO}(w:Wd H a t)(Z:H x=d9 o)(Y:o.j=em):¬jx a t x:=λh=>by
 refine h.a w λX K I=>?_;rw[Z] at K;obtain rfl:=eX K;rw[Y] at I;exact nB I
theorem A9{a:Ad}{t:eB}{x:et}(w:Wd H a t)(Z:H x=eh):¬jx a t x:=λh=>by
 refine h.a w λX K I=>?_;rw[Z] at K;exact nS K
structure fk(a:Ad)(t:eB)(H:AH)(a':Ad)(t':eB)(H':AH):Prop where
 b:Wd H' a' t'
 f:∀x o,H x=d9 o->¬jB a t x->H' x=d9 o
 i:∀x o,H x=d9 o->∃o',H' x=d9 o'
 l:∀x,jB a' t' x->jB a t x∨H x=eh
 m:∀x,jx a' t' x->jx a t x∨H x=eh
 u:t'.k=t.k
 r:a'.f=a.f
 p:a'.j=a.j
 c:5≤t.g->5≤t'.g∧a'.e=a.e∧a'.c=a.c∧t.c≤t'.c∧(∀n,t.j n->a'.b n=a.b n)∧t.h≤t'.h∧(t'.h=t.h->∀n,t.j n->a'.a n=a.a n)
theorem eB.j.a{t D:eB}{n:Int}(h:t.j n)(C:t.c≤D.c):D.j n:=⟨h.1,jX h.2 C⟩
theorem fk.e{a:Ad}{t:eB}(w:Wd H a t):fk a t H a t H:=
 ⟨w,λU U h U=>h,λU o h=>⟨o,h⟩,λU h=>eH h,λU h=>eH h,rfl,rfl,rfl,λh=>⟨h,rfl,rfl,ja _,λU U=>rfl,ig _,λU U U=>rfl⟩⟩
theorem fk.d{a s Y:Ad}{t D b:eB}{R:AH}(p:fk a t H s D M)(q:fk s D M Y b R):fk a t H Y b R:=by
 refine⟨q.b,λx o Z y=>?_,λx o Z=>?_,λx Z=>?_,λx Z=>?_,q.u.trans p.u,q.r.trans p.r,q.p.trans p.p,λJ=>?_⟩
 ·exact q.f x o (p.f x o Z y) λh=>(p.l x h).elim y λe=>by rw[Z] at e;exact iX e
 ·refine fL (p.i x o Z) λX K=>?_
  exact q.i x X K
 ·rcases q.l x Z with h|h
  ·exact p.l x h
  ·right
   cases e:H x with
   |none=>rfl
   |some o=>refine fL (p.i x o e) λX K=>?_;rw[h] at K;exact nS K
 ·rcases q.m x Z with h|h
  ·exact p.m x h
  ·right
   cases e:H x with
   |none=>rfl
   |some o=>refine fL (p.i x o e) λX K=>?_;rw[h] at K;exact nS K
 ·refine wI (p.c J) λQ m V L I U C=>?_
  refine wI (q.c Q) λw c u E d k j=>?_;refine⟨w,c.trans m,u.trans V,jX L E,λn W=>(d n (W.a L)).trans (I n W),im U k,λN n W=>?_⟩;have O:D.h=t.h:=WI (N▸k) U;exact(j (N.trans O.symm) n (W.a L)).trans (C O n W)
theorem fk.h{a s:Ad}{t D:eB}(p:fk a t H s D M){x:et}(Z:M x=eh):H x=none:=by
 cases e:H x with
 |none=>rfl
 |some o=>refine fL (p.i x o e) λX K=>?_;rw[Z] at K;exact nS K
theorem Wd.i{a:Ad}{t:eB}(w:Wd H a t)(e:∀x o,H x=d9 o->M x=d9 o):Wd M a t:=
 ⟨e _ _ w.c,e _ _ w.d,w.e,λJ=>let i:=w.b J;⟨e _ _ i.e,e _ _ i.d,e _ _ i.c,i.h,i.g,i.f,λn W=>let w:=i.b n W;⟨e _ _ w.d,e _ _ w.b,e _ _ w.c,e _ _ w.f,e _ _ w.e⟩,i.j,i.i⟩⟩
theorem fk.j{a:Ad}{t:eB}(w:Wd H a t)(e:∀x o,H x=d9 o->M x=d9 o):fk a t H a t M:=
 ⟨w.i e,λx o h U=>e x o h,λx o h=>⟨o,e x o h⟩,λU h=>eH h,λU h=>eH h,rfl,rfl,rfl,λh=>⟨h,rfl,rfl,ja _,λU U=>rfl,ig _,λU U U=>rfl⟩⟩
theorem rl{D:et}{o:AO}(h:H D=eh):∀x p,H x=d9 p->eQ H D o x=d9 p:=λx p Z=>by
 rw[fw _ _ (λe=>by rw[e,h] at Z;exact nS Z)];exact Z
theorem fk.g{a:Ad}{t:eB}{D:et}{o:AO}(w:Wd H a t)(h:H D=eh):fk a t H a t (eQ H D o):=.j w (rl h)
mutual
def AR(H:AH)(a:Ad)(t:eB):eT->ed->Prop
 |.e,u=>u=ez
 |.g b,u=>u=fF b
 |.a i,u=>u=ej i 0
 |.h s,u=>u=eC (eE s) 0
 |.c,u=>u=ec a.e∧5≤t.g
 |.d n,u=>u=ec (a.b n)∧5≤t.g∧t.j n
 |.f as,u=>∃r c,u=ec r∧H r=d9 (.f c)∧gN H a t as c
def gN(H:AH)(a:Ad)(t:eB):List eT->List ed->Prop
 |[],b=>b=[]
 |x::z,b=>∃u W,b=u::W∧AR H a t x u∧gN H a t z W
end
def jJ(H:AH)(a:Ad)(t:eB):List (Int×eT)->List (Int×ed)->Prop
 |[],b=>b=[]
 |x::z,b=>∃u W,b=(x.1,u)::W∧AR H a t x.2 u∧jJ H a t z W
def VR(H:AH)(a:Ad)(t:eB):eD->ed->Prop
 |.b x,u=>AR H a t x u
 |.c o z,u=>∃r A,u=ec r∧H r=d9 (.a A)∧gN H a t z A∧¬jB a t r∧(o=eb->¬jx a t r)
 |.g o z,u=>∃r A,u=ec r∧H r=d9 (.e A)∧jJ H a t z A∧(r==mL)=em∧¬jB a t r∧(o=eb->¬jx a t r)
 |.j,u=>u=ec a.c∧5≤t.g
 |.f n k,u=>∃r,u=ec r∧5≤t.g∧t.j n∧k≤t.h∧(t.h=k->r=a.a n)
 |.h,u=>u=ec a.f
 |.m,u=>u=ec a.j
def jd(H:AH)(a:Ad)(t:eB):List eD->List ed->Prop
 |[],A=>A=[]
 |x::z,A=>∃u W,A=u::W∧VR H a t x u∧jd H a t z W
mutual
theorem A1{a s:Ad}{t D:eB}(p:fk a t H s D M)(w:Wd H a t):∀{x:eT} {u:ed},AR H a t x u->AR M s D x u
 |.e,_,h=>h
 |.g b,_,h=>h
 |.a i,_,h=>h
 |.h d,_,h=>h
 |.c,_,L=>fe L λe h=>⟨e.trans (congrArg ec (p.c h).2.1.symm),(p.c h).1⟩
 |.d n,_,Z=>gY Z λe h W=>⟨e.trans (congrArg ec ((p.c h).2.2.2.2.1 _ W).symm),(p.c h).1,W.a (p.c h).2.2.2.1⟩
 |.f as,_,R=>fT R λr c e h S=>⟨r,c,e,p.f _ _ h (nE w h rfl),gN.d p w S⟩
theorem gN.d{a s:Ad}{t D:eB}(f:fk a t H s D M)(i:Wd H a t):∀{j:List eT} {u:List ed},gN H a t j u->gN M s D j u
 |[],_,c=>c
 |_::_,_,Z=>fT Z λu W l c S=>⟨u,W,l,A1 f i c,gN.d f i S⟩
end
theorem jJ.j{a c:Ad}{t D:eB}(p:fk a t H c D M)(w:Wd H a t):∀{x:List (Int×eT)} {b:List (Int×ed)},jJ H a t x b->jJ M c D x b
 |[],_,h=>h
 |_::_,_,R=>fT R λb W e h S=>⟨b,W,e,A1 p w h,jJ.j p w S⟩
theorem fk.w{a s:Ad}{t D:eB}(p:fk a t H s D M){r:et}{o:AO}(h:H r=d9 o)(y:¬jB a t r):¬jB s D r:=λq=>
 (p.l r q).elim y λe=>by rw[h] at e;exact iX e
theorem fk.y{a s:Ad}{t D:eB}(p:fk a t H s D M){r:et}{o:AO}(h:H r=d9 o)(y:¬jx a t r):¬jx s D r:=λq=>
 (p.m r q).elim y λe=>by rw[h] at e;exact iX e
theorem VR.a{b s:Ad}{t D:eB}(p:fk b t H s D M)(w:Wd H b t):∀{v:eD} {u:ed},VR H b t v u->VR M s D v u
 |.b x,_,h=>A1 p w h
 |.c _ _,_,Z=>oB Z λr A e h S y g=>⟨r,A,e,p.f _ _ h y,S.d p w,p.w h y,λq=>p.y h (g q)⟩
 |.g _ _,_,R=>oB R λr A e h S B c=>fe c λy g=>⟨r,A,e,p.f _ _ h y,S.j p w,B,p.w h y,λq=>p.y h (g q)⟩
 |.j,_,j=>fe j λe h=>⟨e.trans (congrArg ec (p.c h).2.2.1.symm),(p.c h).1⟩
 |.f n k,_,C=>oA C λr e h W z N=>⟨r,e,(p.c h).1,W.a (p.c h).2.2.2.1,im z (p.c h).2.2.2.2.2.1,λq=>by
  have O:t.h=D.h:=WI (p.c h).2.2.2.2.2.1 (q▸z);rw[(p.c h).2.2.2.2.2.2 O.symm _ W];exact N (O.trans q)⟩
 |.h,_,e=>e.trans (congrArg ec p.r.symm)
 |.m,_,e=>e.trans (congrArg ec p.p.symm)
theorem VR.f{b:Ad}{t:eB}:∀{v:eD} {u:ed},VR H b t v u->VR H b t v.e u
 |.b _,_,h=>h
 |.c _ _,_,j=>oB j λr A e h S y U=>⟨r,A,e,h,S,y,(λh=>nB h)⟩
 |.g _ _,_,c=>oB c λr A e h S B C=>fe C λy U=>⟨r,A,e,h,S,B,y,(λh=>nB h)⟩
 |.j,_,h=>h
 |.f _ _,_,h=>h
 |.h,_,h=>h
 |.m,_,h=>h
theorem rv(v:eD):v.e.i=false:=by cases v<;>rfl
noncomputable def eD.k:eD->Bool
 |.c _ _=>eb
 |.g _ _=>eb
 |_=>em
def iy(c:Cx)(V:eJ)(H:AH)(x:String)(u:ed):Prop:=
 (c.a.kindOf (eE x)=d9 ey∧V x=d9 u)∨(c.a.kindOf (eE x)=d9 fK∧∃n,c.a.cells.lookup (eE x)=d9 n∧H n=d9 (.g (d9 u)))
structure FR(c:Cx)(B:AH)(a:Ad)(t:eB)(F:Fr)(ρ:eJ)(H:AH):Prop where
 h:∀i v,F i=d9 v->∃u,iy c ρ H (nm i) u∧VR H a t v u∧(v.i=eb->∃r,u=ec r∧B r=eh)
 d:∀i j v v' r,i≠j->F i=d9 v->F j=d9 v'->v.i=eb->v'.k=eb->iy c ρ H (nm i) (ec r)->¬iy c ρ H (nm j) (ec r)
 f:∀x,c.a.kindOf x=d9 fK->∃ad v0,c.a.cells.lookup x=d9 ad∧H ad=d9 (.g v0)∧(c.i=eh->B ad=eh)
 inj:∀x y ad,c.a.kindOf x=d9 fK->c.a.kindOf y=d9 fK->c.a.cells.lookup x=d9 ad->c.a.cells.lookup y=d9 ad->x=y
 b:kJ c.b H
theorem FR.g{c:Cx}{B:AH}{a:Ad}{t:eB}{F:Fr}{V:eJ}{H:AH}(f:FR c B a t F V H)(x:ft)(h:c.a.kindOf x=d9 fK){G:Prop}(k:∀i Q,c.a.cells.lookup x=d9 i->H i=d9 (.g Q)->(c.i=eh->B i=eh)->G):G:=fT (f.f x h) k
theorem FR.e{c:Cx}{B:AH}{a:Ad}{t:eB}{F:Fr}{b:eJ}{H:AH}(f:FR c B a t F b H)(i:Nat)(v:eD)(h:F i=d9 v){G:Prop}(k:∀u,iy c b H (nm i) u->VR H a t v u->(v.i=eb->∃r,u=ec r∧B r=eh)->G):G:=f5 (f.h i v h) k
theorem uw{v:eD}(h:v.i=eb):v.k=true:=by
 cases v<;>first|rfl|exact nB h
theorem iy.b{x:String}{d q:ed}(h:iy c V H x d)(u:iy c V H x q):d=q:=by
 rcases h with ⟨k,h⟩ |⟨k,n,K,I⟩ <;>rcases u with ⟨Z,u⟩ |⟨Z,p,O,o⟩
 ·rw[h] at u;exact eX u
 ·rw[k] at Z;cases Z
 ·rw[k] at Z;cases Z
 ·rw[K] at O;obtain rfl:=eX O;rw[I] at o
  simpa using o
theorem iy.a{x:String}{u:ed}(h:iy c V H x u)(k:∀d v,H d=d9 (.g v)->M d=d9 (.g v)):iy c V M x u:=
 h.imp id λ⟨K,n,I,g⟩ =>⟨K,n,I,k _ _ g⟩
theorem FR.k{B:AH}{a:Ad}{t:eB}{F:Fr}(f:FR c B a t F V H){x:String}{u:ed}(h:iy c V M x u)(k:∀a v,H a=d9 (.g v)->M a=d9 (.g v)):iy c V H x u:=
 h.imp id λ⟨K,n,I,g⟩ =>by
  refine f.g _ K λp Q L b U=>?_;rw[I] at L;(clear U;obtain rfl:=eX L);have:=k _ _ b;rw[g] at this;obtain rfl:Q=d9 u:=by simpa using this.symm
  exact⟨K,n,I,b⟩
theorem FR.q{B:AH}{a s:Ad}{t D:eB}{F:Fr}(p:fk a t H s D M)(w:Wd H a t)(f:FR c B a t F V H):FR c B s D F V M:=by
 have k:∀n v,H n=d9 (.g v)->M n=d9 (.g v):=λn v h=>p.f _ _ h (nE w h rfl);refine⟨λi v N=>?_,λi j v b r O N C e R K I=>?_,λi R=>?_,f.inj,f.b.b λx o h=>p.f _ _ h (nE w h rfl)⟩
 ·refine f.e i v N λu K I g=>?_
  exact(fQ u (K.a k) (I.a p w) g)
 ·exact f.d i j v b r O N C e R (f.k K k) (f.k I k)
 ·refine f.g i R λn Q L d W=>?_
  exact(fS n Q L (k _ _ d) W)
end
section
variable{c:Cx}{V:eJ}{H M:AH}{P:iE}
noncomputable def i6(g:Nat):Addr:=(DN g [(15,175),(16,182),(17,189),(18,196),(19,203),(20,210),(21,217),(22,222),(23,227),(24,232),(25,239),(26,246),(27,253),(28,260),(29,265),(30,272),(31,279),(32,286),(33,293),(34,300),(35,307),(36,314),(37,321),(38,328),(39,335),(40,340),(41,345),(42,352),(43,357),(1023,62),(1024,69),(1025,76),(1026,83),(1027,90),(1028,119),(1029,126),(1030,133),(1031,140),(1032,147),(1033,154)]).getD 0
def PZ(P:iE)(g:Nat):Bool:=eU (jg (KK P) ky (eE (nm g))=d9 (d9 (ec (i6 g))))&&tz (KK P) (ec (i6 g))
theorem P3:(tq 15 29).all (PZ P)=true:=by kernel_rfl
def CB(P:iE)(C:et)(m:Nat):Bool:=Eg (KK P) C (eE (gf m))&&eU (rJ (KK P) (ec C) (eE (gf m))=d9 (d9 (ec (i6 (1000+m)))))&&isFn (KK P) (ec (i6 (1000+m)))&&tz (KK P) (ec (i6 (1000+m)))
theorem Q7:(tq 23 5).all (CB P 93)=true:=by kernel_rfl
theorem Q6:(tq 28 6).all (CB P 164)=true:=by kernel_rfl
theorem GN{g:Nat}(h:15≤g∧g<44):jg (KK P) ky (eE (nm g))=d9 (d9 (ec (i6 g)))∧tz (KK P) (ec (i6 g))=true:=by
 have:=iC.mp (P3 (P:=P)) g (AB.mpr (by omega));exact fq this λK I=>⟨of_decide_eq_true K,I⟩
theorem HD{C:et}{m:Nat}(X:c.e=KK P)(h:CB P C m=eb):yr c C (gf m) (i6 (1000+m)):=by
 unfold yr;rw[X];exact fq h λL y=>fq L λT g=>fq T λK I=>⟨K,of_decide_eq_true I,g,y⟩
noncomputable def zG(K:Frag)(C:et)(f:String):Bool:=Eg K C (eE f)&&Ed K C&&eU (rJ K (ec C) (eE f)=d9 eh)
noncomputable def zH(K:Frag)(C:et)(f:String):Bool:=eU (rJ K (ec C) "__setattr__"=d9 (d9 (iP "object.__setattr__")))&&plainOver K C&&eU (takerIn K C (eE f)=d9 eh)&&Ed K C
theorem RG:(AE 16).all (λf=>zG (KK P) 93 (gf f)&&zH (KK P) 93 (gf f))=true:=by kernel_rfl
theorem RF:(tq 16 7).all (λf=>zG (KK P) 164 (gf f)&&zH (KK P) 164 (gf f))=true:=by kernel_rfl
theorem Gd{C:et}{f:String}(F:c.e=KK P)(h:(zG (KK P) C f&&zH (KK P) C f)=eb):CA c C f∧CS c C f:=by
 unfold zG zH at h;simp only[uD,decide_eq_true_eq] at h;unfold CA CS;rw[F];exact⟨⟨h.1.1.1,h.1.1.2,h.1.2⟩,h.2.1.1.1,h.2.1.1.2,h.2.1.2,h.2.2⟩
theorem uc(F:c.e=KK P){f:Nat}(h:f<16):CA c 93 (gf f)∧CS c 93 (gf f):=Gd F (iC.mp (RG (P:=P)) f (AA.mpr h))
theorem qe(F:c.e=KK P){f:Nat}(h:16≤f∧f<23):CA c 164 (gf f)∧CS c 164 (gf f):=Gd F (iC.mp (RF (P:=P)) f (AB.mpr (by omega)))
theorem Qb{g:Nat}{i:Int}(h:wa g=d9 i):∃k,jg (KK P) ky (eE (nm g))=d9 (d9 (ej i k)):=by
 unfold wa at h
 split at h<;>cases h
 ·exact⟨229,by kernel_rfl⟩
 ·exact⟨231,by kernel_rfl⟩
 ·exact⟨233,by kernel_rfl⟩
 ·exact⟨235,by kernel_rfl⟩
 ·exact⟨237,by kernel_rfl⟩
noncomputable def mR:Nat->ed
 |0=>iP "len"|1=>iP "sum"|2=>iP "max"|3=>iP "sorted"|5=>eK "tuple"|6=>eK "list"|7=>eK "zip"|8=>eK "enumerate"
 |_=>ez
def FU(P:iE)(g:Nat):Bool:=g==4||(eU (jg (KK P) ky (eE (nm g))=d9 eh)&&eU (uV (eE (nm g))=d9 (mR g))&&eU (eE (nm g)≠"__name__"))
theorem OW:(AE 9).all (FU P)=true:=by kernel_rfl
theorem O0{g:Nat}(h:g<9)(y:g≠4):jg (KK P) ky (eE (nm g))=d9 eh∧uV (eE (nm g))=d9 (mR g)∧eE (nm g)≠"__name__":=by
 have:=iC.mp (OW (P:=P)) g (AA.mpr h);unfold FU at this;simp only[J9,beq_iff_eq,uD,decide_eq_true_eq] at this;exact⟨(this.resolve_left y).1.1,(this.resolve_left y).1.2,(this.resolve_left y).2⟩
theorem yL{g:Nat}(h:g<9)(y:g≠4){G:Prop}(N:jg (KK P) ky (eE (nm g))=d9 eh->uV (eE (nm g))=d9 (mR g)->eE (nm g)≠"__name__"->G):G:=gY (O0 h y) N
theorem HJ:(wG++["?","__debug__"]).Nodup:=by decide+kernel
theorem CI{i:Nat}(h:i<113):wG[i]? =d9 (nm i):=by
 have C:wG.length=113:=rfl;unfold nm;rw[lD,jF (C▸h)];rfl
theorem HN{i:Nat}(h:¬i<113):nm i="?":=by
 have C:wG.length=113:=rfl;unfold nm;rw[lD,DG (C▸Kx.mp h)];rfl
theorem HO{i:Nat}(h:i<113):nm i∈wG:=tm (CI h)
theorem ul{i j:Nat}(h:i<113)(e:nm i=nm j):i=j:=by
 have E:=qC.mp HJ;by_cases J:j<113
 ·have K:=CI h
  have I:=CI J;rw[←e] at I;refine fL (xu.mp K) λO v=>?_;refine fL (xu.mp I) λd y=>?_;have Z:=List.pairwise_iff_getElem.mp E.1;rcases Nat.lt_trichotomy i j with q|q|q
  ·exact absurd (v.trans y.symm) (Z i j O d q)
  ·exact q
  ·exact absurd (y.trans v.symm) (Z j i d O q)
 ·exact absurd (e.trans (HN J)) (E.2.2 _ (HO h) _ (by simp))
theorem ju(i:Nat):(eE (nm i)==("__debug__":ft))=false:=by
 rw(occs:=eO) [beq_eq_false_iff_ne];intro e;have e:nm i="__debug__":=oE.mp e;have E:=qC.mp HJ;by_cases h:i<113
 ·exact E.2.2 _ (HO h) _ (by simp) e
 ·rw[HN h] at e
  exact absurd e (by decide)
end
section
variable{c:Cx}{V:eJ}{H M:AH}{P:iE}{d:ir}{j:Bool}{Y:List (Nat×fX)}{B:AH}{F:Fr}{a:Ad}{t D:eB}
abbrev gZ:=List (Nat×fX)
noncomputable def jT(Y:gZ)(i:Nat)(k:fX):Bool:=eU (Y.lookup i=d9 k)&&eU (i<113)
noncomputable def mf(Y:gZ)(N:List Nat)(A:gZ):Bool:=
 A.all λp=>eU (p.1<113)&&(match p.2 with|ey=>A.lookup p.1==d9 ey|gb=>Y.lookup p.1==d9 fK|eY=>eb|_=>em)
noncomputable def eW.Q:eW->Bool
 |.j _ .b=>em
 |_=>eb
noncomputable def Es.i:Es->Nat
 |.b=>0
 |.a _ w=>w.i+1
noncomputable def iF.l:iF->Nat
 |.a _=>1
 |.b _ _=>2
 |.f _ _ _=>3
 |.h _=>2
mutual
noncomputable def eW.y(t:Bool)(Y:gZ):eW->Bool->eP->Bool
 |.w g,_,_=>jT Y g eY
 |.c e f,_,s=>e.Q&&eU (f<23)&&e.y t Y em (x1 s)
 |.n e i,_,s=>e.y t Y em (x1 s)&&i.y t Y em (x2 s)
 |.H e,_,s=>e.y t Y em (x1 s)
 |.p o l r,_,s=>l.y t Y em (x1 s)&&r.y t Y em (x2 s)
 |.h o l r,_,s=>l.y t Y em (x1 s)&&r.y t Y em (x2 s)
 |.M e,m,s=>m&&e.y t Y eb (x1 s)
 |.K e,_,s=>e.y t Y em (x1 s)
 |.D o S,m,s=>m&&S.f t Y eb (xl s)
 |.C aa b o,m,s=>!m&&aa.y t Y eb (x1 s)&&b.y t Y em (x2 s)&&o.y t Y em (x3 s)
 |.z S,_,s=>S.f t Y em (xl s)
 |.A S,_,s=>S.f t Y em (xl s)
 |.B T W Z X V,m,s=>!m&&!t&&mf Y W V&&Z.k t Y (xg s).iter&&W.all (λi=>jT V i ey)&&eU W.Nodup&&eU (W.length=Z.l)&&T.y eb (V.map λU=>(U.1,if U.2=gb then fK else U.2)) em (x1 s)&&X.f eb (V.map λU=>(U.1,if U.2=gb then fK else U.2)) eb (xg s).ifs&&eU (X.i≤1)
 |.j g S,_,s=>jT Y g eY&&eU (15≤g∧g<44)&&S.f t Y em (xl s)
 |.v o m S,_,s=>(o.Q&&eU (23≤m∧m<34)&&eU (S.i<30)&&((x1 s).pos.endLine==s.pos.line))&&(o.y t Y em (x1 (x1 s))&&S.f t Y em (xl s))
 |.x g e,_,s=>jT Y g eY&&eU (g<7∧g≠4)&&e.y t Y em ((xl s).headD fU)
 |.J o k,_,s=>(o.Q&&((x1 s).pos.endLine==s.pos.line))&&(o.y t Y em (x1 (x1 s))&&k.y t Y em ((xl s).headD fU))
 |.L o k,_,s=>(o.Q&&((x1 s).pos.endLine==s.pos.line))&&(o.y t Y em (x1 (x1 s))&&k.y t Y em ((xl s).headD fU))
 |_,_,_=>eb
noncomputable def Es.f(j:Bool)(Y:gZ):Es->Bool->List eP->Bool
 |.b,_,_=>eb
 |.a e w,m,z=>e.y j Y m (z.headD fU)&&w.f j Y m z.tail
noncomputable def iF.k(j:Bool)(Y:gZ):iF->eP->Bool
 |.a e,x=>e.y j Y em x
 |.b e m,x=>jT Y 7 eY&&(e.y j Y em ((xl x).headD fU)&&m.y j Y em ((xl x).tail.headD fU))
 |.f e m n,x=>jT Y 7 eY&&(e.y j Y em ((xl x).headD fU)&&(m.y j Y em ((xl x).tail.headD fU)&&n.y j Y em ((xl x).tail.tail.headD fU)))
 |.h e,x=>jT Y 8 eY&&e.y j Y em ((xl x).headD fU)
end
abbrev nG(a:Ad)(t:eB)(H:AH)(v:eD)(D:eB)(Q:ed->AH->Prop):Prop:=
 ∀u s M,fk a t H s D M->VR M s D v u->(v.i=eb->∃r,u=ec r∧H r=eh)->Q u M
def vf(d:ir)(P:iE)(n:Nat):Prop:=∀c:Cx,c.e=KK P->c.d->Lv c n->(d.a=eb->c.b.handled=eh)->∀g w t v D,d.b g w t=d9 (v,D)->
 ∀a V H A Q,Wd H a t->kJ c.b H->jd H a t w A->nG a t H v D Q->lL c (ec (i6 g)) A V H Q
structure jA(d:ir)(P:iE)(inn:Bool)(tbl:gZ)(c:Cx):Prop where
 b:c.e=KK P
 a:c.d
 h:rN c.a=em
 j:c.a.blockKind=jH
 e:∀i k,tbl.lookup i=d9 k->c.a.kindOf (eE (nm i))=d9 k
 f:d.a=eb->c.b.handled=eh
 g:inn=em->c.i=eh
 l:∃n,Lv c n∧vf d P n
structure Bd(d:ir)(P:iE)(inn:Bool)(tbl:gZ)(c:Cx)(B:AH)(F:Fr)(a:Ad)(t:eB)(ρ:eJ)(H:AH):Prop where
 b:jA d P inn tbl c
 g:FR c B a t F ρ H
 f:Wd H a t
theorem Bd.e{s:Ad}(b:Bd d P j Y c B F a t V H)(p:fk a t H s D M):Bd d P j Y c B F s D V M:=⟨b.b,b.g.q p b.f,p.b⟩
def SE(d:ir)(P:iE)(e:eW):Prop:=∀{j Y c x t F v D},e.y j Y em x=eb->e.q d t F=d9 (v,D)->∀{B a V H Q},Bd d P j Y c B F a t V H->nG a t H v D Q->TE c (e.u x) V H Q
def SB(d:ir)(P:iE)(e:eW):Prop:=∀{j Y c x t F b D},e.y j Y eb x=eb->e.q d t F=d9 (.b (.g b),D)->∀{B a V H Q},Bd d P j Y c B F a t V H->
 (∀s M,fk a t H s D M->Q b M)->TB c (e.u x) V H Q
def rW(H:AH):List eD->List ed->Prop
 |v::J,u::A=>(v.i=eb->∃r,u=ec r∧H r=eh)∧rW H J A
 |_,_=>True
def qa(d:ir)(P:iE)(w:Es):Prop:=∀{j Y c z t F J D},w.f j Y em z=eb->w.g d t F=d9 (J,D)->∀{B a V H Q},Bd d P j Y c B F a t V H->
 (∀A s M,fk a t H s D M->jd M s D J A->rW H J A->Q A M)->TA c (w.c z) V H Q
theorem kH{e:eW}(k:∀{j Y c x t F} {r:eD×eB},e.y j Y em x=eb->e.q d t F=d9 r->∀{B a V H Q},Bd d P j Y c B F a t V H->nG a t H r.1 r.2 Q->TE c (e.u x) V H Q):SE d P e:=
 λ{U U U U U U U U} X h {U U U U U} b G=>k X h b G
theorem EN{w:Es}(k:∀{j Y c z t F} {r:List eD×eB},w.f j Y em z=eb->w.g d t F=d9 r->∀{B a V H Q},Bd d P j Y c B F a t V H->
 (∀A s M,fk a t H s r.2 M->jd M s r.2 r.1 A->rW H r.1 A->Q A M)->TA c (w.c z) V H Q):qa d P w:=
 λ{U U U U U U U U} X h {U U U U U} b G=>k X h b G
theorem FY{L j:Type}{o:Option L}{f:L->Option j}{b:j}(h:o.bind f=d9 b):∃a,o=d9 a∧f a=d9 b:=Option.bind_eq_some_iff.mp h
theorem hV{L j t:Type}{o:Option (L×t)}{f:L×t->Option j}{b:j}(h:o.bind f=d9 b){G:Prop}(k:∀x y,o=d9 (x,y)->f (x,y)=d9 b->G):G:=zF (FY h) k
theorem fy{L j:Type}{o:Option L}{f:L->Option j}{b:j}(h:o.bind f=d9 b){G:Prop}(N:∀a,o=d9 a->f a=d9 b->G):G:=eR (FY h) N
theorem Cv{L j:Type}{o:Option L}{f:L->j}{b:j}(h:o.map f=d9 b):∃a,o=d9 a∧f a=b:=xD.mp h
theorem ou{L j t:Type}{o:Option (L×t)}{f:L×t->j}{b:j}(h:o.map f=d9 b){G:Prop}(k:∀x y,o=d9 (x,y)->f (x,y)=b->G):G:=zF (Cv h) k
theorem ie{L j:Type}{o:Option L}{f:L->j}{b:j}(h:o.map f=d9 b){G:Prop}(N:∀a,o=d9 a->f a=b->G):G:=eR (Cv h) N
theorem wf{L:Type}{p:Prop}[Decidable p]{o:Option L}{y:L}(h:(if p then o else eh)=d9 y):p∧o=d9 y:=by
 by_cases J:p
 ·rw[if_pos J] at h;exact⟨J,h⟩
 ·rw[if_neg J] at h;exact nS h
theorem gm{L:Type}{p:Prop}[Decidable p]{o:Option L}{y:L}(h:(if p then o else eh)=d9 y){G:Prop}(N:p->o=d9 y->G):G:=fe (wf h) N
theorem Mu:SE d P .F:=kH λ{U U U x U U r} U h {U U U U U} b G=>by
 obtain rfl:=eX h;exact E9 (G _ _ _ (.e b.f) rfl (λh=>nB h))
theorem Mr{i:Int}:SE d P (.d i):=kH λ{U U U x U U r} U h {U U U U U} b G=>by
 obtain rfl:=eX h;exact ym (G _ _ _ (.e b.f) rfl (λh=>nB h))
theorem Mi{i:Bool}:SE d P (.I i):=kH λ{U U U x U U r} U h {U U U U U} b G=>by
 obtain rfl:=eX h;exact E3 (G _ _ _ (.e b.f) rfl (λh=>nB h))
theorem Mw{s:String}:SE d P (.G s):=kH λ{U U U x U U r} U h {U U U U U} b G=>by
 obtain rfl:=eX h;exact NW (G _ _ _ (.e b.f) rfl (λh=>nB h))
theorem Bd.k(b:Bd d P j Y c B F a t V H){i:Nat}{v:eD}(h:F i=d9 v):∃u,VR H a t v u∧iy c V H (nm i) u∧(v.i=eb->∃r,u=ec r∧B r=eh)∧∀p Q,Q u H->TE c (gk (eE (nm i)) p) V H Q:=by
 refine b.g.e i v h λu K I g=>?_;refine(lO u I K g (λp Q G=>?_));rcases K with ⟨l,k⟩ |⟨l,n,k,s⟩
 ·exact lr b.b.a l k G (ju i)
 ·exact E4 b.b.a l k s G (ju i)
theorem Bd.h(b:Bd d P j Y c B F a t V H){i:Nat}{v:eD}(h:F i=d9 v){G:Prop}(N:∀u,VR H a t v u->iy c V H (nm i) u->((v.i=eb->∃r,u=ec r∧B r=eh))->(∀p Q,Q u H->TE c (gk (eE (nm i)) p) V H Q)->G):G:=nR (Bd.k b h) N
theorem Mz{i:Nat}:SE d P (.a i):=kH λ{U U U x U U r} U h {U U U U U} b G=>by
 refine ie h λQ K I=>?_;clear h;subst I;refine b.h K λu L U U T=>?_;exact T _ _ (G u _ _ (.e b.f) L.f (by rw[rv];nofun))
theorem j8(b:jA d P j Y c){i:Nat}{k:fX}(h:jT Y i k=eb):c.a.kindOf (eE (nm i))=d9 k:=by
 unfold jT at h;rw[uD,decide_eq_true_eq] at h;exact b.e i k h.1
theorem Mo{g:Nat}:SE d P (.w g):=kH λ{U U U x U U r} X h {U U U U U} b G=>by
 refine ie h λi K I=>?_;clear h;subst I;refine fL (Qb (P:=P) K) λk z=>?_;exact tS (v:=ej i k) b.b.b b.b.a (j8 b.b X) z (G _ _ _ (.e b.f) rfl (λh=>nB h)) (ju g)
theorem Mn:SE d P .N:=kH λ{U U U x U U r} U h {U U U U U} b G=>by
 obtain rfl:=eX h;exact E5 b.b.a λD Y B=>G _ _ _ (.g b.f Y) (Ce D ([]) rfl (gA _ _ _) rfl B (A7 b.f Y) (λU=>A9 b.f Y)) λU=>(eu D rfl Y)
end
section
variable{c:Cx}{V:eJ}{H M:AH}{P:iE}{d:ir}{j:Bool}{Y:gZ}{B:AH}{F:Fr}{a:Ad}{t D:eB}
theorem jp(e:eW)(x:eP):qX (e.u x)∧iQ [e.u x]=eb∧(∀o,KZ o (e.u x)=em)∧(∀b w,kz (e.u x::w) b=(em,jc (e.u x) b)::kz w b)∧∀b v,pQ (e.u x) b v=f9 v:=by
 cases e<;>exact⟨λU U=>rfl,rfl,λU=>rfl,λU U=>rfl,λU U=>rfl⟩
theorem wO{e:eW}(h:e.Q=eb)(x:eP):PB (e.u x):=by
 cases e with
 |j g w=>cases w with
  |b=>exact nB h
  |a=>exactλU U U=>rfl
 |_=>exactλU U U=>rfl
theorem jS{v:eD}{i:Int}(h:v.l=d9 i):v=.a i:=by
 cases v with
 |b x=>cases x with
  |a=>obtain rfl:=eX h;rfl
  |_=>exact nS h
 |_=>exact nS h
theorem sG{v:eD}{i:Bool}(h:v.q=d9 i):v=.d i:=by
 cases v with
 |b x=>cases x with
  |g=>obtain rfl:=eX h;rfl
  |_=>exact nS h
 |_=>exact nS h
theorem xi{v:eD}{i:Int}(h:v.v=d9 i):v=.b (.d i):=by
 cases v with
 |b x=>cases x with
  |d=>obtain rfl:=eX h;rfl
  |_=>exact nS h
 |_=>exact nS h
theorem xd{v:eD}{i:List eT}(h:v.u=d9 i):v=.b (.f i):=by
 cases v with
 |b x=>cases x with
  |f=>obtain rfl:=eX h;rfl
  |_=>exact nS h
 |_=>exact nS h
theorem yG{v:eD}{i:eT}(h:v.w=d9 i):v=.b i:=by
 cases v with
 |b x=>obtain rfl:=eX h;rfl
 |_=>exact nS h
theorem Cu{v:eD}{i:List eT}(h:v.y=d9 i):∃o,v=.c o i:=by
 cases v with
 |c o x=>obtain rfl:=eX h;exact⟨o,rfl⟩
 |_=>exact nS h
theorem CO{v:eD}{i:List eT}(h:v.z=d9 i):v=.c eb i:=by
 cases v with
 |c o x=>refine gm h λK I=>?_;(clear h;obtain rfl:=eX I);rw[K]
 |_=>exact nS h
theorem Dp{v:eD}(h:v.s=eb):v=.j:=by
 cases v with
 |j=>rfl
 |_=>exact nB h
theorem Ae{v:eD}(h:v.p=eb):v=.b .c:=by
 cases v with
 |b x=>cases x with
  |c=>rfl
  |_=>exact nB h
 |_=>exact nB h
theorem An{X:List String}{J:List ed}(E:X.Nodup):∀{f:Nat} {x:String} {u:ed},X[f]? =d9 x->J[f]? =d9 u->(X.zip J).lookup x=d9 u:=by
 induction X generalizing J with
 |nil=>intro f x u h;simp at h
 |cons n X D=>
  intro f x u K I;refine qm E λw O=>?_;cases J with
  |nil=>simp at I
  |cons v J=>
   rw[xy,iw];cases f with
   |zero=>obtain rfl:=eX K;obtain rfl:=eX I;simp
   |succ f=>
    have Z:x∈X:=tm K;rw[beq_eq_false_iff_ne.mpr (λe:x=n=>w (e▸Z))];exact D O K I
theorem jd.f:∀{z:List eD} {A:List ed},jd H a t z A->∀{i:Nat} {x:eD},z[i]? =d9 x->∃u,A[i]? =d9 u∧VR H a t x u:=by
 intro z
 induction z with
 |nil=>intro A U i x Z;rw[Kj] at Z;exact nS Z
 |cons v z D=>
  intro A q i x Z;refine fT q λu W c h S=>?_;rw[c];cases i with
  |zero=>exact⟨u,rfl,by obtain rfl:=eX Z;exact h⟩
  |succ i=>exact D S Z
theorem On:∀{z:List eD} {A:List ed} (n:Nat),jd H a t z A->jd H a t (z.take n) (A.take n):=by
 intro z
 induction z with
 |nil=>intro A n h;rw[show _=[] from h,WD,WD];rfl
 |cons x z D=>
  intro A n q;cases n with
  |zero=>rfl
  |succ n=>exact fT q λu W e h S=>⟨u,W.take n,by rw[e];rfl,h,D n S⟩
theorem EK(w:Wd H a t)(J:5≤t.g){n:Int}(W:t.j n):¬jB a t (a.d n)∧¬jB a t (a.h n):=by
 have i:=w.b J;have S:∀x,H x=d9 (.a [])->x≠a.f->(∀m,t.j m->a.a m≠x)->¬jB a t x:=by
  rintro x Z K I (h|⟨_,h|h|⟨m,Y,h|h⟩⟩)
  ·exact K h
  ·rw[h,i.d] at Z;cases Z
  ·rw[h,i.c] at Z;cases Z
  ·rw[h,(i.b m Y).b] at Z;cases Z
  ·exact I m Y h.symm
 exact⟨S _ (i.b n W).f (i.i n W).2.2.1 λm Y=>(i.j m n Y W).2.1,S _ (i.b n W).e (i.i n W).2.2.2 λm Y=>(i.j m n Y W).2.2⟩
theorem Qa{n:Int}(w:Wd H a t)(J:5≤t.g)(W:t.j n):jd H a t ((t.a n).n n t.h) (m8 a n (t.a n)):=
 have E:=(w.b J).b n W
 ⟨_,_,rfl,rfl,_,_,rfl,rfl,_,_,rfl,rfl,_,_,rfl,⟨_,rfl,J,W,ig _,λU=>rfl⟩,_,_,rfl,rfl,_,_,rfl,rfl,_,_,rfl,rfl,_,_,rfl,rfl,_,_,rfl,rfl,_,_,rfl,rfl,_,_,rfl,rfl,_,_,rfl,rfl,
  _,_,rfl,rfl,_,_,rfl,rfl,_,_,rfl,⟨_,_,rfl,E.f,rfl,(EK w J W).1,nofun⟩,_,_,rfl,⟨_,_,rfl,E.e,rfl,(EK w J W).2,nofun⟩,rfl⟩
theorem UQ(J:5≤t.g):jd H a t t.n ((xe a t).take t.g):=
 On _ ⟨_,_,rfl,⟨rfl,J⟩,_,_,rfl,rfl,_,_,rfl,rfl,_,_,rfl,rfl,_,_,rfl,rfl,_,_,rfl,rfl,_,_,rfl,rfl,rfl⟩
theorem qh:(lN.take 16).Nodup∧((lN.drop 16).take 7).Nodup:=by decide+kernel
theorem GK{f:Nat}(h:f<16):(lN.take 16)[f]? =d9 (gf f):=by
 rw[Az h];have C:f<lN.length:=AI h (by decide);unfold gf;rw[lD,jF C];rfl
theorem Ca{f:Nat}(K:16≤f)(h:f<23):((lN.drop 16).take 7)[f-16]? =d9 (gf f):=by
 rw[Az (by omega),List.getElem?_drop,Nat.add_sub_cancel' K];have C:f<lN.length:=AI h (by decide);unfold gf;rw[lD,jF C];rfl
structure tU(c:Cx)(H:AH)(f:String)(x C dd:et)(fs:List (String×ed))(u:ed):Prop where
 b:H x=d9 (.h C dd)
 e:H dd=d9 (.b fs)
 g:fs.lookup f=d9 u
 d:CA c C f
 a:Ec u=eb
theorem P9(F:c.e=KK P){f:Nat}{v b:eD}{u:ed}(w:Wd H a t)(N:VR H a t v u)(h:qk t f v=d9 b):
  ∃x C z e q,u=ec x∧tU c H (gf f) x C z e q∧VR H a t b q∧b.i=false:=by
 cases v with
 |b x=>
  cases x with
  |d n=>
   (refine gY N λO J W=>?_;(clear N;obtain rfl:=O))
   have E:=(w.b J).b n W;have y:f<16:=(xu.mp h).1;refine eR ((Qa w J W).f h) λq L d=>?_;have R:((m8 a n (t.a n)).all Ec&&((t.a n).n n t.h).all λv=>!v.i)=true:=rfl;rw[uD,iC,iC] at R;exact⟨_,93,_,_,q,rfl,⟨E.d,E.b,An qh.1 (GK y) L,(uc F y).1,R.1 _ (tm L)⟩,d,by simpa using R.2 _ (tm h)⟩
  |c=>
   (refine fe N λm J=>?_;(clear N;obtain rfl:=m))
   refine gm h λZ h=>?_;refine eR ((UQ (a:=a) (H:=H) J).f h) λq L d=>?_;have R:((xe a t).all Ec&&([.j,.a t.c,.a t.l,.a 3,.a 2,.a t.d,.a t.i]:List eD).all λv=>!v.i)=true:=rfl;rw[uD,iC,iC] at R;have y:f<23:=by
    have:=(xu.mp h).1;unfold eB.n at this;rw[xw] at this;have:f-16<7:=WL this (WP _ _);lia
   exact⟨_,164,_,_,q,rfl,⟨(w.b J).e,(w.b J).d,An qh.2 (Ca Z y) L,(qe F ⟨Z,y⟩).1,R.1 _ (Wx (tm L))⟩,d,by simpa using R.2 _ (Wx (tm h))⟩
  |_=>exact nS h
 |_=>exact nS h
theorem v8(F:c.e=KK P){f:Nat}{v b:eD}{u:ed}(w:Wd H a t)(N:VR H a t v u)(h:qk t f v=d9 b){G:Prop}(d:∀x C z e q,u=ec x->tU c H (gf f) x C z e q->VR H a t b q->b.i=em->G):G:=uq (P9 F w N h) d
theorem Mf{e:eW}{f:Nat}(n:SE d P e):SE d P (.c e f):=kH λ{U U U x U U r} X h {U U U U U} b G=>by
 refine hV h λY j K l=>?_;refine ie l λc I g=>?_;clear h l;subst g;refine fq X λA i=>?_;refine qP b.b.a (wO (m9.mp A).1 _) (n i K b λu s M Q N U=>?_);refine v8 b.b.b Q.b N I λx C z B q L T W a=>?_;exact⟨x,C,z,B,q,L,T.b,T.e,T.g,T.d,T.a,G q s M Q W (by rw[a];nofun)⟩
theorem gN.x:∀{z:List eT} {f:List ed},gN H a t z f->∀{i:Nat} {l:eT},z[i]? =d9 l->∃u,f[i]? =d9 u∧AR H a t l u:=by
 intro z
 induction z with
 |nil=>intro f U i l Z;rw[Kj] at Z;exact nS Z
 |cons v z D=>
  intro f m i l Z;refine fT m λu W c j S=>?_;rw[c];cases i with
  |zero=>exact⟨u,rfl,by obtain rfl:=eX Z;exact j⟩
  |succ i=>exact D S Z
theorem gN.k{z:List eT}{c:List ed}(l:gN H a t z c){i:Nat}{f:eT}(j:z[i]? =d9 f){G:Prop}(m:∀u,c[i]? =d9 u->AR H a t f u->G):G:=eR (l.x j) m
theorem gN.b:∀{z:List eT} {f:List ed},gN H a t z f->f.length=z.length:=by
 intro G
 induction G with
 |nil=>
  intro U c;rw[show _=[] from c];rfl
 |cons U _ D=>
  intro U Z;exact fT Z λu W i c S=>by rw[i,lF,D S];rfl
theorem gN.q:∀(X:List Int),gN H a t (X.map .a) (X.map vi):=by
 intro G
 induction G with
 |nil=>
  exact rfl
 |cons U r D=>
  exact⟨_,_,rfl,rfl,D⟩
theorem gN.h:∀{X:List Int} {A:List ed},gN H a t (X.map .a) A->A=X.map vi:=by
 intro G
 induction G with
 |nil=>
  intro U c;exact c
 |cons U r D=>
  intro U R;exact fT R λu W f c S=>by rw[f,show u=_ from c,D S];rfl
theorem PE{v:eD}{u:ed}{z:List eT}(w:Wd H a t)(N:VR H a t v u)(h:ia t v=d9 z):∃r b,u=ec r∧H r=d9 (.a b)∧gN H a t z b:=by
 cases v with
 |c o q=>
  obtain rfl:=eX h;refine jD N λr b e K I U=>?_;exact⟨r,b,e,K,I⟩
 |f n k=>
  refine gm h λe h=>?_;obtain rfl:=eX h;refine oA N λr O J W U c=>?_;exact⟨r,_,O,by rw[c e];exact((w.b J).b _ W).c,.q _⟩
 |_=>exact nS h
theorem lM{v:eD}{u:ed}{z:List eT}(w:Wd H a t)(N:VR H a t v u)(h:ia t v=d9 z){G:Prop}(c:∀r b,u=ec r->H r=d9 (.a b)->gN H a t z b->G):G:=fT (PE w N h) c
theorem wh:∀{z:List eT} {X:List Int},l5 z=d9 X->z=X.map .a:=by
 intro z
 induction z with
 |nil=>intro X h;obtain rfl:=eX h;rfl
 |cons x r D=>
  intro X h;cases x with
  |a i=>
   refine ie h λm K I=>?_;clear h;subst I;rw[D K];rfl
  |_=>exact nS h
theorem PD{v:eD}{u:ed}{X:List Int}(w:Wd H a t)(N:VR H a t v u)(h:jC t v=d9 X):∃r,u=ec r∧H r=d9 (.a (X.map vi)):=by
 refine fy h λz K I=>?_;refine lM w N K λr A L T W=>?_;rw[wh I] at W;exact⟨r,L,by rw[T,W.h]⟩
theorem sM{v:eD}{u:ed}{X:List Int}(w:Wd H a t)(N:VR H a t v u)(h:jC t v=d9 X){G:Prop}(b:∀r,u=ec r->H r=d9 (.a (X.map vi))->G):G:=eR (PD w N h) b
theorem jJ.s:∀{b:List (Int×eT)} {g:List (Int×ed)},jJ H a t b g->∀{k:Int} {x:eT},b.lookup k=d9 x->∃f,g.lookup k=d9 f∧AR H a t x f:=by
 intro b
 induction b with
 |nil=>intro g U k x z;exact nS z
 |cons p b D=>
  obtain⟨Z,y⟩ :=p;intro g o k x z;refine fT o λf W e h S=>?_;rw[e];rw[iw] at z ⊢;cases q:k==Z with
  |true=>rw[q] at z;obtain rfl:=eX z;exact⟨f,rfl,h⟩
  |false=>rw[q] at z;exact D S z
theorem wv{a:Ad}:∀{l:List Int} {n:Int},n∈l->(l.map λn=>(n,ec (a.b n))).lookup n=d9 (ec (a.b n)):=by
 intro l
 induction l with
 |nil=>intro n h;exact absurd h iI
 |cons m l D=>
  intro n h;rw[gj,iw];by_cases e:n=m
  ·rw[e,beq_self_eq_true]
  ·rw[beq_eq_false_iff_ne.mpr e]
   exact D ((gy.mp h).resolve_left e)
theorem Hy{a:Ad}:∀{l:List Int} {n:Int},n∉l->(l.map λn=>(n,ec (a.b n))).lookup n=none:=by
 intro G
 induction G with
 |nil=>
  intro U U;exact rfl
 |cons m l D=>
  intro n h;rw[gj,iw,beq_eq_false_iff_ne.mpr (λe:n=m=>h (by rw[e];exact gL _))];exact D λq=>h (gu _ q)
theorem G6{d:List ed}{z:List eT}{r:et}{i:Int}{b:eD}{e j:eP}(L:H r=d9 (.a d))(T:gN H a t z d)(h:pi z i=d9 b)(W:qX j){Q:ed->AH->Prop}
  (G:∀q,VR H a t b q->b.i=em->Q q H):qZ c e j (ec r) (vi i) V H Q:=by
 unfold pi at h;by_cases R:0≤i
 ·rw[if_pos R] at h
  refine gm h λO I=>?_;refine ie I λx g y=>?_;clear h I;subst y;refine T.k g λq w o=>?_;exact yp L R (by lia) w (G _ o rfl) W
 ·rw[if_neg R] at h
  refine gm h λO I=>?_;refine ie I λx g y=>?_;clear h I;subst y;rw[←T.b] at g O;refine T.k g λq w o=>?_;exact Oj L (by lia) (by lia) O.1 w (G _ o rfl) W
theorem UB{v i b:eD}{u k:ed}{y j:eP}(w:Wd H a t)(N:VR H a t v u)(R:VR H a t i k)(h:m7 t v i=d9 b)(W:qX j){Q:ed->AH->Prop}
  (G:∀q,VR H a t b q->b.i=em->Q q H):qZ c y j u k V H Q:=by
 refine fy h λg f h=>?_;rw[jS f] at R;have R:k=vi g:=R;subst R;cases v with
 |j=>
  refine gm h λY h=>?_;obtain rfl:=eX h
  (refine fe N λd J=>?_;(clear N;obtain rfl:=d))
  exact Bp (w.b J).c (wv Y) (G _ ⟨rfl,J,(w.b J).f _ Y⟩ rfl) W
 |g m p=>
  refine ie h λx K I=>?_;clear h;clear h;subst I
  (refine jD N λr A M L T U=>?_;(clear N;obtain rfl:=M))
  refine eR (T.s K) λq l o=>?_;exact Bp L l (G _ o rfl) W
 |h=>
  have N:u=_:=N;subst N;have h:(if g=0 then d9 eD.m else if g=1 then d9 (eD.a t.e) else eh)=d9 b:=h;by_cases e:g=0
  ·rw[if_pos e] at h;obtain rfl:=eX h;(clear f R h;subst e)
   exact yp w.c (by decide) (by decide) rfl (G _ rfl rfl) W
  ·rw[if_neg e] at h
   refine gm h λe h=>?_;obtain rfl:=eX h;(clear f R h;clear h;subst e);exact yp w.c (by decide) (by decide) rfl (G _ rfl rfl) W
 |m=>
  have N:u=_:=N;subst N;refine gm h λe h=>?_;refine ie h λx K I=>?_;clear h;clear h;clear h;subst I;exact yp w.d e.1 (by lia) (by rw[lE,K];rfl) (G _ rfl rfl) W
 |b x=>
  refine fy h λas K h=>?_;rw[xd K] at N
  (refine fT N λr A P L T=>?_;(clear N;obtain rfl:=P))
  refine gm h λe h=>?_;refine ie h λx K I=>?_;clear h;clear h;clear h;clear h;subst I;refine T.k K λq l o=>?_;exact Ol L e.1 (by lia) l (G _ o rfl) W
 |c m z=>
  (refine jD N λr A B L T U=>?_;(clear N;obtain rfl:=B))
  exact G6 L T h W G
 |f n k=>
  refine fy h λz K I=>?_
  (refine lM w N K λr A Z L T=>?_;(clear N;obtain rfl:=Z))
  exact G6 L T I W G
theorem Mx{e i:eW}(n:SE d P e)(R:SE d P i):SE d P (.n e i):=kH λ{U U U x U U r} X h {U U U U U} b G=>by
 refine hV h λY o K l=>?_;refine hV l λc S I k=>?_;refine ie k λj g y=>?_;clear h l k;subst y;refine fq X λA f=>?_;refine Bj (n A K b λu O Z Q N U=>R f I (b.e Q) λa v T m z U=>?_);exact UB m.b (N.a m Q.b) z g (jp i _).1 λq C D=>G q _ _ (Q.d m) C (by rw[D];nofun)
theorem gN.g:∀{z l:List eT} {i W:List ed},gN H a t z i->gN H a t l W->gN H a t (z++l) (i++W):=by
 intro G
 induction G with
 |nil=>
  intro U U U f c;rw[show _=[] from f];exact c
 |cons U _ D=>
  intro U U U j c;exact fT j λu W m f S=>by rw[m];exact⟨u,_,rfl,f,D S c⟩
theorem gN.p:∀{z:List eT} {f:List ed},gN H a t z f->gN H a t z.reverse f.reverse:=by
 intro G
 induction G with
 |nil=>
  intro U c;rw[show _=[] from c];rfl
 |cons U _ D=>
  intro U C;exact fT C λu W i c S=>by rw[i,n9,n9];exact(D S).g ⟨u,[],rfl,c,rfl⟩
theorem rA{D:et}{z:List eT}{b:List ed}(w:Wd H a t)(Y:H D=eh)(h:gN H a t z b):VR (eQ H D (.a b)) a t (.c eb z) (ec D):=
 (y9 D b rfl (gA _ _ _) (h.d (.g w Y) w) (A7 w Y) (λU=>A9 w Y))
theorem Mv{e:eW}(n:SE d P e):SE d P (.H e):=kH λ{U U U x U U r} X h {U U U U U} b G=>by
 refine hV h λc a K I=>?_;refine fy I λz y g=>?_;refine gm g λC J=>?_;clear h I g;obtain rfl:=eX J;refine NV (n X K b λu O Z Q N U=>?_)
 (refine lM Q.b N y λr A m L T=>?_;(clear N;(clear U;obtain rfl:=m)))
 refine(eu r rfl (E8 (ym (fQ 1 rfl rfl (fQ A L (by rw[T.b];exact C) (λD Y=>?_))))));exact G _ _ _ (Q.d (.g Q.b Y)) (rA Q.b Y T.p) λU=>(eu D rfl (Q.h Y))
theorem uv{L:Type}{o p:Option L}{b:L}(h:(o<|>p)=d9 b):o=d9 b∨p=d9 b:=by
 cases o with
 |none=>exact eI h
 |some x=>exact eH h
theorem Ha{L:Type}{v u:eD}{f:Int->Int->L}{x:L}(h:sQ v u f=d9 x):∃i b,v=.a i∧u=.a b∧x=f i b:=by
 refine fy h λi K I=>?_;refine ie I λb g y=>?_;exact(fS i b (jS K) (jS g) y.symm)
abbrev vj(a:Ad)(t:eB)(H:AH)(v:eD)(Q:ed->AH->Prop):Prop:=∀u M,fk a t H a t M->VR M a t v u->(v.i=eb->∃r,u=ec r∧H r=eh)->Q u M
theorem gN.y{c:eT}{u:ed}(f:AR H a t c u):∀n,gN H a t (iJ n c) (iJ n u):=by
 intro G
 induction G with
 |zero=>
  exact rfl
 |succ n D=>
  exact(fS u _ rfl f (D))
theorem Qn{o:qG}{i j k:Int}{Q:ed->AH->Prop}(h:Hc o i j=d9 k)(G:Q (vi k) H):nH c o (vi i) (vi j) V H Q:=by
 cases o with
 |Add=>obtain rfl:=eX h;exact Fd G
 |Sub=>obtain rfl:=eX h;exact N8 G
 |Mult=>refine gm h λC h=>?_;obtain rfl:=eX h;exact N6 (Ri C.1 C.2) G
 |Mod=>refine gm h λC h=>?_;obtain rfl:=eX h;exact N5 C G
 |FloorDiv=>refine gm h λC h=>?_;obtain rfl:=eX h;exact N4 C.1 (Rq C.2) G
 |_=>exact nS h
theorem Oy{v u b:eD}{x y:ed}{Q:ed->AH->Prop}(w:Wd H a t)(N:VR H a t v x)(R:VR H a t u y)(h:Fx v u=d9 b)(G:vj a t H b Q):nH c io x y V H Q:=by
 refine fy h λz K l=>?_;refine fy l λq g s=>?_;refine gm s λC e=>?_;clear h l s;obtain rfl:=eX e
 (refine fL (Cu K) λU O=>?_;(clear K;obtain rfl:=O))
 (refine fL (Cu g) λU m=>?_;(clear g;obtain rfl:=m))
 (refine jD N λr A d L T U=>?_;(clear N;obtain rfl:=d))
 (refine jD R λf i M W P U=>?_;(clear R;obtain rfl:=M))
 exact N3 L W (by rw[T.b,P.b];exact C) λD Y=>G _ _ (.g w Y) (rA w Y (T.g P)) λU=>(eu D rfl Y)
theorem Rh{v u b:eD}{x y:ed}{Q:ed->AH->Prop}(w:Wd H a t)(N:VR H a t v x)(R:VR H a t u y)(h:HH v u=d9 b)(G:vj a t H b Q):nH c jb x y V H Q:=by
 refine fy h λz K l=>?_;refine fy l λn I k=>?_;refine fy k λi g s=>?_;refine gm s λC M=>?_;clear h l k s;obtain rfl:=eX M
 (refine fL (Cu K) λU P=>?_;(clear K;obtain rfl:=P))
 rw[jS I] at R
 (refine jD N λr A B L T U=>?_;(clear N;obtain rfl:=B))
 have J:z=[i]:=by
  cases z with
  |nil=>exact nS g
  |cons j r=>(clear T;obtain rfl:=eX g);rw[oK.mp (ny C.1)]
 clear g;subst J;refine fT T λO f e W d=>?_;rw[show f=[] from d] at e;clear T;subst e;rw[show y=vi n from R];exact N7 L C.2.1 C.2.2 λD Y=>G _ _ (.g w Y) (rA w Y (.y W _)) λU=>(eu D rfl Y)
theorem O4{o:qG}{v u b:eD}{x y:ed}{Q:ed->AH->Prop}(w:Wd H a t)(N:VR H a t v x)(R:VR H a t u y)(h:ri o v u=d9 b)(G:vj a t H b Q):nH c o x y V H Q:=by
 rcases uv h with h|h
 ·refine fy h λi K l=>?_
  refine fy l λj I k=>?_;refine ie k λd g s=>?_;rw[jS K] at N;rw[jS I] at R;rw[show x=vi i from N,show y=vi j from R];exact Qn g (G _ _ (.e w) (by rw[←s];exact rfl) (by rw[←s];nofun))
 ·cases o with
  |Add=>exact Oy w N R h G
  |Mult=>exact Rh w N R h G
  |_=>exact nS h
theorem Mh{o:qG}{a r:eW}(C:SE d P a)(R:SE d P r):SE d P (.p o a r):=kH λ{U U U x U U r} X h {U U U U U} b G=>by
 refine hV h λY w K l=>?_;refine hV l λc S I k=>?_;refine ie k λj g s=>?_;clear k
 first|(clear h l;subst s)|obtain rfl:=eX s|cases s
 refine fq X λA f=>?_;exact E2 (C A K b λu p Z Q N U=>R f I (b.e Q) λt v T m z U=>O4 m.b (N.a m Q.b) z g λq L V n D=>G q _ _ ((Q.d m).d V) n λe=>by
  refine eR (D e) λr O i=>?_;exact(eu r O ((Q.d m).h i)))
theorem EM{e:eW}(n:SE d P e):SE d P (.K e):=kH λ{U U U x U U r} X h {U U U U U} b G=>by
 refine hV h λY a K l=>?_;refine ie l λi I k=>?_;clear h l;subst k;refine E8 (n X K b λu O Z Q N U=>(eu i ?_ (G _ _ _ Q rfl (λh=>nB h))));rw[jS I] at N;exact N
mutual
theorem CQ:∀{x:eT} {u:ed} {q:mm},AR H a t x u->pd x=d9 q->Rd H u q∧q.canLay0=eb
 |.e,_,_,h,e=>by obtain rfl:=eX e;rw[show _=ez from h];exact⟨.e,rfl⟩
 |.g b,_,_,h,e=>by obtain rfl:=eX e;rw[show _=fF b from h];exact⟨.g b,rfl⟩
 |.a i,_,_,h,e=>by obtain rfl:=eX e;rw[show _=vi i from h];exact⟨.d i,rfl⟩
 |.h _,_,_,_,e=>nomatch e
 |.c,_,_,_,e=>nomatch e
 |.d _,_,_,_,e=>nomatch e
 |.f as,_,_,L,e=>fT L λr c O h S=>by
  refine ie (o:=kN as) e λj K I=>?_;clear e;subst I;rw[O];exact⟨.f h (ux S K).1,(ux S K).2⟩
theorem ux:∀{x:List eT} {u:List ed} {q:List mm},gN H a t x u->kN x=d9 q->p8 H u q∧D8 q=eb
 |[],_,_,h,e=>by obtain rfl:=eX e;rw[show _=[] from h];exact⟨.a,rfl⟩
 |x::z,_,_,Z,e=>fT Z λu W O h S=>by
  refine fy (o:=pd x) e λq K I=>?_;refine ie I λj g y=>?_;clear e I;subst y;rw[O];exact⟨.b (CQ h K).1 (ux S g).1,by show(_&&_)=eb;rw[(CQ h K).2,(ux S g).2];rfl⟩
end
theorem Ih{v:eD}{u:ed}{q:mm}(w:Wd H a t)(N:VR H a t v u)(h:CP t v=d9 q):Rd H u q∧q.canLay0=true:=by
 have S:((ia t v).bind kN).map ty=d9 q->Rd H u q∧q.canLay0=true:=λh=>by
  refine ie h λj K I=>?_;clear h;clear h;subst I;refine fy K λz g y=>?_
  (refine lM w N g λr A Z L T=>?_;(clear N;obtain rfl:=Z))
  exact⟨.a L (ux T y).1,(ux T y).2⟩
 cases v with
 |b x=>exact CQ N h
 |_=>exact S h
theorem GC{z:oN}{v u:eD}{x y:ed}{r:Bool}{k:Nat}{Q:Bool->AH->Prop}(l:Lv c k)(w:Wd H a t)(N:VR H a t v x)(R:VR H a t u y)(h:yT t v u=d9 r):
  (z=fZ->Q r H->jQ c z x y V H Q)∧(z=gd->Q (!r) H->jQ c z x y V H Q):=by
 rcases uv h with h|h
 ·(refine fT (Ha h) λi j m d e=>?_;(clear h;clear h;obtain rfl:=m);obtain rfl:=d)
  rw[show x=vi i from N,show y=vi j from R,e];exact⟨λe h=>e▸Nw h,λe h=>e▸NH (by simpa using h)⟩
 ·rcases uv h with h|h
  ·refine fy h λX K h=>?_
   refine ie h λF I h=>?_;subst h
   (refine sM w N K λp Y L=>?_;(clear N;obtain rfl:=Y))
   (refine sM w R I λq b T=>?_;(clear R;obtain rfl:=b))
   exact⟨λe h=>e▸Nx l L T h,λe h=>e▸NI l L T (by simpa using h)⟩
  ·refine fy h λp K h=>?_
   refine fy h λq I h=>?_;refine gm h λC h=>?_;obtain rfl:=eX h;refine fe (Ih w N K) λL T=>?_;refine fe (Ih w R I) λW P=>?_;have f:c.b.units+min p.depth q.depth<9900:=by have:=l.a;lia
   exact⟨λe h=>e▸E0 L W T P f h,λe h=>e▸E1 L W T P f h⟩
theorem Hg{v:eD}{x:ed}(N:VR H a t v x):(x==ez)=v.r:=by
 have r:∀{r:et},x=ec r->(x==ez)=false:=λe=>by rw[e];rfl
 cases v with
 |b y=>cases y with
  |e=>rw[show x=ez from N];rfl
  |g b=>rw[show x=fF b from N];rfl
  |a i=>rw[show x=vi i from N];rfl
  |h s=>rw[show x=eC _ 0 from N];rfl
  |c=>exact r N.1
  |d n=>exact r N.1
  |f as=>refine iH N λU U e U=>?_;exact r e
 |c=>refine iH N λU U e U=>?_;exact r e
 |g=>refine iH N λU U e U=>?_;exact r e
 |j=>exact r N.1
 |f=>refine eR N λU e U=>?_;exact r e
 |h=>exact r N
 |m=>exact r N
theorem Hf{v:eD}(h:v.r=eb):v=.b .e:=by
 cases v with
 |b y=>cases y with
  |e=>rfl
  |_=>exact nB h
 |_=>exact nB h
theorem G7{z:oN}{v u:eD}{x y:ed}{r:Bool}{Q:Bool->AH->Prop}(w:Wd H a t)(N:VR H a t v x)(R:VR H a t u y)(h:Cg t v u=d9 r):
  (z=og->Q r H->jQ c z x y V H Q)∧(z=xF->Q (!r) H->jQ c z x y V H Q):=by
 refine fy h λi K h=>?_;rw[jS K] at N;have N:x=vi i:=N;subst N;by_cases E:u.s=eb
 ·rw[if_pos E] at h
  rw[Dp E] at R
  (refine fe R λq J=>?_;(clear R;obtain rfl:=q))
  have S:((t.b.map λn=>(n,ec (a.b n))).lookup i).isSome=r:=by
   obtain rfl:=eX h;by_cases Y:i∈t.b
   ·rw[wv Y,decide_eq_true Y];rfl
   ·rw[Hy Y,decide_eq_false Y];rfl
  exact⟨λe h=>e▸NA (w.b J).c (beq_eq_false_iff_ne.mp (w.b J).h) (S▸h),λe h=>e▸NJ (w.b J).c (beq_eq_false_iff_ne.mp (w.b J).h) (S▸h)⟩
 ·rw[if_neg E] at h
  (refine ie h λX I O=>?_;(clear h;clear h;obtain rfl:=O))
  (refine sM w R I λp j L=>?_;(clear R;obtain rfl:=j))
  refine⟨λe h=>e▸NB L h,λe h=>e▸?_⟩;intro b s v u S N R
  (refine ik N λk o=>?_;(clear N;obtain rfl:=o));obtain rfl:=gX R
  refine S.b.e L λF n W P=>?_;refine XT (vs:=F.toList) (ns:=X) (by simpa using iU W) (zc P) (fS _ H rfl S ?_);rwa [show X.any (·==i)=eU (i∈X) from by rw[As];simp[Ay]]
theorem Pj{z:oN}{v u:eD}{x y:ed}{r:Bool}{k:Nat}{Q:Bool->AH->Prop}(l:Lv c k)(w:Wd H a t)(N:VR H a t v x)(R:VR H a t u y)(h:mS t z v u=d9 r)(G:Q r H):jQ c z x y V H Q:=by
 have C:∀{f:Int->Int->Bool},sQ v u f=d9 r->∃i j,x=vi i∧y=vi j∧Q (f i j) H:=λe=>by
  clear h;obtain⟨i,j,rfl,rfl,m⟩ :=Ha e;exact(fS i j N R (m▸G))
 cases z with
 |Eq=>exact(GC l w N R h).1 rfl G
 |NotEq=>(refine ie h λn K O=>?_;(clear C h;obtain rfl:=O));exact(GC l w N R K).2 rfl G
 |Lt=>(refine fT (C h) λi j m d e=>?_;(clear N C;obtain rfl:=m);(clear R;obtain rfl:=d));exact NG e
 |LtE=>(refine fT (C h) λi j M P e=>?_;(clear N C;obtain rfl:=M);(clear R;obtain rfl:=P));exact NF e
 |Gt=>(refine fT (C h) λi j B Z e=>?_;(clear N C;obtain rfl:=B);(clear R;obtain rfl:=Z));exact Nz e
 |GtE=>(refine fT (C h) λi j b g e=>?_;(clear N C;obtain rfl:=b);(clear R;obtain rfl:=g));exact Ny e
 |Is=>
  refine gm h λK I=>?_;clear C h;obtain rfl:=eX I;rw[Hf K] at R;rw[show y=ez from R];exact NE (Hg N▸G)
 |IsNot=>
  refine gm h λK I=>?_;clear C h;obtain rfl:=eX I;rw[Hf K] at R;rw[show y=ez from R];exact NC (Hg N▸G)
 |In=>exact(G7 w N R h).1 rfl G
 |NotIn=>(refine ie h λn K Y=>?_;(clear C h;obtain rfl:=Y));exact(G7 w N R K).2 rfl G
theorem Gh{o:oN}{l r:eW}(C:SE d P l)(R:SE d P r){x:eP}{F:Fr}{v:eD}(X:(eW.h o l r).y j Y em x=eb)(h:(eW.h o l r).q d t F=d9 (v,D))(b:Bd d P j Y c B F a t V H):
  ∃L,v=.d L∧∀{e:Bool->AH->Prop},(∀s M,fk a t H s D M->e L M)->TE c (l.u (x1 x)) V H λp Z=>TE c (r.u (x2 x)) V Z λq T=>jQ c o p q V T e:=by
 refine hV h λv1 t1 K i=>?_;refine hV i λv2 S I k=>?_;refine ie k λL g w=>?_;clear h i k;cases w;refine fq X λA f=>?_;refine eR b.b.l λn y U=>?_;exact(eu L rfl (λG=>C A K b λu O Z Q N U=>R f I (b.e Q) λW J T m z U=>Pj y m.b (N.a m Q.b) z g (G _ _ (Q.d m))))
theorem Mk{o:oN}{l r:eW}(C:SE d P l)(R:SE d P r):SE d P (.h o l r):=λ{U U U x U U U U} X h {U U U U U} b G=>by
 (refine eR (Gh C R X h b) λL f g=>?_;(clear h;obtain rfl:=f))
 exact NO (g λs M p=>G _ _ _ p rfl (λh=>nB h)) ((jp r _).2.2.1 o)
theorem Md{o:oN}{l r:eW}(C:SE d P l)(R:SE d P r):SB d P (.h o l r):=λ{U U U x U U U U} X h {U U U U U} b G=>by
 refine eR (Gh C R X h b) λL e g=>?_;cases e;exact M' (g λs M p=>G _ _ p) ((jp r _).2.2.1 o)
theorem Me{e:eW}(n:SB d P e):SB d P (.M e):=λ{U U U x U U U U} X h {U U U U U} b G=>by
 refine hV h λY a K l=>?_;refine ie l λi I k=>?_;clear h l;cases k;rw[sG I] at K;exact Na (n X K b λs M p=>G _ _ p)
theorem EL{e:eW}(n:SE d P e)(a:∀j Y x,e.y j Y eb x=eb->e.y j Y em x=eb)(J:∀x,PT (e.u x)):SB d P e:=λ{U U U x U U U U} X h {U U U U U} b G=>
 Nb (n (a _ _ _ X) h b λu s M p N U=>(eu _ N (G _ _ p))) (J _)
def SA(d:ir)(P:iE)(w:Es):Prop:=∀{j Y c z t F r D},w.f j Y eb z=eb->∀{B a V H},Bd d P j Y c B F a t V H->
 ∀{Q:Bool->AH->Prop},(∀s M,fk a t H s D M->Q r M)->(w.d d t F=d9 (r,D)->qc c oM (w.c z) V H Q)∧(w.h d t F=d9 (r,D)->qc c jw (w.c z) V H Q)
theorem Mb:SA d P .b:=λ{U U U U U U U U} U {U U U U} b {U} G=>⟨λh=>by cases h;exact M5 (G _ _ (.e b.f)),λh=>by cases h;exact M7 (G _ _ (.e b.f))⟩
theorem Ma{e:eW}{w:Es}(n:SB d P e)(S:SA d P w):SA d P (.a e w):=λ{U U U U U U U U} X {U U U U} b {Q} G=>by
 refine fq X λA f=>?_
 constructor
 ·intro h
  refine hV h λY a K l=>?_;refine fy l λi I k=>?_;rw[sG I] at K;refine M6 (n A K b λs M p=>?_);cases i with
  |true=>exact(S f (b.e p) λv T q=>G v T (p.d q)).1 k
  |false=>(clear h l K;cases k);exact G _ _ p
 ·intro h
  refine hV h λY a K l=>?_;refine fy l λi I k=>?_;rw[sG I] at K;refine M8 (n A K b λs M p=>?_);cases i with
  |false=>exact(S f (b.e p) λv T q=>G v T (p.d q)).2 k
  |true=>(clear h l K;cases k);exact G _ _ p
theorem Mc{o:BoolOp}{w:Es}(S:SA d P w):SB d P (.D o w):=λ{U U U x U U U U} X h {U U U U U} b G=>by
 cases o with
 |And=>
  refine ou h λr E K l=>?_;cases l;exact ET ((S X b G).1 K)
 |Or=>
  refine ou h λr E K l=>?_;cases l;exact ET ((S X b G).2 K)
theorem Mp{q e o:eW}(j:SB d P q)(n:SE d P e)(D:SE d P o):SE d P (.C q e o):=kH λ{U U U x U U r} X h {U U U U U} b G=>by
 refine hV h λY g K l=>?_;refine fy l λi I k=>?_;rw[sG I] at K;refine fq X λA f=>?_;refine fq A λC c=>?_;refine NR (j C K b λs M p=>?_);have O:nG s g M _ _ _:=λu v T q N D=>G u v T (p.d q) N λe=>by
  refine eR (D e) λr a m=>?_;exact(eu r a (p.h m))
 cases i with
 |true=>exact n c k (b.e p) O
 |false=>exact D f k (b.e p) O
theorem mF:∀(w:Es) (z:List eP),iQ (w.c z)=eb
 |.b,_=>rfl
 |.a e w,z=>by
  have K:=(jp e (z.headD fU)).2.1;have I:=mF w z.tail;show iQ (e.u (z.headD fU)::w.c z.tail)=eb;revert K;generalize e.u (z.headD fU)=y;intro K;cases y<;>first|exact I|exact nB K
theorem Hv:∀(w:Es) (z:List eP),(w.c z).length=w.i
 |.b,_=>rfl
 |.a e w,z=>congrArg (·+1) (Hv w z.tail)
theorem MB:qa d P .b:=EN λ{U U U U U U r} U h {U U U U U} b G=>by
 obtain rfl:=eX h;exact kA (G _ _ _ (.e b.f) rfl trivial)
theorem rW.b{s:Ad}(p:fk a t H s D M):∀{J:List eD} {A:List ed},rW M J A->rW H J A
 |[],_,_=>trivial
 |_::_,[],_=>trivial
 |_::_,_::_,L=>fe L λh S=>⟨λe=>(h e).imp λr w=>fe w λO m=>⟨O,p.h m⟩,rW.b p S⟩
theorem MA{e:eW}{w:Es}(n:SE d P e)(S:qa d P w):qa d P (.a e w):=EN λ{U U U U U U r} X h {U U U U U} b G=>by
 refine hV h λY g K l=>?_;refine ou l λJ i I a=>?_;clear h l;subst a;refine fq X λA f=>?_;exact jk (n A K b λu O Z Q N D=>S f I (b.e Q) λc v T m p k=>G _ _ _ (Q.d m) (fS u c rfl (N.a m Q.b) p) ⟨D,k.b Q⟩) λB=>(jp e _).2.2.2.1 B _
theorem yH:∀{J:List eD} {as:List eT} {b:List ed},rd J=d9 as->jd H a t J b->gN H a t as b:=by
 intro G
 induction G with
 |nil=>
  intro U U h g;obtain rfl:=eX h;exact g
 |cons v J D=>
  intro U U h Z;refine fT Z λu W e g O=>?_;refine fy h λx K l=>?_;refine ie l λz I k=>?_;clear h l;subst k;rw[yG K] at g;exact(fS u W e g (D I O))
theorem Ms{w:Es}(S:qa d P w):SE d P (.z w):=kH λ{U U U x U U r} X h {U U U U U} b G=>by
 refine hV h λJ E K l=>?_;refine fy l λas I k=>?_;refine gm k λC s=>?_;clear h l k;obtain rfl:=eX s;exact Bi (S X K b λA O Z Q N U=>⟨by rw[(yH I N).b,nz];lia,λD Y=>G _ _ _ (Q.d (.g Q.b Y)) (rA Q.b Y (yH I N)) λU=>(eu D rfl (Q.h Y))⟩)
theorem My{w:Es}(S:qa d P w):SE d P (.A w):=kH λ{U U U x U U r} X h {U U U U U} b G=>by
 refine hV h λJ E K l=>?_;refine fy l λas I k=>?_;refine gm k λC s=>?_;clear h l k;obtain rfl:=eX s;exact Bk (S X K b λA O Z Q N U=>⟨by rw[(yH I N).b,nz];lia,λD Y=>G _ _ _ (Q.d (.g Q.b Y)) (fS D A rfl (gA _ _ _) ((yH I N).d (.g Q.b Y) Q.b)) (λh=>nB h)⟩)
theorem jd.e:∀{J:List eD} {A:List ed},jd H a t J A->jd H a t (J.map eD.e) A
 |[],_,h=>h
 |_::_,_,L=>fT L λu W c h S=>⟨u,W,c,h.f,S.e⟩
theorem nG.b{s:Ad}{E S:eB}{v:eD}{Q:ed->AH->Prop}(G:nG a t H v S Q)(p:fk a t H s E M):nG s E M v S Q:=λu d c q N D=>
 G u d c (p.d q) N λf=>(D f).imp λr w=>fe w λO m=>⟨O,p.h m⟩
theorem NN{x:String}{f:et}{r d:fE}{w:List eP}{Q:ed->AH->Prop}(F:c.e=KK P)(O:c.d)(Z:c.a.kindOf (eE x)=d9 eY)
  (e:jg (KK P) ky (eE x)=d9 (d9 (ec f))) (z:tz (KK P) (ec f)=eb) (W:iQ w=eb) (p:(eE x==("__debug__":ft))=em)
  (h:TA c w V H (λJ M=>lL c (ec f) J V M Q)):TE c (jr (gk (eE x) r) w [] d) V H Q:=
 tQ (f:=ec f) O W (tS (v:=ec f) F O Z e ⟨rfl,rfl,λu R=>gX R,u9 (F▸z),λE s g S=>fc (h E s g S) (λJ i o=>eR o λM a b=>⟨M,a,yl b⟩) λU U x=>x⟩ p)
theorem Mj{g:Nat}{w:Es}(S:qa d P w):SE d P (.j g w):=kH λ{U U U x U U r} X h {U U U U U} b G=>by
 refine hV h λJ E K I=>?_;refine fq X λA f=>?_;refine fq A λC e=>?_;refine fe (GN (P:=P) (of_decide_eq_true e)) λL T=>?_;refine eR b.b.l λn l W=>?_;exact NN b.b.b b.b.a (j8 b.b C) L T (mF _ _) (ju g) (S f K b λa O Z Q p U=>
  W _ b.b.b b.b.a l b.b.f _ _ _ _ _ I _ _ _ _ _ Q.b (b.e Q).g.b p.e (G.b Q))
theorem J7{X:List String}{J:List ed}{x:String}(h:x∉X):(X.zip J).lookup x=none:=by
 rw(occs:=eO) [Wr];intro p a;have:=(rG (show(p.1,p.2)∈X.zip J from a)).1;rw(occs:=eO) [bne_iff_ne];exactλe=>h (e▸this)
theorem HR{m:Nat}(h:23≤m∧m<34):gf m∉lN.take 16∧gf m∉(lN.drop 16).take 7:=by
 have:((tq 23 11).all λm=>!((lN.take 16).contains (gf m))&&!(((lN.drop 16).take 7).contains (gf m)))=true:=by decide+kernel
 have:=iC.mp this m (AB.mpr (by omega));simpa using this
theorem Q9(F:c.e=KK P){m:Nat}{v:eD}{u:ed}(w:Wd H a t)(N:VR H a t v u)(h:zy m v=eb)(Y:23≤m∧m<34):
  ∃x C z b,u=ec x∧H x=d9 (.h C z)∧H z=d9 (.b b)∧b.lookup (gf m)=eh∧yr c C (gf m) (i6 (1000+m))∧v.e=v:=by
 unfold zy at h
 split at h
 ·refine wi h λn W=>?_
  clear h;cases xi W
  (refine gY N λO J g=>?_;(clear N;obtain rfl:=O))
  have E:=(w.b J).b n g;exact(we _ 93 _ _ rfl E.d E.b (J7 (HR Y).1) ⟨(HD F (iC.mp (Q7 (P:=P)) m (AB.mpr (by lia)))),rfl⟩)
 ·cases Ae h
  (refine fe N λd J=>?_;(clear N;obtain rfl:=d))
  exact(we _ 164 _ _ rfl ((w.b J).e) ((w.b J).d) (J7 (HR Y).2) ⟨(HD F (iC.mp (Q6 (P:=P)) m (AB.mpr (by lia)))),rfl⟩)
theorem Mt{o:eW}{s:Nat}{w:Es}(D:SE d P o)(S:qa d P w):SE d P (.v o s w):=kH λ{U U U x U U r} X h {U U U U U} b G=>by
 refine hV h λv1 t1 K l=>?_;refine hV l λJ t2 I k=>?_;refine gm k λY g=>?_;refine fq X λA f=>?_;refine fq A λc n=>?_;refine fq c λj R=>?_;refine fq j λi t=>?_;have t:=of_decide_eq_true t;have R:=of_decide_eq_true R;refine fq f λM e=>?_;refine eR b.b.l λV q F=>?_;refine NS b.b.a (wO i _) (mF _ _) (by rw[Hv];exact R) n (D M K b λu O Z Q N U=>?_);clear U;obtain⟨y,C,z,B,rfl,L,T,W,a,_⟩ :=Q9 b.b.b Q.b N Y t;exact⟨y,C,z,B,_,rfl,L,T,W,a,(S e I (b.e Q) λus v H m p U=>yl
  (F _ b.b.b b.b.a q b.b.f _ _ _ _ _ g _ _ _ _ _ m.b ((b.e Q).e m).g.b (fS _ _ rfl (N.a m Q.b) p.e) (G.b (Q.d m))))⟩
theorem OY:((AE 9).all λg=>g==4||match mR g with|iP _=>eb|eK _=>eb|_=>em)=true:=rfl
theorem OZ{g:Nat}(A:g<9)(y:g≠4):nv (mR g)=mR g∧(∀u,nv u=mR g->u=mR g)∧nF c (mR g):=by
 have h:=(Du.mp (iC.mp OY g (AA.mpr A))).resolve_left λe=>y (beq_iff_eq.mp e);revert h;generalize mR g=v;intro h;cases v with
 |builtin=>exact⟨rfl,λU=>HY,.a⟩
 |type=>exact⟨rfl,λU=>zD,.b⟩
 |_=>exact nB h
theorem NM{g:Nat}{p n:fE}{y:eP}{Q:ed->AH->Prop}(b:Bd d P j Y c B F a t V H)(X:jT Y g eY=eb)(A:g<9)(f:g≠4)(l:iQ [y]=eb)(S:∀e,kz [y] e=(em,jc y e)::kz [] e)
  (h:TE c y V H λu Z=>TC c (mR g) [u] V Z Q):TE c (jr (gk (eE (nm g)) p) [y] [] n) V H Q:=by
 refine yL (P:=P) A f λO m i=>?_;have W:=OZ (c:=c) A f;refine tQ (f:=mR g) b.b.a l (rT b.b.a (j8 b.b X) (b.b.b▸O) m i ?_ (ju g));exact⟨W.1,W.1,W.2.1,W.2.2,jk (h.a λu Z k=>kA k) S⟩
theorem HC:∀{X:List Int},X≠[]->kM X∈X∧∀x∈X,x≤kM X
 |[],h=>absurd rfl h
 |[x],_=>⟨gL _,λy B=>by rw[gR.mp B];exact ja _⟩
 |x::y::r,_=>by
  refine fe (HC (X:=y::r) (λh=>wF h)) λK I=>?_;show max x (kM (y::r))∈x::y::r∧∀z∈x::y::r,z≤max x (kM (y::r))
  constructor
  ·rcases V4 x (kM (y::r)) with h|h
   ·rw[Int.max_eq_right h];exact gu _ K
   ·rw[Int.max_eq_left h];exact gL _
  ·intro z f
   rcases gy.mp f with rfl|f
   ·exact Int.le_max_left _ _
   ·exact jX (I z f) (Int.le_max_right _ _)
noncomputable abbrev Uv(X:List Int):List Int:=X.mergeSort λa b=>eU (a≤b)
theorem Uw{X F:List Int}(h:F.Perm X)(S:F.Pairwise (·≤·)):F=Uv X:=by
 refine V9 (le:=(·≤·)) (λa b U U=>Kb) S ?_ (h.trans (AC X _).symm);refine(Wy (λa b c K I=>?_) (λa b=>?_) X).imp λh=>by simpa using h
 ·simp only[decide_eq_true_eq] at*;lia
 ·simp only[J9,decide_eq_true_eq];lia
theorem QP{v:eD}{u:ed}{n:Nat}(w:Wd H a t)(N:VR H a t v u)(h:zu t v=d9 n):∃r A,u=ec r∧H r=d9 (.a A)∧A.length=n:=by
 have S:(ia t v).map qz=d9 n->∃r A,u=ec r∧H r=d9 (.a A)∧A.length=n:=λh=>by
  (refine ie h λz K d=>?_;(clear h;clear h;obtain rfl:=d))
  (refine lM w N K λr A M L T=>?_;(clear N;obtain rfl:=M))
  exact(fS r A rfl L T.b)
 cases v with
 |m=>
  clear S;obtain rfl:=eX h;rw[show u=ec a.j from N];exact(fS _ _ rfl w.d (by simp))
 |_=>exact S h
theorem OX{g:Nat}{v b:eD}{u:ed}{Q:ed->AH->Prop}{j:Bool}(y:j=eb->c.b.handled=eh)(w:Wd H a t)(N:VR H a t v u)(h:oZ j t g v=d9 b)(G:vj a t H b Q):TC c (mR g) [u] V H Q:=by
 unfold oZ at h
 split at h
 ·refine fy h λn K l=>?_
  refine gm l λC k=>?_;clear h l;obtain rfl:=eX k
  (refine fT (QP w N K) λr A P L B=>?_;(clear N;obtain rfl:=P);(clear K;obtain rfl:=B))
  exact Nk L C (G _ _ (.e w) rfl (λh=>nB h))
 ·refine fy h λX K l=>?_
  refine gm l λC k=>?_;clear h l;obtain rfl:=eX k
  (refine sM w N K λr Z L=>?_;(clear N;obtain rfl:=Z))
  exact Nr (y C) L (G _ _ (.e w) rfl (λh=>nB h))
 ·refine fy h λX K l=>?_
  refine gm l λC k=>?_;clear h l;obtain rfl:=eX k
  (refine sM w N K λr m L=>?_;(clear N;obtain rfl:=m))
  refine fe (HC C.2) λi S=>?_;refine Nm (y C.1) L (DM i) λM e o=>?_;rw[Kb (S M e) (o _ i)];exact G _ _ (.e w) rfl (λh=>nB h)
 ·refine fy h λX K l=>?_
  refine gm l λC k=>?_;clear h l;obtain rfl:=eX k;have O:∀(D:et) (F:List Int),F.Perm X->F.Pairwise (·≤·)->H D=eh->Q (ec D) (eQ H D (.a (F.map vi))):=λD F e o Y=>by
   rw[Uw e o];exact G _ _ (.g w Y) (rA w Y (.q _)) λU=>(eu D rfl Y)
  by_cases E:v.s=eb
  ·unfold Ck at K
   rw[if_pos E] at K;refine gm K λR I=>?_;clear G K;obtain rfl:=eX I;rw[Dp E] at N
   (refine fe N λd J=>?_;(clear N;obtain rfl:=d))
   refine Np (y R) (w.b J).c (w.b J).h (by rw[fC];exact C) λD F e o Y=>O D F ?_ o Y;simpa [gJ,J'] using e
  ·unfold Ck at K
   rw[if_neg E] at K
   (refine sM w N K λr p L=>?_;(clear N;obtain rfl:=p))
   exact Nq L C O
 ·refine fy h λz K l=>?_
  refine gm l λC k=>?_;clear h l;obtain rfl:=eX k
  (refine lM w N K λr A f L T=>?_;(clear N;obtain rfl:=f))
  exact Nt L (by rw[T.b];exact C) λD Y=>G _ _ (.g w Y) (fS D A rfl (gA _ _ _) (T.d (.g w Y) w)) (λh=>nB h)
 ·refine fy h λz K l=>?_
  refine gm l λC k=>?_;clear h l;obtain rfl:=eX k
  (refine lM w N K λr A q L T=>?_;(clear N;obtain rfl:=q))
  exact Nl L (by rw[T.b];exact C) λD Y=>G _ _ (.g w Y) (rA w Y T) λU=>(eu D rfl Y)
 ·exact nS h
theorem nG.e{s:Ad}{E:eB}{v:eD}{Q:ed->AH->Prop}(G:nG a t H v E Q)(p:fk a t H s E M):vj s E M v Q:=λu c q N D=>G.b p u s c q N D
theorem Mg{g:Nat}{e:eW}(n:SE d P e):SE d P (.x g e):=kH λ{U U U x U U r} X h {U U U U U} b G=>by
 refine hV h λY j K l=>?_;refine ie l λc I k=>?_;clear l
 first|(clear h;subst k)|obtain rfl:=eX k|cases k
 refine fq X λA f=>?_;refine fq A λC a=>?_;have i:=of_decide_eq_true a;exact NM b C (by omega) i.2 (jp e _).2.1 (λB=>(jp e _).2.2.2.1 B []) (n f K b λu O Z Q N U=>OX b.b.f Q.b N I (G.e Q))
theorem Mq{o k:eW}(D:SE d P o)(z:SE d P k):SE d P (.J o k):=kH λ{U U U x U U r} X h {U U U U U} b G=>by
 refine hV h λY t1 K T=>?_;refine fy T λxs w l=>?_;refine hV l λc S I a=>?_;refine fy a λp g s=>?_;refine fy s λW y M=>?_;refine gm M λC F=>?_;clear h T l a s M;obtain rfl:=eX F;refine fq X λA f=>?_;refine fq A λi t=>?_;refine fq f λR n=>?_;refine qQ b.b.a (wO i _) (jp k _).2.1 (by simp) t xL W8 PySem.F.type_list_index (D R K b λu V Z Q N U=>?_)
 (refine lM Q.b N w λr us O L U=>?_;obtain rfl:=O)
 exact(kK r _ rfl L ut (jk (z n I (b.e Q) λq v J m H U=>by
  refine sM m.b (N.a m Q.b) y λr' e j=>?_;cases e;rw[jS g] at H;rw[show q=vi p from H];exact kA (Ni j C.1 C.2 (G _ _ _ (Q.d m) rfl (λh=>nB h)))) λB=>(jp k _).2.2.2.1 B []))
theorem Ig{c:Cx}{P:List (Int×ed)}:∀X,OR c.l c.k (.e P) X->X.cls=eK "dict"∧X.dict=none:=by
 rintro X ⟨a,⟨w,B,⟨K,I,_⟩,_⟩,_⟩;exact⟨K,I⟩
theorem Mm{o k:eW}(D:SE d P o)(z:SE d P k):SE d P (.L o k):=λ{U U U x U U U S} X h {U U U U U} b G=>by
 refine hV h λM C K l=>?_;refine hV l λc S I a=>?_;refine fy a λi g s=>?_;refine gm s λq r=>?_;clear h l a s;cases r;refine fq X λA f=>?_;refine fq A λe t=>?_;refine fq f λR n=>?_;have p:iQ [k.u ((xl x).headD fU),oP .none (xk ((xl x).tail.headD fU)) ((xl x).tail.headD fU).pos]=true:=mF (.a k (.a .F .b)) (xl x);refine qQ b.b.a (wO e _) p (by simp) t W3 W4 PySem.F.type_dict_get (D R K b λL O Z Q N U=>?_);rw[Dp q] at N
 (refine fe N λj J=>?_;(clear N;(clear U;obtain rfl:=j)))
 refine(kK _ _ rfl ((Q.b.b J).c) ?_ (jk (z n I (b.e Q) λy v T m H U=>?_) λB=>(jp k _).2.2.2.1 B _))
 ·exact Ig
 ·rw[jS g] at H
  rw[show y=vi i from H];refine jk (E9 (kA ?_)) λB=>rfl;refine i8 (m.c J) λw U u U=>?_;rw[←u];have F:=m.b.b w;refine Nf F.c F.h (G _ _ _ (Q.d m) ?_ (λh=>nB h));by_cases Y:i∈S.b
  ·rw[wv Y,if_pos Y];exact⟨rfl,w,F.f i Y⟩
  ·rw[Hy Y,if_neg Y];exact rfl
theorem CK:∀(m:List Nat) (z:List eP),iQ (jU m z)=true:=by
 intro G
 induction G with
 |nil=>
  intro U;exact rfl
 |cons U m D=>
  intro z;exact D z.tail
theorem EQ:∀{N:List Nat} {z:List eP} {A:List ed} {V:eJ} {H:AH} {Q:eJ->AH->Prop},c.d->(∀x∈N.map nm,c.a.kindOf (eE x)=d9 ey)->A.length=(jU N z).length->Q (mD V (N.map nm) A) H->oX c (jU N z) A V H Q:=by
 intro N
 induction N with
 |nil=>
  intro z A V H Q U U R h;cases A with
  |nil=>exact h
  |cons=>exact rz R
 |cons x N D=>
  intro z A V H Q O C R h;cases A with
  |nil=>exact nZ R
  |cons u A=>exact tP (oR O (C _ (gL _)) (D O (λx Z=>C x (gu _ Z)) (ny R) h))
def tY(c:Cx)(F:Fr)(a:eJ)(H:AH)(e:eW)(v:eD)(u:ed):Prop:=(v.i=eb->∃r,u=ec r∧H r=eh)∧∀i,e=.a i->iy c a H (nm i) u∧∃Q,F i=d9 Q∧v=Q.e
theorem SE.b{e:eW}(n:SE d P e){j:Bool}{Y:gZ}{x:eP}{v:eD}(X:e.y j Y em x=eb)(h:e.q d t F=d9 (v,D))(f:Bd d P j Y c B F a t V H){Q:ed->AH->Prop}
  (G:∀u s M,fk a t H s D M->VR M s D v u->tY c F V H e v u->Q u M):TE c (e.u x) V H Q:=by
 by_cases N:∃i,e=.a i
 ·(refine fL N λi O=>?_;(clear n X N;obtain rfl:=O))
  refine ie h λk K I=>?_;clear h;cases I;refine f.h K λu L W U T=>?_;exact T _ _ (G u _ _ (.e f.f) L.f ⟨by rw[rv];nofun,λl e=>by cases e;exact⟨W,k,K,rfl⟩⟩)
 ·exact n X h f λu s M p C g=>G u s M p C ⟨g,λi e=>absurd ⟨i,e⟩ N⟩
structure Ow(c:Cx)(F:Fr)(ρ:eJ)(H0:AH)(es:List eW)(a:Ad)(t:eB)(H:AH)(vs:List eD)(rs:List (List eT))(tg:List Nat)(n:Nat)(bind:Nat->eJ->eJ)(need:AH->Prop)(L:List (eW×eD×et×List ed))(rowV:Nat->List ed):Prop where
 b:n=rs.length
 h:∀i ρ,bind i ρ=mD ρ (tg.map nm) (rowV i)
 g:∀i row,rs[i]? =d9 row->gN H a t row (rowV i)
 d:∀q∈L,VR H a t q.2.1 (ec q.2.2.1)∧H q.2.2.1=d9 (.a q.2.2.2)∧tY c F ρ H0 q.1 q.2.1 (ec q.2.2.1)
 e:L.map (·.2.1)=vs
 f:L.map (·.1)=es
 j:∀H,(∀q∈L,H q.2.2.1=d9 (.a q.2.2.2))->kJ c.b H->need H
def Fv(c:Cx)(F:Fr)(d:eJ)(w:List eW)(a:Ad)(t:eB)(H:AH)(J:List eD)(b:eB)(W:List (List eT))(N:List Nat)(Q:Nat->(Nat->eJ->eJ)->(AH->Prop)->AH->Prop):Prop:=
 ∀{n g u O Z L p},fk a t H O b Z->Ow c F d H w O b Z J W N n g u L p->Q n g u Z
def oW(d:ir)(P:iE)(L:iF):Prop:=∀{j Y c x y t F J E M W N},L.k j Y x=eb->L.c d t F=d9 (J,E)->oq E J=d9 M->qw L.g M=d9 W->N.length=L.l->
 ∀{B a V H Q},Bd d P j Y c B F a t V H->Fv c F V L.d a t H J E W N Q->j6 c (L.i x) (xb N y) (N.map nm) V H Q
theorem sP{z:List eT}{b:List ed}(h:gN H a t z b){i:Nat}{x:eT}(Z:z[i]? =d9 x):AR H a t x (b.getD i ez):=by
 refine h.k Z λu K I=>?_;rw[lD,K];exact I
theorem y7{L j:Type}{f:L->j}{l:List L}{i:Nat}{y:j}(h:(l.map f)[i]? =d9 y):∃x,l[i]? =d9 x∧f x=y:=by
 rw[lE] at h;exact Cv h
theorem yg{L:iF}(k:∀{j Y c x y t F} {r:List eD×eB} {e W N},L.k j Y x=eb->L.c d t F=d9 r->oq r.2 r.1=d9 e->qw L.g e=d9 W->N.length=L.l->
 ∀{B a V H Q},Bd d P j Y c B F a t V H->Fv c F V L.d a t H r.1 r.2 W N Q->j6 c (L.i x) (xb N y) (N.map nm) V H Q):oW d P L:=λ{U U U U U U U U U U U U} X h K I z {U U U U U} b G=>k X h K I z b G
theorem Cr{L:Type}{l:List L}(h:l.length=2):∃i b,l=[i,b]:=
 ot h λi r e h=>fL (DK.1 h) λb q=>⟨i,b,by rw[e,q]⟩
theorem QO{L:Type}{l:List L}(h:l.length=3):∃i b k,l=[i,b,k]:=
 ot h λi r e h=>uo (Cr h) λb k q=>⟨i,b,k,by rw[e,q]⟩
theorem MH{e:eW}(n:SE d P e):oW d P (.a e):=yg λ{j Y c x w t F r o W p} X h K I f {U U U U U} b G=>by
 refine ou h λv S g s=>?_;clear h;subst s;refine fy K λq y M=>?_;clear K;obtain rfl:=eX M;obtain rfl:=eX I;obtain⟨i,rfl⟩ :=DK.1 f;refine Of (n.b X g b λu l Z Q N J=>?_)
 (refine lM Q.b N y λr A m L T=>?_;obtain rfl:=m)
 refine(kK r A rfl L ((b.e Q).g.b) (G (L:=[(e,v,r,A)]) (p:=λi=>[A.getD i ez]) Q ⟨by rw[fC,T.b],λU U=>rfl,λi C R=>?_,gV ⟨N,L,J⟩ lY,rfl,rfl,λH k z=>⟨k _ (gL _),z⟩⟩))
 ·(refine eR (y7 R) λx O a=>?_;(clear R;obtain rfl:=a))
  exact(fS _ _ rfl (sP T O) rfl)
theorem MG{e:eW}(n:SE d P e):oW d P (.h e):=yg λ{j Y c x ac t F r ls W tg} X h K I z {U U U U U} b G=>by
 refine gm h λD h=>?_;refine ou h λv S g s=>?_;clear h;clear h;subst s;refine fy K λxs y k4=>?_;clear K;obtain rfl:=eX k4;obtain rfl:=eX I;refine fq X λp f=>?_;obtain⟨i,V,rfl⟩ :=Cr z;refine yL (P:=P) (g:=8) (by decide) (by decide) λO m a=>?_;refine Od b.b.a (b.b.f D) (rT b.b.a (j8 b.b p) (b.b.b▸O) m a ⟨rfl,jk (n.b f g b λaa a1 Z Q N J=>kA ?_) λB=>(jp e _).2.2.2.1 B []⟩ (ju 8)) (jp e _).2.1
 (refine lM Q.b N y λr A M L T=>?_;obtain rfl:=M)
 refine(fS r A rfl L (G (L:=[(e,v,r,A)]) (p:=λi=>[ej i 0,A.getD i ez]) Q ⟨by rw[fC,Kk,T.b],λU U=>rfl,λi C R=>?_,gV ⟨N,L,J⟩ lY,rfl,rfl,λH k hk=>k _ (gL _)⟩))
 ·(refine zF (y7 R) λx V w l=>?_;(clear R;obtain rfl:=l))
  rw[List.getElem?_zipIdx] at w;refine ie w λq o u=>?_;clear w;cases u;exact(fS _ _ rfl (congrArg (λk:Nat=>ej k 0) (Nat.zero_add i).symm) (fS _ _ rfl (sP T o) rfl))
theorem tY.b{j:Bool}{Y:gZ}{e:eW}{v:eD}{u:ed}{s:Ad}(g:tY c F V M e v u)(f:Bd d P j Y c B F a t V H)(p:fk a t H s D M):tY c F V H e v u:=
 ⟨λh=>(g.1 h).imp λr w=>fe w λO m=>⟨O,p.h m⟩,λi e=>⟨f.g.k (g.2 i e).1 λn v h=>p.f _ _ h (nE f.f h rfl),(g.2 i e).2⟩⟩
theorem Dr{L j:Type}{l:List L}{m:List j}{i:Nat}{p:L×j}(h:(l.zip m)[i]? =d9 p):l[i]? =d9 p.1∧m[i]? =d9 p.2:=by
 rw[Wl] at h;exact h
theorem MI{r g:eW}(ac:SE d P r)(n:SE d P g):oW d P (.b r g):=yg λ{j Y c aq au t F aj ls rs N} X h K I z {U U U U U} b G=>by
 refine gm h λhf h=>?_;refine fq X λaa f=>?_;refine fq f λf e=>?_;refine yL (P:=P) (g:=7) (by decide) (by decide) λO e2 e3=>?_;refine hV h λv t2 s l=>?_;refine ou l λaf t3 p k2=>?_;clear h l;clear h;subst k2;refine fy K λxs y M=>?_;refine ie M λD k5 x=>?_;refine fy k5 λq J a=>?_;clear k5;obtain rfl:=eX a;clear K M;subst x;refine gm I λC k8=>?_;clear I;obtain rfl:=eX k8;obtain⟨i,ae,rfl⟩ :=Cr z;refine Fj (n:=xs.length) b.b.a (b.b.f hf) (rT b.b.a (j8 b.b aa) (b.b.b▸O) e2 e3 ⟨rfl,jk (ac.b f s b λu1 a1 H1 Q L v1=>jk (n.b e p (b.e Q) λu2 a2 H2 m T v2=>kA ?_) λB=>(jp g _).2.2.2.1 B _) λB=>(jp r _).2.2.2.1 B _⟩ (ju 7)) (mF (.a r (.a g .b)) _) (CK [i,ae] _) EQ;have L:=L.a m Q.b
 (refine lM m.b L y λV A e6 w o=>?_;obtain rfl:=e6)
 (refine lM m.b T J λS W Z u q4=>?_;obtain rfl:=Z)
 refine(wc ([(V,A),(S,W)]) rfl (gV ⟨w,o.b⟩ (gV ⟨u,q4.b.trans C.2.symm⟩ lY)) (eH rfl) rfl (G (L:=[(r,v,V,A),(g,af,S,W)]) (p:=λi=>[A.getD i ez,W.getD i ez]) (Q.d m) ⟨?_,λU U=>rfl,λi ak R=>?_,gV ⟨L,w,v1⟩ (gV ⟨T,u,v2.b b Q⟩ lY),rfl,rfl,λH k hk=>gV (k _ (gL _)) (gV (k _ (gu _ (gL _))) lY)⟩))
 ·rw[fC,kZ,←C.2,DV]
 ·(refine eR (y7 R) λag z1 e8=>?_;(clear R;obtain rfl:=e8))
  refine fe (Dr z1) λz2 z3=>?_;exact(fS _ _ rfl (sP o z2) (fS _ _ rfl (sP q4 z3) rfl))
theorem MJ{r g X:eW}(af:SE d P r)(n:SE d P g)(ag:SE d P X):oW d P (.f r g X):=yg λ{j Y c aB aC t F az ls rs tg} hc h K I z {U U U U U} b G=>by
 refine gm h λhf h=>?_;refine fq hc λae f=>?_;refine fq f λf e=>?_;refine fq e λe D=>?_;refine yL (P:=P) (g:=7) (by decide) (by decide) λO e2 e3=>?_;refine hV h λv t2 s l=>?_;refine hV l λau t3 p k2=>?_;refine ou k2 λav t4 Z k3=>?_;clear h l k2;clear h;subst k3;refine fy K λxs y M=>?_;refine ie M λl1 k5 x=>?_;refine fy k5 λys h5 k7=>?_;refine ie k7 λl2 J ak=>?_;refine fy J λzs N aq=>?_;clear J;obtain rfl:=eX aq;clear k5 k7;subst ak;clear K M;subst x;refine gm I λC k8=>?_;clear I;obtain rfl:=eX k8;obtain⟨i,aj,k,rfl⟩ :=QO z;refine Fj (n:=xs.length) b.b.a (b.b.f hf) (rT b.b.a (j8 b.b ae) (b.b.b▸O) e2 e3 ⟨rfl,jk (af.b f s b λu1 a1 H1 Q L v1=>jk (n.b e p (b.e Q) λu2 a2 H2 m T v2=>jk (ag.b D Z ((b.e Q).e m) λu3 a3 H3 V g3 v3=>kA ?_) λB=>(jp X _).2.2.2.1 B _) λB=>(jp g _).2.2.2.1 B _) λB=>(jp r _).2.2.2.1 B _⟩ (ju 7)) (mF (.a r (.a g (.a X .b))) _) (CK [i,aj,k] _) EQ;have L:=(L.a m Q.b).a V m.b;have T:=T.a V m.b
 (refine lM V.b L y λm1 A e9 w q2=>?_;obtain rfl:=e9)
 (refine lM V.b T h5 λS W aa u q4=>?_;obtain rfl:=aa)
 (refine lM V.b g3 N λo a ac q5 q6=>?_;obtain rfl:=ac)
 refine(wc ([(m1,A),(S,W),(o,a)]) rfl (gV ⟨w,q2.b⟩ (gV ⟨u,q4.b.trans C.2.1.symm⟩ (gV ⟨q5,q6.b.trans C.2.2.symm⟩ lY))) (eI rfl) rfl (G (L:=[(r,v,m1,A),(g,au,S,W),(X,av,o,a)]) (p:=λi=>[A.getD i ez,W.getD i ez,a.getD i ez]) ((Q.d m).d V)
  ⟨?_,λU U=>rfl,λi aA R=>?_,gV ⟨L,w,v1⟩ (gV ⟨T,u,v2.b b Q⟩ (gV ⟨g3,q5,v3.b b (Q.d m)⟩ lY)),rfl,rfl,λH k hk=>gV (k _ (gL _)) (gV (k _ (gu _ (gL _))) (gV (k _ (gu _ (gu _ (gL _)))) lY))⟩))
 ·rw[fC,kZ,kZ,←C.2.1,←C.2.2,DV,DV]
 ·(refine eR (y7 R) λaw z1 q=>?_;(clear R;obtain rfl:=q))
  refine fe (Dr z1) λz2 z3=>?_;refine fe (Dr z3) λz4 z5=>?_;exact(fS _ _ rfl (sP q2 z2) (fS _ _ rfl (sP q4 z4) (fS _ _ rfl (sP q6 z5) rfl)))
theorem wx{x:String}{v:ed}:ic V x v x=d9 v:=if_pos rfl
theorem Q0{x y:String}{v:ed}(h:y≠x):ic V x v y=V y:=if_neg h
theorem qN{i j:Nat}{u w:ed}(R:i<113)(J:j≠i):iy c (ic V (nm i) w) H (nm j) u↔iy c V H (nm j) u:=by
 unfold iy;rw[Q0 λe=>J (ul R e.symm).symm]
theorem FR.l{i:Nat}{v:eD}{u:ed}(f:FR c B a t F V H)(R:i<113)(z:c.a.kindOf (eE (nm i))=d9 ey)(N:VR H a t v u)(D:v.i=eb->∃r,u=ec r∧B r=eh)
  (S:v.k=eb->∀x O,x≠i->F x=d9 O->O.k=eb->(v.i||O.i)=eb->¬iy c V H (nm x) u):FR c B a t (eL F i v) (ic V (nm i) u) H:=by
 have A:iy c (ic V (nm i) u) H (nm i) u:=eH ⟨z,wx⟩;refine⟨λx O E=>?_,λx k O G r J E s K I g y=>?_,f.f,f.inj,f.b⟩
 ·unfold eL at E
  split at E
  ·rename_i e;(clear R z S;subst e);obtain rfl:=eX E;exact(fQ u A N D)
  ·rename_i e
   refine eR (f.h x O E) λq L T=>?_;exact(eu q ((qN R e).mpr L) T)
 ·unfold eL at E s
  split at E
  ·rename_i e;(clear z;subst e);obtain rfl:=eX E
   rw[if_neg (gM J)] at s;have e:=g.b A;rw[e] at y;refine S (uw K) k G (gM J) s I (by rw[K];rfl) ((qN R (gM J)).mp y)
  ·rename_i e
   split at s
   ·rename_i P;(clear z;subst P);obtain rfl:=eX s
    have m:=y.b A;rw[m] at g;exact S I x O e E (uw K) (by rw[K];exact pG _) ((qN R e).mp g)
   ·rename_i P
    exact f.d x k O G r J E s K I ((qN R e).mp g) ((qN R P).mp y)
theorem FR.w:∀{N:List Nat} {r:List eT} {v:List ed} {F:Fr} {V:eJ},FR c B a t F V H->(∀i∈N,i<113∧c.a.kindOf (eE (nm i))=d9 ey)->gN H a t r v->FR c B a t (fV F N r) (mD V (N.map nm) v) H:=by
 intro N
 induction N with
 |nil=>intro r v F V f U U;exact f
 |cons i m D=>
  intro r v F V f k q;cases r with
  |nil=>rw[show _=[] from q];exact f
  |cons x z=>
   refine fT q λu W e h S=>?_;rw[e];show FR c B a t (fV (eL _ i (.b x)) m z) (mD (ic _ (nm i) u) (m.map nm) W) H;exact D (f.l (k i (gL _)).1 (k i (gL _)).2 (v:=.b x) h (λh=>nB h) (λh=>nB h)) (λj J=>k j (gu _ J)) S
theorem mW{A:gZ}{i:Nat}(h:∀p∈A,p.1<113):(A.map λp=>(eE (nm p.1),p.2)).lookup (eE (nm i))=A.lookup i:=by
 induction A with
 |nil=>rfl
 |cons p r D=>
  rw[gj,iw,iw,D λq G=>h q (gu _ G)];have:(eE (nm i)==eE (nm p.1))=(i==p.1):=by
   rw(occs:=eO) [As,beq_iff_eq,beq_iff_eq,oE];exact⟨λe=>(ul (h p (gL _)) e.symm).symm,λe=>e▸rfl⟩
  rw[this]
noncomputable def sI(S:List (ft×et)):List (ft×fX)->List (ft×et)->List (ft×et)
 |[],W=>W
 |p::r,W=>sI S r (if p.2==gb then(p.1,(S.lookup p.1).getD 0)::W else W)
theorem BX{S:List (ft×et)}{p:ft×fX}{r:List (ft×fX)}{W:List (ft×et)}:sI S (p::r) W=sI S r (if p.2==gb then(p.1,(S.lookup p.1).getD 0)::W else W):=rfl
theorem Gf{t:jG}{B:iN}(h:∀p∈t.names,p.2=gb->(B.cells.lookup p.1).isSome=eb):rM t B=f9 (sI B.cells t.names []):=by
 unfold rM;generalize t.names=Y at h;generalize ([]:List (ft×et))=W;dsimp only
 induction Y generalizing W with
 |nil=>rfl
 |cons p r D=>
  obtain⟨n,k⟩ :=p;rw(occs:=eO) [Ki];by_cases z:(k==gb)=eb
  ·have:=h (n,k) (gL _) (beq_iff_eq.mp z)
   refine wi this λa O=>?_;have e:cellOf B n=f9 a:=by unfold cellOf;dsimp only at O;rw[O]
   simp only[z,if_true,e,pure_bind];rw[D λq G=>h q (gu _ G)];rw[BX];dsimp only at O;simp only[z,if_true,O];rfl
  ·simp only[z,if_false,pure_bind,VX]
   rw[D λq G=>h q (gu _ G)];rw[BX];simp only[z,if_false,VX]
theorem BY{S:List (ft×et)}{x:ft}{n:et}(X:S.lookup x=d9 n):∀{b:List (ft×fX)} {W:List (ft×et)},((x,gb)∈b∨W.lookup x=d9 n)->(sI S b W).lookup x=d9 n:=by
 intro G
 induction G with
 |nil=>
  intro U h;exact h.resolve_left nofun
 |cons p r D=>
  intro W h;rw[BX];apply D;by_cases J:p.1=x
  ·by_cases z:(p.2==gb)=eb
   ·right
    rw[if_pos z,J,X,iw];simp
   ·rw[if_neg z]
    rcases h with h|h
    ·rcases gy.mp h with h|h
     ·rw[←h] at z;exact absurd rfl z
     ·exact eH h
    ·exact eI h
  ·rcases h with h|h
   ·rcases gy.mp h with h|h
    ·rw[←h] at J;exact absurd rfl J
    ·exact eH h
   ·right
    split
    ·rw[iw,beq_eq_false_iff_ne.mpr (gM J)];exact h
    ·exact h
theorem SX{L:jG}{B:iN}{x:ft}:(relabel L B).names.lookup x=(L.names.lookup x).map λk=>if(k==gb&&B.scope.kind==jH&&B.kindOf x==d9 fK) then fK else k:=by
 unfold relabel;dsimp only
 induction L.names with
 |nil=>rfl
 |cons p r D=>
  obtain⟨n,k⟩ :=p;rw[gj];show DN x ((if(k==gb&&B.scope.kind==jH&&B.kindOf n==d9 fK)=eb then(n,fK) else(n,k))::_)=_;cases Z:x==n with
  |true=>
   obtain rfl:=beq_iff_eq.mp Z
   split
   ·rename_i X;rw[iw,iw,Z];exact congrArg d9 (if_pos X).symm
   ·rename_i X;rw[iw,iw,Z];exact congrArg d9 (if_neg X).symm
  |false=>split<;>rw[iw,iw,Z]<;>exact D
noncomputable abbrev JL(A:gZ):gZ:=A.map λp=>(p.1,if p.2=gb then fK else p.2)
theorem QX{f:fX->fX}{i:Nat}:∀{A:gZ},(A.map λp=>(p.1,f p.2)).lookup i=(A.lookup i).map f:=by
 intro G
 induction G with
 |nil=>
  exact rfl
 |cons p r D=>
  rw[gj,iw,iw,D];cases i==p.1<;>rfl
theorem pq{L j:Type}[BEq L][LawfulBEq L]{i:L}{k:j}:∀{l:List (L×j)},l.lookup i=d9 k->(i,k)∈l:=by
 intro l
 induction l with
 |nil=>intro h;exact nS h
 |cons p r D=>
  intro h;rw[iw] at h;cases e:i==p.1 with
  |true=>rw[e] at h;rw[beq_iff_eq.mp e,←eX h];exact gL _
  |false=>rw[e] at h;exact gu _ (D h)
theorem ur{N:List Nat}{A:gZ}(h:mf Y N A=eb):∀p∈A,p.1<113:=λp J=>of_decide_eq_true (m9.mp (iC.mp h p J)).1
theorem CN{N:List Nat}{A:gZ}(h:mf Y N A=eb){i:Nat}(J:(i,gb)∈A):Y.lookup i=d9 fK:=beq_iff_eq.mp (m9.mp (iC.mp h _ J)).2
theorem RH{N:List Nat}{A:gZ}(h:mf Y N A=eb){i:Nat}(J:(i,ey)∈A):A.lookup i=d9 ey:=beq_iff_eq.mp (m9.mp (iC.mp h _ J)).2
theorem Ie{N:List Nat}{A:gZ}(h:mf Y N A=eb){i:Nat}(J:(i,fK)∈A):False:=by
 have:=(m9.mp (iC.mp h _ J)).2;exact nB this
section
variable{N:List Nat}{A:gZ}{C:et}{m:ft->Option ed}{r:et->fN->Prop}
abbrev ki(c:Cx)(A:gZ):List (ft×et):=sI c.a.cells (fM A).names []
theorem G8{x:ft}:(cc c (fM A) (ki c A) C m r).a.kindOf x=((fM A).names.lookup x).map λk=>if(k==gb&&c.a.scope.kind==jH&&c.a.kindOf x==d9 fK) then fK else k:=SX
theorem wg(b:jA d P em Y c)(W:mf Y N A=eb){i:Nat}{k:fX}(h:A.lookup i=d9 k):(cc c (fM A) (ki c A) C m r).a.kindOf (eE (nm i))=d9 (if k=gb then fK else k):=by
 rw[G8,show(fM A).names.lookup (eE (nm i))=A.lookup i from mW (ur W),h];by_cases z:k=gb
 ·subst z
  have:=b.e i _ (CN W (pq h));rw[this,b.a.b];rfl
 ·have:(k==gb)=false:=beq_eq_false_iff_ne.mpr z
  rw[KB,if_neg z,this];rfl
theorem Ch(b:jA d P em Y c)(W:mf Y N A=eb){x:ft}(h:(cc c (fM A) (ki c A) C m r).a.kindOf x=d9 fK):c.a.kindOf x=d9 fK∧(x,gb)∈(fM A).names:=by
 rw[G8] at h;refine ie h λk K I=>?_;have a:=pq K
 split at I
 ·rename_i X
  simp only[uD,beq_iff_eq] at X;exact⟨X.2,X.1.1▸a⟩
 ·clear K
  subst I;refine fP a λp J e=>?_;cases f:p with|mk i k=>
  rw[f] at e J;clear h a f;cases e;exact(Ie W J).elim
theorem Lh(b:jA d P em Y c)(W:mf Y N A=eb)(O:(cc c (fM A) (ki c A) C m r).d):jA d P eb (JL A) (cc c (fM A) (ki c A) C m r):=by
 refine⟨b.b,O,rfl,rfl,λi k h=>?_,b.f,(λh=>CE h),b.l.imp λn h=>⟨⟨h.1.b,h.1.a⟩,h.2⟩⟩;have h:=(QX (f:=λk=>if k=gb then fK else k)).symm.trans h
 (refine ie h λT K a=>?_;(clear h;clear h;obtain rfl:=a))
 exact wg b W K
theorem Lq{S:eJ}(b:jA d P em Y c)(W:mf Y N A=eb)(f:FR c B a t F V H):FR (cc c (fM A) (ki c A) C m r) B a t (λi=>if A.lookup i=d9 gb then(F i).map eD.e else eh) S H:=by
 have X:∀{x:ft},(cc c (fM A) (ki c A) C m r).a.kindOf x=d9 fK->∃n Q,c.a.kindOf x=d9 fK∧c.a.cells.lookup x=d9 n∧(ki c A).lookup x=d9 n∧H n=d9 (.g Q):=λ{x} h=>by
  refine fe (Ch b W h) λK I=>?_;refine f.g x K λn Q L T U=>?_;exact(kK n Q K L (BY L (eH I)) T)
 refine⟨λi v e=>?_,λi j v ac aa O e hw D=>?_,λx Z=>?_,λx y n Z G K I=>?_,f.b⟩
 ·refine gm e λR e=>?_
  (refine ie e λQ K g=>?_;(clear e;clear e;obtain rfl:=g))
  refine f.e i Q K λM L T U=>?_;have z:=wg (C:=C) (m:=m) (r:=r) b W R;refine(fQ M (eI ⟨z,?_⟩) T.f (by rw[rv];nofun));have s:=b.e i _ (CN W (pq R));rcases L with ⟨q,_⟩ |⟨_,n,w,o⟩
  ·rw[s] at q;cases q
  ·exact(eu n (BY w (eH (Ch (C:=C) (m:=m) (r:=r) b W z).2)) o)
 ·refine gm e λR e=>?_
  (refine ie e λQ K p=>?_;(clear e;clear e;obtain rfl:=p))
  rw[rv] at D;exact nB D
 ·refine jD (X Z) λn Q U U L T=>?_
  exact(fS n Q L T (λh=>iX h))
 ·refine jD (X Z) λax U l w o U=>?_
  refine jD (X G) λJ U k u E U=>?_;rw[show(cc c (fM A) (ki c A) C m r).a.cells.lookup x=(ki c A).lookup x from rfl,o] at K;rw[show(cc c (fM A) (ki c A) C m r).a.cells.lookup y=(ki c A).lookup y from rfl,E] at I;exact f.inj x y n l k (w.trans K) (u.trans I)
end
theorem IT{I:AH}{s:Ad}{v:eD}{l:et}{A:List ed}(c:Wd H a t)(N:VR H a t v (ec l))(C:H l=d9 (.a A))(b:(ia t v).isSome=eb)(i:I l=d9 (.a A)∨v.k=em)(p:fk a t I s D M)(S:uB t D v):M l=d9 (.a A):=by
 cases v with
 |c o d=>
  refine oB N λr f e U U y U=>?_;clear U;cases e;exact p.f _ _ (i.resolve_right (λh=>CE h)) y
 |f n k=>
  refine oA N λr e J W U z=>?_;cases e;refine wi b λd Z=>?_;refine gm Z λe U=>?_;have R:=z e;have O:=((c.b J).b n W).c;rw[←R,C] at O;refine wI (p.c J) λw U U E U U j=>?_;have m:=((p.b.b w).b n (W.a E)).c;rw[j S.1 n W,←R,S.2,←eX O] at m;exact m
 |_=>exact nB b
theorem Go:∀{J:List eD} {b:List (List eT)},oq t J=d9 b->∀v∈J,(ia t v).isSome=true:=by
 intro J
 induction J with
 |nil=>intro b U v N;exact absurd N iI
 |cons w J D=>
  intro b h v N;refine fy h λx K l=>?_;refine ie l λa I U=>?_;clear h;rcases gy.mp N with rfl|N
  ·rw[K];rfl
  ·exact D I v N
def tZ(d:ir)(P:iE)(w:Es):Prop:=∀{j Y c z t F r D},w.f j Y eb z=eb->w.i≤1->w.d d t F=d9 (r,D)->∀{B a V H},Bd d P j Y c B F a t V H->
 ∀{Q:Bool->AH->Prop},(∀s M,fk a t H s D M->Q r M)->TT c (w.c z) V H Q
theorem MD:tZ d P .b:=λ{U U U U U U U U} U U h {U U U U} b {U} G=>by cases h;exact Bq (G _ _ (.e b.f))
theorem MC{e:eW}{w:Es}(n:SB d P e):tZ d P (.a e w):=λ{U U U U U U r D} X C h {U U U U} b {U} G=>by
 cases w with
 |b=>
  refine hV h λY a K l=>?_;refine fy l λi I k=>?_;rw[sG I] at K;have R:(i,a)=(r,D):=by(clear K I;cases i)<;>exact eX k
  clear l I k;cases R;exact Om (n (m9.mp X).1 K b λs M p=>G s M p)
 |a=>exact absurd (Nat.le_of_succ_le_succ C) (WQ _)
theorem Db(s:iF)(x:eP)(B:iN)(v:ed):pQ (s.i x) B v=f9 v:=by
 cases s with
 |a e=>exact(jp e x).2.2.2.2 B v
 |_=>rfl
theorem IU{t D:eB}{J:List eD}(h:pC t D J=eb):∀v∈J,uB t D v:=λv N=>of_decide_eq_true (iC.mp h v N)
structure Op(a1:Ad)(t1:eB)(H1:AH)(t':eB)(asEnd:List eT)(st:eB->Bool)(bnd:List eT->Fr)(test:eB->Fr->Option (Bool×eB))(elt:eB->Fr->Option (eD×eB))(rs:List (List eT))(i:Nat)(acc:List ed)(H':AH)(a':Ad)(t2:eB)(as:List eT):Prop where
 a:fk a1 t1 H1 a' t2 H'
 d:gN H' a' t2 as acc
 b:sK st bnd test elt (rs.drop i) t2 as=d9 (asEnd,t')
 c:acc.length≤i
 e:i≤rs.length
theorem Pq{u:eB->Bool}{y:List eT->Fr}{L:eB->Fr->Option (Bool×eB)}{a:eB->Fr->Option (eD×eB)}{W:List (List eT)}{t:eB}{as:List eT}{r:List eT×eB}(h:sK u y L a W t as=d9 r):u t=true:=by
 cases W with
 |nil=>exact(wf h).1
 |cons=>exact(wf h).1
theorem Gk{T:eW}{N:List Nat}{L:iF}{aa:Es}{A:gZ}(hs:oW d P L)(he:SE d P T)(hi:tZ d P aa){x:eP}{v:eD}(X:(eW.B T N L aa A).y j Y em x=eb)(h:(eW.B T N L aa A).q d t F=d9 (v,D))(b:Bd d P j Y c B F a t V H):
  j=em∧mf Y N A=eb∧(∀i∈N,jT A i ey=eb)∧∃as,v=.c eb as∧∀{K:List ed->AH->Prop},(∀z s M,fk a t H s D M->gN M s D as z->K z M)->
   j6 c (L.i (xg x).iter) (xb N (xg x).target) (N.map nm) V H (λn g u Z=>∃J,yu c (fM A) (ki c A) (T.u (x1 x)) (aa.c (xg x).ifs) n g u Z J∧∀z M,J n z M->K z M):=by
 refine fq X λX av=>?_;refine fq X λX au=>?_;refine fq X λX aq=>?_;refine fq X λX ak=>?_;refine fq X λX aF=>?_;refine fq X λX aj=>?_;refine fq X λX e=>?_;refine fq X λX f=>?_;refine fq X λU ae=>?_;have az:j=false:=by(clear X b e;clear X;clear X;clear X;clear X;clear X;clear X;clear X;clear X;cases j)<;>first|rfl|exact nB ae
 clear X ae;clear X;clear X;clear X;clear X;clear X;clear X;clear X;clear X;subst az;have af:=iC.mp aj;refine hV h λvs t1 h1 l=>?_;refine fy l λls h2 k=>?_;refine fy k λW h3 k3=>?_;refine gm k3 λhl k4=>?_;refine ou k4 λas S h4 k5=>?_;clear h l k k3 k4;cases k5;refine⟨rfl,f,af,as,rfl,λ{K} hK=>hs e h1 h2 h3 (of_decide_eq_true ak) b ?_⟩;intro n g u O Z aE aG Q G;refine(eu (λi z M=>∃s S o,Op O t1 Z D as (λD=>pC t1 D vs) (iS A F N) (λt F=>aa.d d t F) (λt F=>T.q d t F) W i z M s S o) ⟨?_,?_,?_⟩ ?_)
 ·exact⟨O,t1,[],.e Q.b,rfl,h4,ig _,pJ _⟩
 ·rintro i z M ⟨s,S,o,I⟩
  refine⟨G.j _ (λq hq=>?_) ((b.e (Q.d I.a)).g.b),im I.c (im I.e hl)⟩;have hv:q.2.1∈vs:=G.e▸jY (f:=λq=>q.2.1) hq;exact IT Q.b (G.d q hq).1 (G.d q hq).2.1 (Go h2 _ hv) (eH (G.d q hq).2.1) I.a (IU (Pq I.b) _ hv)
 ·rintro i z M C m r ag aw ⟨s,S,o,I⟩ O2
  have ac:i<W.length:=G.b▸aw;have p:W.drop i=W[i]::W.drop (i+1):=Ke ac;have w:=I.b;rw[p] at w;refine gm w λU w=>?_;refine hV w λbb t3 r1 w=>?_;have cx:=Lh b.b f O2;have aA:=(G.g i _ (jF ac)).d I.a Q.b;have fr:FR (cc c (fM A) (ki c A) C m r) B s S (iS A F N W[i]) (g i ag) M:=by
   rw[G.h];refine FR.w (Lq b.b f (b.e (Q.d I.a)).g) (λaB hj=>?_) aA;refine fq (af aB hj) λq1 q2=>?_;exact⟨of_decide_eq_true q2,wg b.b f (of_decide_eq_true q1)⟩
  have y:Bd d P eb (JL A) (cc c (fM A) (ki c A) C m r) B (iS A F N W[i]) s S (g i ag) M:=⟨cx,fr,I.a.b⟩;refine hi au (of_decide_eq_true av) r1 y λa3 H3 p3=>?_;cases bb with
  |true=>
   refine hV w λaH t4 r2 w=>?_;refine fy w λaD r3 w=>?_;rw[if_pos rfl];refine he aq r2 (y.e p3) λaC a4 H4 p4 R U=>?_;rw[yG r3] at R;refine⟨a4,t4,o++[aD],(I.a.d p3).d p4,((I.d.d p3 I.a.b).d p4 p3.b).g (fS aC ([]) rfl R rfl),w,?_,ac⟩;rw[il];exact DX I.c
  |false=>exact⟨a3,t3,o,I.a.d p3,I.d.d p3 I.a.b,w,Nat.le_succ_of_le I.c,ac⟩
 ·rintro z M ⟨s,S,o,I⟩
  have w:=I.b;rw[G.b,Wf] at w;refine gm w λU w=>?_;clear U;cases w;exact hK z s M (Q.d I.a) I.d
theorem zN{N:List Nat}{A:gZ}(W:mf Y N A=eb):∀y∈(fM A).names,y.2≠fK:=λy B e=>by
 (refine fP B λp J O=>?_;(clear B;obtain rfl:=O))
 cases P:p with|mk i k=>
 rw[P] at e J;clear P;cases(show k=fK from e);exact Ie W J
theorem zO{N:List Nat}{A:gZ}(W:mf Y N A=eb):∀y∈(fM A).names,y.2=ey->(fM A).names.lookup y.1=d9 ey:=λy B e=>by
 (refine fP B λp J m=>?_;(clear B;obtain rfl:=m))
 cases P:p with|mk i k=>
 rw[P] at e J;clear P;cases(show k=ey from e);exact(mW (ur W)).trans (RH W J)
theorem CW{N:List Nat}{A:gZ}(b:Bd d P em Y c B F a t V H)(W:mf Y N A=eb):rM (fM A) c.a=f9 (ki c A):=by
 refine Gf λy g e=>?_
 (refine fP g λp J h=>?_;(clear g;obtain rfl:=h))
 cases f:p with|mk i k=>
 rw[f] at e J;clear f;cases(show k=gb from e);refine iH (b.g.f _ (b.b.e i _ (CN W J))) λn U K U=>?_;rw[K];rfl
theorem Ml{T:eW}{N:List Nat}{L:iF}{a:Es}{A:gZ}(S:oW d P L)(n:SE d P T)(R:tZ d P a):SE d P (.B T N L a A):=λ{U U U x U U U U} X h {U U U U U} b G=>by
 (refine i8 (Gk S n R X h b) λc W C K=>?_;refine eR K λas e f=>?_;(clear X;obtain rfl:=c);(clear h K;obtain rfl:=e))
 refine E7 b.b.a (b.b.g rfl) (CW b W) (λy B=>?_) (f λz s M p r D Y=>G _ _ _ (p.d (.g p.b Y)) (rA p.b Y r) λU=>(eu D rfl (p.h Y))) (Db L _ _) (zN W) rfl (zO W)
 (refine fP B λi R Z=>?_;(clear B;obtain rfl:=Z))
 exact(mW (ur W)).trans (of_decide_eq_true (m9.mp (C i R)).1)
end
section
variable{P:iE}{d:ir}
theorem kU{e:eW}(n:SE d P e)(a:∀j Y x,e.y j Y eb x=eb->e.y j Y em x=eb)(J:∀x,PT (e.u x)):SE d P e∧SB d P e:=⟨n,EL n a J⟩
mutual
theorem fR:∀e:eW,SE d P e∧SB d P e
 |.a i=>kU Mz (λU U U h=>h) λU U U=>rfl
 |.w i=>kU Mo (λU U U h=>h) λU U U=>rfl
 |.d i=>kU Mr (λU U U h=>h) λU U U=>rfl
 |.F=>kU Mu (λU U U h=>h) λU U U=>rfl
 |.I b=>kU Mi (λU U U h=>h) λU U U=>rfl
 |.G s=>kU Mw (λU U U h=>h) λU U U=>rfl
 |.c e f=>kU (Mf (fR e).1) (λU U U h=>h) λU U U=>rfl
 |.n e i=>kU (Mx (fR e).1 (fR i).1) (λU U U h=>h) λU U U=>rfl
 |.H e=>kU (Mv (fR e).1) (λU U U h=>h) λU U U=>rfl
 |.p o l r=>kU (Mh (fR l).1 (fR r).1) (λU U U h=>h) λU U U=>rfl
 |.h o l r=>⟨Mk (fR l).1 (fR r).1,Md (fR l).1 (fR r).1⟩
 |.M e=>⟨(λ{U U U U U U U U} h=>nomatch h),Me (fR e).2⟩
 |.K e=>⟨EM (fR e).1,EL (EM (fR e).1) (λU U U h=>h) λU U U=>rfl⟩
 |.D o w=>⟨(λ{U U U U U U U U} h=>nomatch h),Mc (mM w).2.1⟩
 |.C q b o=>⟨Mp (fR q).2 (fR b).1 (fR o).1,(λ{U U U U U U U U} h=>nomatch h)⟩
 |.z w=>kU (Ms (mM w).1) (λU U U h=>h) λU U U=>rfl
 |.A w=>kU (My (mM w).1) (λU U U h=>h) λU U U=>rfl
 |.N=>kU Mn (λU U U h=>h) λU U U=>rfl
 |.B T N L a A=>⟨Ml (A' L) (fR T).1 (mM a).2.2,(λ{U U U U U U U U} h=>nomatch h)⟩
 |.j g w=>kU (Mj (mM w).1) (λU U U h=>h) λU U U=>rfl
 |.v o m w=>kU (Mt (fR o).1 (mM w).1) (λU U U h=>h) λU U U=>rfl
 |.x g e=>kU (Mg (fR e).1) (λU U U h=>h) λU U U=>rfl
 |.J o k=>kU (Mq (fR o).1 (fR k).1) (λU U U h=>h) λU U U=>rfl
 |.L o k=>kU (Mm (fR o).1 (fR k).1) (λU U U h=>h) λU U U=>rfl
theorem mM:∀w:Es,qa d P w∧SA d P w∧tZ d P w
 |.b=>⟨MB,Mb,MD⟩
 |.a e w=>⟨MA (fR e).1 (mM w).1,Ma (fR e).2 (mM w).2.1,MC (fR e).2⟩
theorem A':∀s:iF,oW d P s
 |.a e=>MH (fR e).1
 |.b e f=>MI (fR e).1 (fR f).1
 |.f e f g=>MJ (fR e).1 (fR f).1 (fR g).1
 |.h e=>MG (fR e).1
end
end
section
variable{c:Cx}{V:eJ}{H M:AH}{P:iE}{d:ir}{j:Bool}{Y:gZ}{B:AH}{F:Fr}{a N:Ad}{t D I:eB}
mutual
theorem AR.i(k:∀r f,H r=d9 (.f f)->M r=d9 (.f f)):∀{x:eT} {u:ed},AR H a t x u->AR M a t x u
 |.e,_,h=>h
 |.g b,_,h=>h
 |.a c,_,h=>h
 |.h s,_,h=>h
 |.c,_,h=>h
 |.d n,_,h=>h
 |.f as,_,L=>fT L λr f e h S=>⟨r,f,e,k _ _ h,gN.e k S⟩
theorem gN.e(f:∀r i,H r=d9 (.f i)->M r=d9 (.f i)):∀{l:List eT} {u:List ed},gN H a t l u->gN M a t l u
 |[],_,c=>c
 |_::_,_,Z=>fT Z λu W j c S=>⟨u,W,j,AR.i f c,gN.e f S⟩
end
theorem jJ.n(k:∀f g,H f=d9 (.f g)->M f=d9 (.f g)):∀{x:List (Int×eT)} {b:List (Int×ed)},jJ H a t x b->jJ M a t x b
 |[],_,h=>h
 |_::_,_,R=>fT R λb W e h S=>⟨b,W,e,AR.i k h,jJ.n k S⟩
def qU(H M:AH)(r:et):Prop:=∀x,x≠r->M x=H x
theorem Di(H:AH)(r:et)(o:AO):qU H (eQ H r o) r:=λU h=>fw _ _ h
theorem Py(H:AH)(r:et):qU H (o9 H r) r:=λU h=>B2 _ h
theorem qU.b{r:et}{o:AO}(k:qU H M r)(h:H r=d9 o)(D:∀A,o≠.f A):∀q A,H q=d9 (.f A)->M q=d9 (.f A):=λq A G=>
 (k q λe=>by rw[e,h] at G;exact D A (eX G)).trans G
theorem Af{r:et}{o X:AO}(h:H r=d9 o)(D:∀A,o≠.f A):∀q A,H q=d9 (.f A)->eQ H r X q=d9 (.f A):=(Di H r X).b h D
theorem VR.o{r:et}{c:AO}(k:qU H M r)(h:H r=d9 c)(D:∀A,c≠.f A):∀{v:eD} {u:ed},VR H a t v u->(v.k=eb->u≠ec r)->VR M a t v u
 |.b _,_,N,_=>AR.i (k.b h D) N
 |.c _ _,_,Z,n=>jD Z λb A e K S y=>⟨b,A,e,(k _ λ(q:b=r)=>n rfl (by rw[e,q])).trans K,S.e (k.b h D),y⟩
 |.g _ _,_,R,n=>jD R λb A e K S y=>⟨b,A,e,(k _ λ(q:b=r)=>n rfl (by rw[e,q])).trans K,S.n (k.b h D),y⟩
 |.j,_,N,_=>N
 |.f _ _,_,N,_=>N
 |.h,_,N,_=>N
 |.m,_,N,_=>N
theorem VR.m{r:et}{b X:AO}(h:H r=d9 b)(D:∀A,b≠.f A){v:eD}{u:ed}(N:VR H a t v u)(n:v.k=eb->u≠ec r):VR (eQ H r X) a t v u:=N.o (Di H r X) h D n
theorem VR.l:∀{v:eD} {u:ed},VR H a t v u->v.k=eb->∃r g,u=ec r∧H r=d9 g∧g.i=eb
 |.c _ _,_,Z,_=>fT Z λb A e K U=>⟨b,_,e,K,rfl⟩
 |.g _ _,_,R,_=>fT R λb A e K U=>⟨b,_,e,K,rfl⟩
 |.b _,_,_,h=>nomatch h
 |.j,_,_,h=>nomatch h
 |.f _ _,_,_,h=>nomatch h
 |.h,_,_,h=>nomatch h
 |.m,_,_,h=>nomatch h
theorem Wd.f{r:et}(w:Wd H a t)(b:qU H M r)(R:¬jx a t r):Wd M a t:=by
 have k:∀{x:et} {X:AO},jx a t x->H x=d9 X->M x=d9 X:=λ{x X} Z h=>(b x λ(e:x=r)=>R (e▸Z)).trans h;refine⟨k (eH (eH rfl)) w.c,k (eI (eH rfl)) w.d,w.e,λJ=>?_⟩;have i:=w.b J;refine⟨k (eI (eI ⟨J,eH rfl⟩)) i.e,k (eH (eI ⟨J,eH rfl⟩)) i.d,k (eH (eI ⟨J,eI (eH rfl)⟩)) i.c,i.h,i.g,i.f,λn W=>?_,i.j,i.i⟩;have q:=i.b n W;exact⟨k (eI (eI ⟨J,eI (eu n W (eH rfl))⟩)) q.d,k (eH (eI ⟨J,eI (eI (eu n W (eH rfl)))⟩)) q.b,k (eH (eI ⟨J,eI (eI (eu n W (eI rfl)))⟩)) q.c,
  k (eI (eI ⟨J,eI (eu n W (eI (eH rfl)))⟩)) q.f,k (eI (eI ⟨J,eI (eu n W (eI (eI rfl)))⟩)) q.e⟩
theorem fk.z{r:et}(s:fk N I B a t H)(b:qU H M r)(j:B r=eh)(R:¬jx a t r):fk N I B a t M:=by
 have k:∀{x:et} {p:AO},B x=d9 p->M x=H x:=λ{x p} h=>b x λ(e:x=r)=>by rw[e,j] at h;exact nS h
 exact⟨s.b.f b R,λx p Z y=>(k Z).trans (s.f x p Z y),λx p Z=>(s.i x p Z).imp λX h=>(k Z).trans h,s.l,s.m,s.u,s.r,s.p,s.c⟩
theorem fk.s{r:et}{o:AO}(s:fk N I B a t H)(j:B r=eh)(R:¬jx a t r):fk N I B a t (eQ H r o):=s.z (Di H r o) j R
theorem kJ.e{A:jZ}{r:et}{o X:AO}(h:kJ A H)(R:H r=d9 o)(D:∀x,o≠.c x):kJ A (eQ H r X):=h.b λx p Z=>by
 rw[fw _ _ λc=>by rw[c,R] at Z;exact D _ (eX Z)];exact Z
structure gK(c:Cx)(B:AH)(a0:Ad)(t0:eB)(wr:List Nat)(ρ:eJ)(H:AH)(t':eB)(F':Fr)(a':Ad)(ρ':eJ)(H':AH):Prop where
 d:FR c B a' t' F' ρ' H'
 a:fk a0 t0 B a' t' H'
 f:∀i u,i∉wr->iy c ρ H (nm i) u->iy c ρ' H' (nm i) u
theorem FR.K(f:FR c B a t F V H):FR c B a t (λx=>(F x).map eD.e) V H:=by
 refine⟨λi v N=>?_,λi x v w r U N U D=>?_,f.f,f.inj,f.b⟩
 ·(refine ie N λQ K O=>?_;(clear N;obtain rfl:=O))
  refine f.e i Q K λu L T U=>?_;exact(fQ u L T.f (by rw[rv];nofun))
 ·(refine ie N λQ K m=>?_;(clear N;obtain rfl:=m))
  rw[rv] at D;exact nB D
def ru(Y:gZ)(i:Nat):Bool:=jT Y i ey||jT Y i fK
theorem ql{i:Nat}{k:fX}(h:jT Y i k=eb):i<113:=of_decide_eq_true (m9.mp h).2
theorem tL{i j:Nat}{n:et}{u w:ed}(f:FR c B a t F V H)(R:i<113)(z:c.a.kindOf (eE (nm i))=d9 fK)(X:c.a.cells.lookup (eE (nm i))=d9 n)(J:j≠i):
  iy c V (eQ H n (.g (d9 w))) (nm j) u↔iy c V H (nm j) u:=by
 have S:c.a.kindOf (eE (nm j))=d9 fK->∀p,c.a.cells.lookup (eE (nm j))=d9 p->p≠n:=λK p I e=>by
  subst e;exact J (ul R (oE.mp (f.inj _ _ _ z K X I))).symm
 refine or_congr Au (and_congr_right λL=>exists_congr λp=>and_congr_right λC=>?_);rw[fw _ _ (S L p C)]
theorem FR.C{i:Nat}{v:eD}{u:ed}{n:et}{Q:Option ed}(f:FR c B a t F V H)(R:i<113)(z:c.a.kindOf (eE (nm i))=d9 fK)(X:c.a.cells.lookup (eE (nm i))=d9 n)(w:H n=d9 (.g Q))
  (N:VR H a t v u) (D:v.i=eb->∃r,u=ec r∧B r=eh)
  (S:v.k=eb->∀U aa,U≠i->F U=d9 aa->aa.k=eb->(v.i||aa.i)=eb->¬iy c V H (nm U) u):FR c B a t (eL F i v) V (eQ H n (.g (d9 u))):=by
 have A:iy c V (eQ H n (.g (d9 u))) (nm i) u:=eI ⟨z,n,X,gA _ _ _⟩;have C:∀{aa:eD} {q:ed},VR H a t aa q->VR (eQ H n (.g (d9 u))) a t aa q:=by
  intro aa q h;refine VR.m (b:=.g Q) w (λb e=>by cases e) h λE e=>?_;refine fT (h.l E) λr o O m d=>?_;rw[e] at O;cases O;rw[w] at m;rw[←eX m] at d;exact At d
 refine⟨λU aa E=>?_,λU k aa G r J E s K I g y=>?_,λx Z=>?_,f.inj,f.b.e w λx e=>by cases e⟩
 ·by_cases e:U=i
  ·clear R z X S
   subst e;rw[show eL F U v U=d9 v from if_pos rfl] at E;obtain rfl:=eX E;exact(fQ u A (C N) D)
  ·rw[show eL F i v U=F U from if_neg e] at E
   refine f.e U aa E λq L T W=>?_;exact(fQ q ((tL f R z X e).mpr L) (C T) W)
 ·by_cases e:U=i
  ·subst e
   rw[show eL F U v U=d9 v from if_pos rfl] at E;rw[show eL F U v k=F k from if_neg (gM J)] at s;obtain rfl:=eX E;rw[g.b A] at y;exact S (uw K) k G (gM J) s I (by rw[K];rfl) ((tL f R z X (gM J)).mp y)
  ·rw[show eL F i v U=F U from if_neg e] at E
   by_cases P:k=i
   ·subst P
    rw[show eL F k v k=d9 v from if_pos rfl] at s;obtain rfl:=eX s;rw[y.b A] at g;exact S I U aa e E (uw K) (by rw[K];exact pG _) ((tL f R z X e).mp g)
   ·rw[show eL F i v k=F k from if_neg P] at s
    exact f.d U k aa G r J E s K I ((tL f R z X e).mp g) ((tL f R z X P).mp y)
 ·refine f.g x Z λp Y L T W=>?_
  by_cases e:p=n
  ·clear X w A C
   subst e;exact(fS p _ L (gA _ _ _) W)
  ·exact(fS p Y L (by rw[fw _ _ e];exact T) W)
def vo(H M:AH):Prop:=∀r A,H r=d9 (.f A)->M r=d9 (.f A)
theorem So{v:eD}(M:v.t=eb):v.i=false:=by cases v<;>first|rfl|(cases h:‹Bool›<;>first|rfl|(rw[h] at M;exact nB M))
theorem Sp{v:eD}(M:¬v.t=eb)(y:v.k=eb):v.i=true:=by
 cases v with
 |c o z=>(clear y;cases o)<;>first|rfl|exact absurd rfl M
 |g o z=>(clear y;cases o)<;>first|rfl|exact absurd rfl M
 |_=>exact nB y
theorem qR{i:Nat}{v:eD}{u:ed}{Q:eJ->AH->Prop}(b:Bd d P em Y c B F a t V H)(o:fk N I B a t H)(R:ru Y i=eb)(X:VR H a t v u)(D:v.i=eb->∃r,u=ec r∧B r=eh)
  (S:v.i=eb->∀k w,F k=d9 w->w.k=eb->¬iy c V H (nm k) u) (G:∀l M,vo H M->gK c B N I [i] V H t (Internal.oG F i v) a l M->Q l M):TN c (nm i) u V H Q:=by
 have aa:∀{A:Fr},(∀k w,A k=d9 w->w.k=eb->(v.i||w.i)=eb->v.k=eb->∃Z,F k=d9 Z∧Z.k=eb∧v.i=eb)->FR c B a t A V H->TN c (nm i) u V H λl M=>vo H M∧gK c B N I [i] V H t (eL A i v) a l M:=by
  intro A hF f;have p:v.k=eb->∀k w,k≠i->A k=d9 w->w.k=eb->(v.i||w.i)=eb->¬iy c V H (nm k) u:=λK k w U j g y=>by
   refine f5 (hF k w j g y K) λZ L T W=>?_;exact S W k Z L T
  rcases Du.mp R with z|z
  ·refine oR b.b.a (j8 b.b z) ⟨λU U h=>h,f.l (ql z) (j8 b.b z) X D p,o,λk q J h=>(qN (ql z) λe=>J (e▸gL _)).mpr h⟩
  ·refine f.g _ (j8 b.b z) λn v0 L T W=>?_
   refine Fc b.b.a (j8 b.b z) L T ⟨Af T λus e=>(by cases e),f.C (ql z) (j8 b.b z) L T X D p,o.s (W (b.b.g rfl)) (A8 o.b T rfl),λk q J h=>(tL f (ql z) (j8 b.b z) L λe=>J (e▸gL _)).mpr h⟩
 have O:∀{A:Fr},Internal.oG F i v=eL A i v->(TN c (nm i) u V H λl M=>vo H M∧gK c B N I [i] V H t (eL A i v) a l M)->TN c (nm i) u V H Q:=λe h E s v' S C=>
  fc (h E s v' S C) (λU s' q1=>iH q1 λl M x ac=>⟨l,M,x,G _ _ ac.1 (e▸ac.2)⟩) λU U x=>x
 by_cases m:v.t=eb
 ·refine O (if_pos m) (aa (λk w K j g y=>?_) b.g.K)
  (refine ie K λZ L e3=>?_;(clear K j;obtain rfl:=e3))
  rw[So m,rv] at g;exact nB g
 ·refine O (if_neg m) (aa (λk w K j U y=>(fQ w K j (Sp m y))) b.g)
noncomputable def Pt(i:Nat)(A:gZ):Bool:=A.all λp=>!(p.1==i&&(p.2==ey||p.2==fK))
noncomputable def eW.R:eW->Option Es
 |.A b=>d9 b
 |_=>eh
noncomputable def eW.O:eW->Option gZ
 |.B _ _ _ _ b=>d9 b
 |_=>eh
def rx(x:eP):Bool:=(x1 x).pos.endLine==x.pos.line
def I1(Y:gZ)(m:List Nat)(a J:List eP):Bool:=m.all (λi=>jT Y i ey)&&(m.length==2||m.length==3)&&J.length==m.length&&((jU m a).all λx=>x.pos.line==((jU m a).head?.map (·.pos.line)).getD 0)&&eU m.Nodup&&!(J.all (K3 8))&&!(J.all (K2 8))
mutual
noncomputable def js.G(Y:gZ):js->fG->Bool
 |.a i e,E=>ru Y i&&e.y em Y em (sE E)&&e.O.all λP=>jT Y i ey&&(sT E).pos.line==(sE E).pos.line&&Pt i P
 |.l M I e,E=>I.all (ru Y)&&e.y em Y em (sE E)&&e.O.isNone&&(match e.R with|some O=>(if M then I1 Y I (xl (sT E)) (O.c (xl (sE E))) else I.all (λi=>jT Y i fK)&&eU (I≠[]))|none=>!M)
 |.z I x,E=>I.all (ru Y)&&rx (sE E)
 |.y i t x,E=>ru Y i&&rx (x2 (sE E))
 |.d o f e,E=>eU (f<23)&&e.O.isNone&&e.y em Y em (sE E)&&o.y em Y em (x1 (sT E))
 |.B o x,E=>o.y em Y em (x1 (sT E))
 |.s i K e,E=>e.O.isNone&&e.y em Y em (sE E)&&K.all (λf=>eU (f<16))&&eU (K≠[])
 |.n x k e,E=>e.O.isNone&&e.y em Y em (sE E)&&k.y em Y em (x2 (sT E))
 |.m x e,E=>rx (sE E)&&e.y em Y em ((xl (sE E)).headD fU)
 |.r x e,E=>rx (sE E)&&e.y em Y em ((xl (sE E)).headD fU)
 |.A x k e,E=>rx (sE E)&&k.y em Y em ((xl (sE E)).headD fU)&&e.y em Y em ((xl (sE E)).tail.headD fU)
 |.C o e,E=>rx (sE E)&&e.y em Y em ((xl (sE E)).headD fU)
 |.q t e,E=>rx (sE E)&&e.y em Y em ((xl (sE E)).headD fU)
 |.h e,E=>e.O.isNone&&e.y em Y em (sE E)
 |.c J b o,E=>J.y em Y eb (sE E)&&b.e Y (sB E)&&o.e Y (sO E)
 |.w J b,E=>J.y em Y eb (sE E)&&b.e Y (sB E)
 |.j N L b,E=>L.k em Y (sE E)&&N.all (λi=>jT Y i ey)&&eU (N.length=L.l)&&b.e Y (sB E)
 |.g e,E=>e.y em Y em (sE E)
 |.u _,_=>eb
 |.D,_=>eb
 |.p,_=>eb
noncomputable def Ss.e(Y:gZ):Ss->List fG->Bool
 |.b,_=>eb
 |.a s r,z=>s.G Y (z.headD gH)&&r.e Y z.tail
end
def Bv(H:AH)(a:Ad)(t:eB)(B:AH):Fl->gr->Prop
 |.a,f=>f=fY
 |.b v,f=>∃u,f=iV u∧VR H a t v u∧(v.i=eb->∃r,u=ec r∧B r=eh)
def S1(d:ir)(P:iE)(s:js):Prop:=∀{Y c x t F X D A},s.G Y x=eb->s.F d t F=d9 (X,D,A)->∀{B N I a V H Q},Bd d P em Y c B F a t V H->fk N I B a t H->
 (∀f b l M,gK c B N I s.H V H D A b l M->Bv M b D B X f->Q f l M)->T1 c (s.v x) V H Q
theorem kh{s:js}(k:∀{Y c x t F} {r:Fl×eB×Fr},s.G Y x=eb->s.F d t F=d9 r->∀{B N I a V H Q},Bd d P em Y c B F a t V H->fk N I B a t H->
 (∀f e l M,gK c B N I s.H V H r.2.1 r.2.2 e l M->Bv M e r.2.1 B r.1 f->Q f l M)->T1 c (s.v x) V H Q):S1 d P s:=λ{U U U U U U U U} X h {U U U U U U U} b g G=>k X h b g G
theorem gK.b{s:Ad}(b:Bd d P j Y c B F a t V H)(S:fk N I B a t H)(p:fk a t H s D M):gK c B N I [] V H D F s V M:=
 ⟨(b.e p).g,S.d p,λi u U h=>h.a λn v h=>p.f _ _ h (nE b.f h rfl)⟩
theorem gK.e{a L:List Nat}{E S:eB}{K b:Fr}{O v:Ad}{w n:eJ}{Z d:AH}(p:gK c B N I a V H E K O w Z)(q:gK c B N I L w Z S b v n d):gK c B N I (a++L) V H S b v n d:=
 ⟨q.d,q.a,λi u R h=>q.f i u (λe=>R (lc.mpr (eI e))) (p.f i u (λe=>R (lc.mpr (eH e))) h)⟩
theorem gK.g{e:List Nat}{E:eB}{K:Fr}{O:Ad}{w:eJ}{Z:AH}(b:Bd d P j Y c B F a t V H)(p:gK c B N I e V H E K O w Z):Bd d P j Y c B K O E w Z:=⟨b.b,p.d,p.a.b⟩
theorem u8{e:Nat}{w:eD}{r:et}{s:Ad}(b:Bd d P j Y c B F a t V H)(p:fk a t H s D M)(R:H r=eh)(E:F e=d9 w)(g:w.k=eb):¬iy c V M (nm e) (ec r):=λh=>by
 have f:=b.g.k h λn v h=>p.f _ _ h (nE b.f h rfl);refine b.g.e e w E λu L T U=>?_;refine fT (T.l g) λl o O m U=>?_;rw[←f.b L] at O;cases O;rw[R] at m;cases m
theorem nY{e:eW}(h:e.O=eh)(x:eP)(N:Option eP)(l:Nat)(B:iN):tJ (e.u x) N l B=f9 false:=by
 cases e with
 |B=>exact iX h
 |_=>rfl
theorem jN{i:Nat}{e:eW}(n:SE d P e)(W:e.O=eh):S1 d P (.a i e):=kh λ{Y c x t F r} X h {B N I a V H Q} b S G=>by
 refine ou h λv z K l=>?_;clear h;subst l;refine fq X λm U=>?_;refine fq m λA f=>?_;refine tM (n f K b λu O Z p g D=>?_) (nY W _ _ _ _);refine qR (b.e p) (S.d p) A g (λo=>(D o).imp λr e=>⟨e.1,S.h e.2⟩) (λo j w s J=>?_) λy M U q=>G fY O y M ((gK.b b S p).e q) rfl
 (refine eR (D o) λr k R=>?_;(clear g D;obtain rfl:=k))
 exact u8 b p R s J
theorem LH{i:Nat}{T:eW}{tg:List Nat}{L:iF}{aa:Es}{A:gZ}(hs:oW d P L)(he:SE d P T)(R:tZ d P aa):S1 d P (.a i (.B T tg L aa A)):=kh λ{Y c x t F ak} X h {B N I a V H Q} b S G=>by
 refine ou h λv t1 K l=>?_;clear h;subst l;refine fq X λaf ac=>?_;refine fq af λaj f=>?_;refine fq ac λg O=>?_;refine fq g λZ ae=>?_
 (refine i8 (Gk hs he R f K b) λU W C g3=>?_;refine eR g3 λas e2 ag=>?_;(clear K g3;obtain rfl:=e2))
 refine MP b.b.a (b.b.g rfl) ?_ (j8 b.b Z) (CW b W) (λy o=>?_) (ag λz s M p r D hD=>?_) (Db L _ _) (zN W) rfl (zO W)
 ·show(f9 (c.a.blockKind==jH&&c.a.kindOf (eE (nm i))==d9 ey&&(sT x).pos.line==(sE x).pos.line&&!((fM A).names.any λ(n,k)=>n==eE (nm i)&&(k==ey||k==fK))):Sem Bool)=f9 eb
  have hz:((fM A).names.any λ(n,k)=>n==eE (nm i)&&(k==ey||k==fK))=false:=by
   rw(occs:=eO) [DA];intro y o
   (refine fP o λp hp e4=>?_;(clear o;obtain rfl:=e4))
   have:=iC.mp O p hp;have e:(eE (nm p.1)==eE (nm i))=(p.1==i):=by
    rw(occs:=eO) [As,beq_iff_eq,beq_iff_eq,oE];exact⟨λe=>(ul (ql Z) e.symm).symm,λe=>e▸rfl⟩
   dsimp only;rw[e];exactλq=>by rw[q] at this;exact nB this
  rw[hz,b.b.j,j8 b.b Z,ae];rfl
 ·(refine fP o λi R e5=>?_;(clear o;obtain rfl:=e5))
  exact(mW (ur W)).trans (of_decide_eq_true (m9.mp (C i R)).1)
 ·have m:=p.d (fk.g (o:=.a z) p.b hD)
  refine G fY s _ _ ((gK.b b S m).e ⟨(b.e m).g.l (ql Z) (j8 b.b Z) (rA p.b hD r) (λU=>(eu D rfl (S.h (p.h hD)))) (λU j w U hw J U=>u8 b m (p.h hD) hw J),S.d m,λj u J h=>(qN (ql Z) λe=>J (e▸gL _)).mpr h⟩) rfl
theorem M3:∀{m:List Nat} {as:List eT} {f:List ed} {z:List eP} {F:Fr} {V:eJ} {H:AH} {Q:eJ->AH->Prop},m.all (ru Y)=eb->as.length=m.length->Bd d P em Y c B F a t V H->fk N I B a t H->gN H a t as f->
  (∀l M,gK c B N I m V H t (fV F m as) a l M->Q l M)->oX c (jU m z) f V H Q:=by
 intro m
 induction m with
 |nil=>
  intro as f z F V H Q U C b S h G;rw[oK.mp C] at h G;rw[show f=[] from h];exact G _ _ ⟨b.g,S,λU U U h=>h⟩
 |cons i m D=>
  intro as f z F V H Q R C b S h G;cases as with
  |nil=>exact nZ C
  |cons x as=>
   refine fT h λu W e g O=>?_;rw[e];refine fe (Wa.symm.trans R |> m9.mp) λJ L=>?_;refine tP (qR b S J (v:=.b x) g (λh=>nB h) (λh=>nB h) λw Z p q=>?_);have q:gK c B N I [i] V H t (eL F i (.b x)) a w Z:=q;have K:gN Z a t as W:=O.e p;exact D L (ny C) (gK.g b q) q.a K λn T r=>G _ _ (q.e r)
theorem zU{e:eW}(h:e.R=eh)(a:List eP)(k:Nat)(p:fE)(x:eP)(B:iN):qK [iD a k p] (e.u x) B=f9 none:=by
 cases e with
 |A=>exact iX h
 |_=>rfl
set_option backward.match.sparseCases true in
noncomputable def oH(B:iN)(R:Nat)(e:eP):Option Str:=match e with
 |gk id d=>if B.kindOf id==d9 ey&&d.line==R then d9 id else eh
 |_=>eh
set_option backward.match.sparseCases true in
theorem I3(a J:List eP)(k Z:Nat)(p v:fE)(B:iN):qK [iD a k p] (iD J Z v) B=
  (if(!(a.length==2||a.length==3)||J.length !=a.length||B.blockKind !=jH)=eb then f9 eh else
  if(J.any λ|KH .. =>eb|_=>em)=eb then f9 eh else
  if((a.filterMap (oH B ((a.head?.map (·.pos.line)).getD 0))).length !=a.length||(a.filterMap (oH B ((a.head?.map (·.pos.line)).getD 0))).eraseDups.length !=(a.filterMap (oH B ((a.head?.map (·.pos.line)).getD 0))).length)=eb then f9 eh else
  if J.all (K3 8)=eb then f9 eh else
  if J.all (K2 8)=eb then(do unsupported "assign.tuple-of-constant-expressions:order-of-the-stores";f9 (d9 (a.filterMap (oH B ((a.head?.map (·.pos.line)).getD 0))))) else f9 (d9 (a.filterMap (oH B ((a.head?.map (·.pos.line)).getD 0))))):=by
 rfl
theorem CJ:∀(m:List Nat) (z:List eP),(jU m z).length=m.length:=by
 intro G
 induction G with
 |nil=>
  intro U;exact rfl
 |cons i m D=>
  intro z;exact congrArg (·+1) (D z.tail)
theorem I2{a J:List eP}{k Z:Nat}{p v:fE}{B:iN}(y:∀l,a.filterMap (oH B l)=[])(W:a≠[]):qK [iD a k p] (iD J Z v) B=f9 none:=by
 rw(occs:=eO) [I3,y];have:(([]:List ft).length !=a.length)=true:=by
  cases a with
  |nil=>exact absurd rfl W
  |cons=>rfl
 rw[this]
 split
 ·rfl
 ·split<;>rfl
theorem UH{B:iN}(l:Nat):∀{m:List Nat} (z:List eP),(∀i∈m,B.kindOf (eE (nm i))=d9 fK)->(jU m z).filterMap (oH B l)=[]:=by
 intro G
 induction G with
 |nil=>
  intro U U;exact rfl
 |cons i m D=>
  intro z h;show Wg _ (jy i _::jU m z.tail)=[];rw[DB];have:oH B l (jy i (z.headD fU))=none:=by
   show(if(B.kindOf (eE (nm i))==d9 ey&&_)=eb then _ else eh)=eh;rw[h i (gL _)];rfl
  rw[this];exact D z.tail λj J=>h j (gu _ J)
theorem PQ{L:Type}[BEq L][LawfulBEq L]:∀{l:List L},l.Nodup->l.eraseDups=l:=by
 intro G
 induction G with
 |nil=>
  intro U;exact rfl
 |cons x l D=>
  intro h;refine qm h λK I=>?_;rw[List.eraseDups_cons,Wi.mpr λy B=>by
   rw[Bool.not_eq_eq_eq_not,V0,beq_eq_false_iff_ne];exactλe=>K (e▸B),D I]
theorem HS:∀{m:List Nat},m.Nodup->(∀i∈m,i<113)->(m.map λi=>eE (nm i)).Nodup:=by
 intro G
 induction G with
 |nil=>
  intro U U;exact n8
 |cons i m D=>
  intro h B;refine qm h λw o=>?_;rw(occs:=eO) [gj,kE];refine⟨λY=>?_,D o λj J=>B j (gu _ J)⟩;refine fP Y λj J e=>?_;rw[ul (B j (gu _ J)) (oE.mp e)] at J;exact w J
set_option backward.match.sparseCases true in
theorem OJ:∀{J:List eP},iQ J=eb->(J.any λ|KH .. =>eb|_=>em)=false:=by
 intro G
 induction G with
 |nil=>
  intro U;exact rfl
 |cons y J D=>
  intro h;rw[Aw];cases y<;>first|(exact nB h;done)|exact D h
theorem UI{m:List Nat}{a J:List eP}{k Z:Nat}{p v:fE}(b:jA d P em Y c)(h:I1 Y m a J=eb)(S:iQ J=eb):qK [iD (jU m a) k p] (iD J Z v) c.a=f9 (d9 (m.map λi=>eE (nm i))):=by
 refine fq h λo n=>?_;refine fq o λF N=>?_;refine fq F λC f=>?_;refine fq C λM y=>?_;refine fq M λO e=>?_;refine fq O λK I=>?_;rw(occs:=eO) [I3];have q:∀(l:Nat) (m:List Nat) (z:List eP),(∀i∈m,jT Y i ey=eb)->((jU m z).all λx=>x.pos.line==l)=eb->(jU m z).filterMap (oH c.a l)=m.map λi=>eE (nm i):=by
  intro l m
  induction m with
  |nil=>intro z _ _;rfl
  |cons i m D=>
   intro z O g;refine fq (Wa.symm.trans g) λL T=>?_;show Wg _ (jy i _::jU m z.tail)=_;rw[DB];have:oH c.a l (jy i (z.headD fU))=d9 (eE (nm i)):=by
    show(if(c.a.kindOf (eE (nm i))==d9 ey&&(z.headD fU).pos.line==l)=eb then _ else eh)=_;rw[j8 b (O i (gL _)),show((z.headD fU).pos.line==l)=eb from L];rfl
   rw[this];exact congrArg (_::·) (D z.tail (λj r=>O j (gu _ r)) T)
 rw(occs:=eO) [q _ m a (iC.mp K) y,CJ,fC];have B:∀i∈m,i<113:=λi R=>ql (iC.mp K i R);have E:=HS (of_decide_eq_true f) B;rw[PQ E,fC,I,b.j];have A:(J.length !=m.length)=false:=by rw(occs:=eO) [bne,e];rfl
 rw[A];rw[OJ S,(by simpa using N:J.all (K3 8)=false),(by simpa using n:J.all (K2 8)=false)];simp
theorem N1:∀{m:List Nat} {as:List eT} {f:List ed} {F:Fr} {V:eJ} {H:AH} {Q:eJ->AH->Prop},(∀i∈m,ru Y i=eb)->as.length=m.length->Bd d P em Y c B F a t V H->fk N I B a t H->gN H a t as f->
  (∀l M,gK c B N I m V H t (fV F m as) a l M->Q l M)->yC c (m.map nm) f V H Q:=λ{m}=>by
 induction m with
 |nil=>
  intro as f F V H Q U C b S h G;rw[oK.mp C] at h G;rw[show f=[] from h];exact G _ _ ⟨b.g,S,λU U U h=>h⟩
 |cons i m D=>
  intro as f F V H Q R C b S h G;cases as with
  |nil=>exact nZ C
  |cons x as=>
  refine fT h λu W e g O=>?_;rw[e];refine qR b S (R i (gL _)) (v:=.b x) g (λh=>nB h) (λh=>nB h) λw Z p q=>?_;have q:gK c B N I [i] V H t (eL F i (.b x)) a w Z:=q;exact D (λj J=>R j (gu _ J)) (ny C) (gK.g b q) q.a (O.e p) λn T r=>G _ _ (q.e r)
theorem ES{m:List Nat}{as:List eT}{u:ed}{z:List eP}{k:Nat}{p:fE}{Q:eJ->AH->Prop}(g:c.b.handled=eh)(R:m.all (ru Y)=eb)(C:as.length=m.length)(b:Bd d P em Y c B F a t V H)(S:fk N I B a t H)(h:AR H a t (.f as) u)
  (G:∀l M,gK c B N I m V H t (fV F m as) a l M->Q l M):rY c (iD (jU m z) k p) u V H Q:=by
 (refine fT h λr e O L T=>?_;(clear h;obtain rfl:=O))
 exact Bc g L (by rw[T.b,CJ,C]) (CK _ _) (M3 R C b S T G)
theorem JT{e:eW}{w:Es}(h:e.R=d9 w):e=.A w:=by
 cases e<;>first|(obtain rfl:=eX h;rfl)|exact nS h
theorem LK{g:Bool}{m:List Nat}{e:eW}(n:SE d P e):S1 d P (.l g m e):=kh λ{Y c x t F r} X h {B N I a V H Q} b s0 G=>by
 refine hV h λv t1 K k1=>?_;refine fy k1 λas h2 k=>?_
 (refine gm k λT s=>?_;refine fe T λy C=>?_)
 clear h k1 k;obtain rfl:=eX s;refine fq X λae D=>?_;refine fq ae λz ac=>?_;refine fq z λA f=>?_;have hn:e.O=none:=by simpa using ac
 have af:(qK [iD (jU m (xl (sT x))) (xk (sT x)) (sT x).pos] (e.u (sE x)) c.a=f9 eh)->g=em->T1 c ((js.l g m e).v x) V H Q:=λhw W=>by
  clear X D;clear s;subst W;refine yj (n f K b λu O Z p hv U=>?_) (nY hn (sE x) (d9 (iD (jU m (xl (sT x))) (xk (sT x)) (sT x).pos)) x.pos.line c.a) hw;rw[xd h2] at hv;exact ES (b.b.f y) A C (b.e p) (s0.d p) hv λl M q=>G fY O l M ((gK.b b s0 p).e q) rfl
 cases aa:e.R with
 |none=>
  rw[aa] at D;exact af (zU aa _ _ _ _ _) (by simpa using D)
 |some w=>
  rw[aa] at D;have:=JT aa;clear X ae z ac hn aa;subst this;cases g with
  |false=>
   refine fq D λq1 o=>?_;exact af (I2 (λag=>UH ag _ λi R=>j8 b.b (iC.mp q1 i R)) λe=>of_decide_eq_true o (oK.mp (by rw[←CJ m (xl (sT x)),e];rfl))) rfl
  |true=>
   have W:qK [iD (jU m (xl (sT x))) (xk (sT x)) (sT x).pos] (iD (w.c (xl (sE x))) (xk (sE x)) (sE x).pos) c.a=f9 (d9 ((m.map nm).map eE)):=by
    rw[gJ];exact UI b.b D (mF _ _)
   refine MQ (m.map nm) (b.b.f y) (n f K b λu O Z p hv U=>?_) rfl W;rw[xd h2] at hv
   (refine fT hv λr us e3 L T=>?_;(clear hv;(clear U;obtain rfl:=e3)))
   refine(kK r us rfl L (by rw[T.b,fC,C]) ?_);rw[←nq];refine N1 (λi R=>iC.mp A i (lH.mp R)) (by rw[n6,n6,C]) (b.e p) (s0.d p) T.p λl M q=>G fY O l M ((gK.b b s0 p).e ⟨q.d,q.a,λj aj J hw=>q.f j aj (λe=>J (lH.mp e)) hw⟩) rfl
theorem FR.s{i:Nat}{v b:eD}{r:et}{o X:AO}(f:FR c B a t F V H)(D:F i=d9 v)(ho:v.i=eb)(ae:b.i=eb)(g:iy c V H (nm i) (ec r))(R:H r=d9 o)(Y:o.i=eb)(N:VR (eQ H r X) a t b (ec r))(hB:B r=eh):
  FR c B a t (eL F i b) V (eQ H r X):=by
 have O:∀A,o≠.f A:=λA e=>by rw[e] at Y;exact nB Y
 have C:∀n v,H n=d9 (.g v)->eQ H r X n=d9 (.g v):=λn v h=>by
  rw[fw _ _ λe=>by rw[e,R] at h;(clear R O;obtain rfl:=eX h);exact nB Y];exact h
 have ac:∀{v:eD},v.i=eb->v.k=true:=λ{v} h=>by cases v<;>first|rfl|exact nB h
 refine⟨λj w E=>?_,λj k w G q aa E s K I h3 y=>?_,λx Z=>?_,f.inj,f.b.e R λx e=>by rw[e] at Y;exact nB Y⟩
 ·by_cases e:j=i
  ·clear D
   subst e;rw[show eL F j b j=d9 b from if_pos rfl] at E;obtain rfl:=eX E;exact(fQ _ (g.a C) N (λU=>(eu r rfl hB)))
  ·rw[show eL F i b j=F j from if_neg e] at E
   refine f.e j w E λu L T W=>?_;exact(fQ u (L.a C) (T.m R O λJ P=>f.d i j v w r (gM e) D E ho J g (P▸L)) W)
 ·have S:∀{l:Nat} {z:eD},eL F i b l=d9 z->∃p,F l=d9 p∧(z.i=eb->p.i=eb)∧(z.k=eb->p.k=eb):=λ{l z} hz=>by
   by_cases e:l=i
   ·exact(fQ v (e▸D) (λU=>ho) (λU=>ac ho))
   ·exact(fQ z ((show eL F i b l=F l from if_neg e)▸hz) id id)
  refine f5 (S E) λz e1 m U=>?_;refine f5 (S s) λz' d U M=>?_;exact f.d j k z z' q aa e1 d (m K) (M I) (f.k h3 C) (f.k y C)
 ·refine f.g x Z λn Q L T W=>?_
  exact(fS n Q L (C _ _ T) W)
structure rV(c:Cx)(B:AH)(F:Fr)(a:Ad)(t:eB)(ρ:eJ)(H:AH)(i:Nat)(xs:List eT)(r:et)(us:List ed):Prop where
 j:F i=d9 (.c eb xs)
 h:iy c ρ H (nm i) (ec r)
 b:H r=d9 (.a us)
 d:gN H a t xs us
 g:¬jB a t r
 e:¬jx a t r
 f:B r=eh
theorem Lf{j:Bool}(b:Bd d P j Y c B F a t V H){i:Nat}{z:List eT}(h:jE F i=d9 z):∃r f,rV c B F a t V H i z r f∧∀p Q,Q (ec r) H->TE c (gk (eE (nm i)) p) V H Q:=by
 refine fy h λv K I=>?_;rw[CO I] at K;obtain⟨u,⟨r,f,rfl,L,T,W,g⟩,k,s,M⟩ :=b.k K;obtain⟨l,e,n⟩ :=s rfl;cases e;exact(ib r f ⟨K,k,L,T,W,g rfl,n⟩ M)
theorem Bd.i{j:Bool}(b:Bd d P j Y c B F a t V H){i:Nat}{z:List eT}(h:jE F i=d9 z){G:Prop}(N:∀r l,rV c B F a t V H i z r l->(∀p Q,Q (ec r) H->TE c (gk (eE (nm i)) p) V H Q)->G):G:=iH (Lf b h) N
theorem rV.k{s:Ad}{i:Nat}{z:List eT}{r:et}{b:List ed}(o:rV c B F a t V H i z r b)(w:Wd H a t)(p:fk a t H s D M):rV c B F s D V M i z r b:=
 ⟨o.j,o.h.a λn v h=>p.f _ _ h (nE w h rfl),p.f _ _ o.b o.g,o.d.d p w,p.w o.b o.g,p.y o.b o.e,o.f⟩
theorem rV.l{w:List Nat}{i:Nat}{z R:List eT}{r:et}{f Z:List ed}(o:rV c B F a t V H i z r f)(b:Bd d P em Y c B F a t V H)(g:fk N I B a t H)
  (S:gN H a t R Z):gK c B N I w V H t (eL F i (.c eb R)) a V (eQ H r (.a Z)):=by
 have u:=g.s (o:=.a Z) o.f o.e;refine⟨b.g.s (b:=.c eb R) o.j rfl rfl o.h o.b rfl (y9 r Z rfl (gA _ _ _) (S.e (Af o.b λf e=>by cases e)) o.g (λU=>o.e)) o.f,u,λj k U h=>h.a λn v h=>?_⟩;rw[fw _ _ λe=>by rw[e,o.b] at h;cases h];exact h
theorem NL{o e:eP}{Y d:fE}{Q:ed->AH->Prop}(O:c.d)(j:PB o)(f:iQ [e]=eb)(z:(Y.endLine==d.line)=eb)(n:∀b,kz [e] b=(em,jc e b)::kz [] b)
  (h:TE c o V H (λv Z=>∃l R,v=ec l∧Z l=d9 (.a R)∧TE c e V Z (λu T=>∃J,T l=d9 (.a J)∧J.length≤100000∧Q ez (eQ T l (.a (J++[u])))))):
  TE c (jr (jL o (eE "append") Y) [e] [] d) V H Q:=
 qQ O j f (by simp) z xL PySem.F.slot_list_append PySem.F.type_list_append (h.a λv Z w=>fT w λl R K I g=>⟨l,_,K,I,ut,jk (g.a λu T i=>f5 i λJ L a W=>kA (Nd L a W)) n⟩)
theorem NP{o e:eP}{Y d:fE}{Q:ed->AH->Prop}(O:c.d)(j:PB o)(k:iQ [e]=eb)(z:(Y.endLine==d.line)=eb)(n:∀f,kz [e] f=(em,jc e f)::kz [] f)
  (h:TE c o V H (λv Z=>∃l R,v=ec l∧Z l=d9 (.a R)∧TE c e V Z (λu T=>∃b J A,u=ec b∧T l=d9 (.a J)∧T b=d9 (.a A)∧J.length+A.length≤100000∧Q ez (eQ T l (.a (J++A)))))):
  TE c (jr (jL o (eE "extend") Y) [e] [] d) V H Q:=
 qQ O j k (by simp) z xL W7 PySem.F.type_list_extend (h.a λv Z m=>fT m λl R K I g=>⟨l,_,K,I,ut,jk (g.a λu T E=>mX E λb J A a L i p=>fe p λW P=>kA (by(clear E;subst a);exact Nh L i W P)) n⟩)
theorem NT{o:eP}{Y d:fE}{Q:ed->AH->Prop}(O:c.d)(j:PB o)(z:(Y.endLine==d.line)=eb)
  (h:TE c o V H (λv Z=>∃l J u,v=ec l∧Z l=d9 (.a (J++[u]))∧J.length<100000∧Q u (eQ Z l (.a J)))):
  TE c (jr (jL o (eE "pop") Y) [] [] d) V H Q:=
 qQ O j rfl (by decide) z xL W' PySem.F.type_list_pop (h.a λv Z k=>mX k λl J u K I g y=>⟨l,_,K,I,ut,kA (Nn I g y)⟩)
theorem LF{i:Nat}{e:eW}(n:SE d P e):S1 d P (.m i e):=kh λ{Y c x t F r} X h {B N I a V H Q} b S G=>by
 refine hV h λv L K l=>?_;refine fy l λz q k=>?_;refine fy k λy g s=>?_;refine gm s λC M=>?_;clear h l k s;obtain rfl:=eX M;refine fq X λD f=>?_;refine b.i q λr A o J=>?_;refine tO (NL b.b.a (λU U U=>rfl) (jp e _).2.1 D (λm=>(jp e _).2.2.2.1 m []) (J _ _ (fS r A rfl o.b (n f K b λu O Z p j U=>?_)))) b.b.h rfl;have w:=o.k b.f p;rw[yG g] at j;exact(fQ A w.b (by rw[w.d.b];exact C) (G fY O V _ ((gK.b b S p).e (w.l (b.e p) (S.d p) (w.d.g (fS u ([]) rfl j rfl)))) rfl))
theorem LO{i:Nat}{e:eW}(n:SE d P e):S1 d P (.r i e):=kh λ{Y c x t F r} X h {B N I a V H Q} b S G=>by
 refine hV h λv t1 K l=>?_;refine fy l λz D k=>?_;refine fy k λys g s=>?_;refine gm s λC M=>?_;clear h l k s;obtain rfl:=eX M;refine fq X λR f=>?_;refine b.i D λr A o J=>?_;refine tO (NP b.b.a (λU U U=>rfl) (jp e _).2.1 R (λy=>(jp e _).2.2.2.1 y []) (J _ _ (fS r A rfl o.b (n f K b λu O Z p j U=>?_)))) b.b.h rfl;have w:=o.k b.f p
 (refine lM p.b j g λq W m L T=>?_;(clear j;(clear U;obtain rfl:=m)))
 exact(Cf q A W rfl w.b L (by rw[w.d.b,T.b];exact C) (G fY O V _ ((gK.b b S p).e (w.l (b.e p) (S.d p) (w.d.g T))) rfl))
theorem gN.w:∀{z:List eT} {m:eT} {l:List ed},gN H a t (z++[m]) l->∃W f,l=W++[f]∧gN H a t z W∧AR H a t m f:=by
 intro G
 induction G with
 |nil=>
  intro U U L;exact fT L λu W c i S=>⟨[],u,by rw[c,show W=[] from S];rfl,rfl,i⟩
 |cons U _ D=>
  intro U U Z;refine fT Z λu W c i S=>?_;refine fT (D S) λJ f O n j=>?_;exact(fS (u::J) f (by rw[c,O];rfl) (fS u J rfl i n) j)
theorem Fa{i:Nat}{z:List eT}{y:eT}{x:eP}{Q:ed->AH->Prop}(C:rx x=eb)(h:jE F i=d9 z)(j:z.getLast? =d9 y)(l:z.length≤100000)(b:Bd d P em Y c B F a t V H)(S:fk N I B a t H)
  (G:∀u M,vo H M->AR M a t y u->gK c B N I [i] V H t (eL F i (.c eb z.dropLast)) a V M->Q u M):TE c (uj i "pop" [] x) V H Q:=by
 refine b.i h λr k o J=>?_;have e:z=z.dropLast++[y]:=by
  refine fL (List.getLast?_eq_some_iff.mp j) λq e=>?_;rw[e,Kd]
 have f:=o.d;rw[e] at f
 (refine fT f.w λW w m L T=>?_;(clear f;obtain rfl:=m))
 have g:(W++[w]).length=z.length:=o.d.b;have p:vo H (eQ H r (.a W)):=Af o.b λk e=>by cases e
 exact NT b.b.a (λU U U=>rfl) C (J _ _ (ph r W w rfl o.b (by rw[il,Wp] at g;lia) (G _ _ p (T.i p) (o.l b S L))))
theorem LI{m:List Nat}{i:Nat}:S1 d P (.z m i):=kh λ{Y c x t F r} X h {B N I a V H Q} b S G=>by
 refine fy h λz K l=>?_;refine fy l λv e k=>?_;refine fy k λas g s=>?_
 (refine gm s λW o=>?_;refine gY W λy C n=>?_)
 clear h l k s;obtain rfl:=eX o;refine fq X λA f=>?_;refine yj (Fa f K e n b S λu M D j p=>?_) rfl rfl;have:eD.b v=.b (.f as):=xd g;clear e g;cases this;exact ES (b.b.f y) A C (p.g b) p.a j λw R q=>G fY a w R (p.e q) rfl
theorem JZ{F:Fr}{f:Nat}{y:eP}{p:fE}{Q:ed->AH->Prop}(b:Bd d P j Y c B F a t V H)(h:uC F f=eb)(G:5≤t.g->Q (ec a.c) H):TE c (jL (jy f y) (eE "windows") p) V H Q:=by
 obtain⟨v,K,I⟩ :∃v,F f=d9 v∧v.p=true:=by
  unfold uC at h;cases D:F f with
  |none=>rw[D] at h;exact nB h
  |some v=>rw[D] at h;exact(eu v rfl h)
 rw[Ae I] at K;refine b.h K λu N U U E=>?_;have J:5≤t.g:=N.2;have A:qk t 16 (.b .c)=d9 .j:=by
  show(if 16≤16 then t.n[16-16]? else eh)=_;rw[if_pos (ig _)];unfold eB.n;rw[Az (by lia)];rfl
 refine v8 b.b.b b.f N A λx C z g q L e W U=>?_;refine qP (a:="windows") b.b.a (λU U U=>rfl) (E _ _ ⟨x,C,z,g,q,L,e.b,e.e,e.g,e.d,e.a,?_⟩);rw[W.1];exact G J
theorem LM{i j L:Nat}:S1 d P (.y i j L):=kh λ{Y c x t F r} X h {B N I a V H Q} b S G=>by
 refine fy h λz K l=>?_;refine fy l λW m k=>?_;refine fy k λn g s=>?_
 (refine gm s λv O=>?_;refine gY v λy C E=>?_)
 clear h l k s;obtain rfl:=eX O;refine fq X λA f=>?_;refine tM (Bj (JZ b y λJ=>Fa f K m E b S λu M tk D p=>?_)) rfl;have:eD.b W=.a n:=jS g;clear m g;cases this;rw[show u=vi n from D];have o:=p.a.b.b J;refine Bp o.c (wv C) (qR (p.g b) p.a A (v:=.b (.d n)) ⟨rfl,J,o.f n C⟩ nofun nofun λZ R U q=>G fY a Z R ?_ rfl) λU U=>rfl;exact⟨(p.e q).d,q.a,λT w C=>(p.e q).f T w λe=>C (gy.mpr ((gy.mp e).symm.imp gR.mp gR.mpr))⟩
theorem Ap{v:ed}{x:String}:∀{X:List String} {J:List ed} {f:Nat},X.Nodup->X[f]? =d9 x->f<J.length->kW x v (X.zip J)=X.zip (J.set f v):=by
 intro X
 induction X with
 |nil=>intro J f U h;rw[Kj] at h;exact nS h
 |cons n X D=>
  intro J f E h C;cases J with
  |nil=>exact absurd C (pI _)
  |cons u J=>
   cases f with
   |zero=>
    clear D;obtain rfl:=eX h;show kW n v ((n,u)::X.zip J)=_;rw[zP];rw[if_pos rfl];rfl
   |succ f=>
    refine qm E λw O=>?_;show kW x v ((n,u)::X.zip J)=_;rw[zP];rw[if_neg λe=>w (by rw[show n=x from e];exact tm h),D O h (Nat.lt_of_succ_lt_succ C)];rfl
theorem J1{n:Int}{w G:gE}{i:Int}{f:Nat}(h:w.l i f=d9 G):f<16∧(m8 a n w).set f (vi i)=m8 a n G∧G.a=w.a:=by
 unfold gE.l at h
 split at h<;>first|(obtain rfl:=eX h;exact⟨by decide,rfl,rfl⟩)|cases h
theorem U5{n:Int}{w G:gE}{i:Int}{f:Nat}(h:w.l i f=d9 G):kW (gf f) (vi i) (i0 a n w)=i0 a n G:=by
 refine gY (J1 (a:=a) (n:=n) h) λK I U=>?_;unfold i0;rw[Ap qh.1 (GK K) (show f<(m8 a n w).length from K),I]
theorem UW{i:Int}{f:Nat}(J:5≤t.g)(h:t.o i f=d9 D):(16≤f∧f<23)∧kW (gf f) (vi i) (jv a t)=jv a D∧5≤D.g∧D.c=t.c∧D.a=t.a∧D.b=t.b∧D.h=t.h∧D.k=t.k∧D.e=t.e:=by
 obtain⟨w,M,p,l,U,X,g,L,S,d⟩ :=t;have J:5≤g:=J;have W:g=5∨g=6∨g=7∨∃m,g=m+8:=by
  rcases Nat.lt_or_ge g 8 with q|q
  ·lia
  ·exact eI (eI (eI ⟨g-8,by lia⟩))
 have Z:∀m k,k≤8->max (m+8) k=m+8:=λm k z=>Nat.max_eq_left (by lia);unfold eB.o at h
 split at h
 ·obtain rfl:=eX h
  rcases W with rfl|rfl|rfl|⟨m,rfl⟩ <;>exact⟨by decide,rfl,J,rfl,rfl,rfl,rfl,rfl,rfl⟩
 ·obtain rfl:=eX h
  refine⟨by decide,?_,im J (WJ _ _),rfl,rfl,rfl,rfl,rfl,rfl⟩;clear J;clear J;rcases W with rfl|rfl|rfl|⟨m,rfl⟩
  ·rfl
  ·rfl
  ·rfl
  ·unfold jv;dsimp only;rw[Z m 6 (by decide)];rfl
 ·refine gm h λN h=>?_
  obtain rfl:=eX h;refine⟨by decide,?_,im J (WJ _ _),rfl,rfl,rfl,rfl,rfl,rfl⟩;clear J h;clear J;rcases W with rfl|rfl|rfl|⟨m,rfl⟩
  ·exact absurd (show 6≤5 from N) (by decide)
  ·rfl
  ·rfl
  ·unfold jv;dsimp only;rw[Z m 7 (by decide)];rfl
 ·exact nS h
theorem oz{x y:et}{o X:AO}(Z:H x=d9 o)(B:H y=d9 X)(h:o≠X):x≠y:=λe=>by
 rw[e,B] at Z;exact h (eX Z).symm
theorem J0{n m:Int}{w G:gE}(h:n≠m):AO.b (i0 a n w)≠.b (i0 a m G):=λe=>by
 injection e with e
 have this:d9 (vi n)=d9 (vi m):=congrArg (λl:List (String×ed)=>l.head?.map DY) e;clear e;cases this;exact h rfl
theorem Ah{n:Int}{w:gE}:AO.b (i0 a n w)≠.b (jv a t):=λe=>by
 injection e with e
 have K:d9 "number"=(jv a t).head?.map kG:=congrArg (λl:List (String×ed)=>l.head?.map kG) e;unfold jv at K;cases h:t.g with
 |zero=>rw[h] at K;cases K
 |succ k=>
  rw[h] at K;have K:d9 "number"=d9 "windows":=K;exact absurd K (by decide)
theorem fk.q{x:et}{o:AO}(d:Wd H a t)(Z:jB a t x)(G:Wd (Internal.eQ H x o) a D)(C:D.c=t.c)(W:5≤D.g↔5≤t.g)(N:D.h=t.h)(X:D.k=t.k):fk a t H a D (Internal.eQ H x o):=by
 have g:∀n,D.j n↔t.j n:=λn=>by unfold eB.j;rw[C]
 have b:∀y,jB a D y->jB a t y:=λy h=>h.imp id λw=>fe w λJ h=>⟨W.mp J,h.imp id λh=>h.imp id λc=>eR c λn q h=>⟨n,(g n).mp q,h⟩⟩;refine⟨G,λy p B I=>by rw[fw _ _ λ(e:y=x)=>I (e▸Z)];exact B,λy p B=>?_,λy h=>eH (b y h),λy h=>eH (h.imp (b y) λh=>h.imp id λu=>fe u λJ h=>⟨W.mp J,h.imp id λE=>eR E λn q h=>⟨n,(g n).mp q,h⟩⟩),X,rfl,rfl,λJ=>⟨W.mpr J,rfl,rfl,Av C.symm,λU U=>rfl,xB N.symm,λU U U=>rfl⟩⟩;by_cases e:y=x
 ·exact⟨o,by rw[e];exact gA _ _ _⟩
 ·exact⟨p,by rw[fw _ _ e];exact B⟩
theorem va{n:Int}{w:gE}:(t.f n w).a n=w:=if_pos rfl
theorem yi{n m:Int}{w:gE}(h:m≠n):(t.f n w).a m=t.a m:=if_neg h
theorem Wd.h{n:Int}{w:gE}(d:Wd H a t)(J:5≤t.g)(b:t.j n)(X:w.a=(t.a n).a):Wd (Internal.eQ H (a.g n) (.b (i0 a n w))) a (t.f n w):=by
 have R:=d.b J;have E:=R.b n b;have k:∀{x:et} {o:AO},H x=d9 o->o≠.b (i0 a n (t.a n))->Internal.eQ H (a.g n) (.b (i0 a n w)) x=d9 o:=λZ D=>(fw _ _ (oz Z E.b D)).trans Z;refine⟨k d.c (λe=>by cases e),k d.d (λe=>by cases e),d.e,λU=>⟨k R.e (λe=>by cases e),k R.d (λe=>Ah e.symm),k R.c (λe=>by cases e),R.h,R.g,R.f,λm Y=>?_,R.j,R.i⟩⟩;have A:=R.b m Y;by_cases e:m=n
 ·clear b E Y
  clear U;subst e;rw[va];exact⟨k A.d (λe=>by cases e),gA _ _ _,X▸k A.c (λe=>by cases e),k A.f (λe=>by cases e),k A.e (λe=>by cases e)⟩
 ·rw[yi e]
  exact⟨k A.d (λe=>by cases e),k A.b (J0 e),k A.c (λe=>by cases e),k A.f (λe=>by cases e),k A.e (λe=>by cases e)⟩
theorem Wd.g(d:Wd H a t)(J:5≤t.g)(h:5≤D.g∧D.c=t.c∧D.a=t.a∧D.b=t.b∧D.h=t.h∧D.k=t.k∧D.e=t.e):Wd (Internal.eQ H a.i (.b (jv a D))) a D:=by
 refine wI h λU O c b U M P=>?_;have R:=d.b J;have k:∀{x:et} {o:AO},H x=d9 o->o≠.b (jv a t)->Internal.eQ H a.i (.b (jv a D)) x=d9 o:=λZ f=>(fw _ _ (oz Z R.d f)).trans Z;have g:∀n,D.j n->t.j n:=λn h=>by unfold eB.j at*;rw[O] at h;exact h
 refine⟨P▸k d.c (λe=>by cases e),M▸k d.d (λe=>by cases e),d.e,λU=>⟨k R.e (λe=>by cases e),gA _ _ _,b▸k R.c (λe=>by cases e),R.h,⟨b▸R.g.1,O▸R.g.2⟩,λn W=>?_,λm Y=>?_,λn m q r=>R.j n m (g n q) (g m r),λn q=>R.i n (g n q)⟩⟩
 ·rw[b] at W;unfold eB.j;rw[O];exact R.f n W
 ·have A:=R.b m (g m Y)
  rw[c];exact⟨k A.d (λe=>by cases e),k A.b Ah,k A.c (λe=>by cases e),k A.f (λe=>by cases e),k A.e (λe=>by cases e)⟩
theorem ID{v:eD}{u:ed}{i:Int}{f:Nat}{Q:AH->Prop}(b:Bd d P j Y c B F a t V H)(N:VR H a t v u)
  (h:(v=.b .c∧t.o i f=d9 D)∨∃n,v=.b (.d n)∧((t.a n).l i f).map (t.f n)=d9 D) (G:∀M,fk a t H a D M->Q M):∃x,u=ec x∧qd c (ec x) (gf f) (vi i) V H Q:=by
 rcases h with ⟨rfl,h⟩ |⟨n,rfl,h⟩
 ·(refine fe N λO J=>?_;(clear N;obtain rfl:=O))
  have R:=b.f.b J;refine gY (UW (a:=a) J h) λK I g=>?_;refine(eu _ rfl (pX b.b.a R.e R.d (qe b.b.b K).2 ?_ ?_))
  ·unfold jv;rw[kZ];exact AG (AJ _ _) (by decide)
  ·rw[I]
   exact G _ (.q b.f (eI ⟨J,eH rfl⟩) (b.f.g J g) g.2.1 ⟨λU=>J,λU=>g.1⟩ g.2.2.2.2.1 g.2.2.2.2.2.1)
 ·(refine gY N λm J W=>?_;(clear N;obtain rfl:=m))
  (refine ie h λl K e=>?_;(clear h;obtain rfl:=e))
  have E:=(b.f.b J).b n W;refine gY (J1 (a:=a) (n:=n) K) λL U k=>?_;refine(eu _ rfl (pX b.b.a E.d E.b (uc b.b.b L).2 ?_ ?_))
  ·unfold i0;rw[kZ];exact AG (AJ _ _) (by decide)
  ·rw[U5 K]
   exact G _ (.q b.f (eI ⟨J,eI (eI (eu n W (eH rfl)))⟩) (b.f.h J W k) rfl Au rfl rfl)
theorem FR.J{r:et}{o:AO}(f:FR c B a t F V H)(k:qU H M r)(R:H r=d9 o)(Y:o.i=eb)(D:∀i S,F i=d9 S->S.k=eb->¬iy c V H (nm i) (ec r)):FR c B a t F V M:=by
 have O:∀A,o≠.f A:=λA e=>by rw[e] at Y;exact nB Y
 have C:∀n v,H n=d9 (.g v)->M n=d9 (.g v):=λn v h=>(k n λe=>by rw[e,R] at h;(clear R O;obtain rfl:=eX h);exact nB Y).trans h;refine⟨λi S E=>?_,λi l S G q J E s K I g y=>f.d i l S G q J E s K I (f.k g C) (f.k y C),λx Z=>?_,f.inj,f.b.b λx p Z=>(k x λe=>by rw[e,R] at Z;(clear R O;obtain rfl:=eX Z);exact nB Y).trans Z⟩
 ·refine f.e i S E λu L T W=>?_
  exact(fQ u (L.a C) (T.o k R O λb e=>D i S E b (e▸L)) W)
 ·refine f.g x Z λn Q L T W=>?_
  exact(fS n Q L (C _ _ T) W)
structure qY(a:Ad)(t:eB)(H:AH)(r:et)(n:Int)(w:gE)(a':Ad):Prop where
 j:a'.e=a.e
 k:a'.i=a.i
 g:a'.c=a.c
 i:a'.f=a.f
 d:a'.j=a.j
 h:a'.b=a.b
 f:a'.g=a.g
 c:a'.h=a.h
 b:∀m,a'.a m=a.a m∨(m=n∧a'.a m=r)
 e:∀m,a'.d m=a.d m∨(m=n∧a'.d m=r)
 u:H (a'.a n)=d9 (.a (w.a.map vi))
 q:H (a'.d n)=d9 (.a [])
 o:∀m,t.j m->a'.a n≠a'.d m
theorem qY.s{r:et}{n:Int}{w:gE}{s:Ad}(N:qY a t H r n w s){m:Int}(h:m≠n)(q:gE):i0 s m q=Internal.i0 a m q:=by
 unfold Internal.i0 m8;rw[(N.b m).resolve_right λe=>h e.1,(N.e m).resolve_right λe=>h e.1,N.c]
theorem qY.p{r:et}{n:Int}{w:gE}{s:Ad}(N:qY a t H r n w s)(d:Wd H a t)(c:5≤t.g)(h:t.j n)(l:¬jx a t r){K:Nat}:Wd (eQ H (a.g n) (.b (Internal.i0 s n w))) s { t.f n w with h:=K }:=by
 have R:=d.b c;have E:=R.b n h;have k:∀{x:et} {o:AO},H x=d9 o->o≠.b (Internal.i0 a n (t.a n))->eQ H (a.g n) (.b (Internal.i0 s n w)) x=d9 o:=λZ D=>(fw _ _ (oz Z E.b D)).trans Z;have I:∀{x:et},jx a t x->x≠r:=λZ e=>l (e▸Z);have C:∀m,t.j m->jx a t (a.a m):=λm Y=>eH (eI ⟨c,eI (eI (eu m Y (eI rfl)))⟩);have j:∀m,t.j m->jx a t (a.d m):=λm Y=>eI (eI ⟨c,eI (eu m Y (eI (eH rfl)))⟩);have L:∀m,t.j m->jx a t (a.h m):=λm Y=>eI (eI ⟨c,eI (eu m Y (eI (eI rfl)))⟩);have O:In (eQ H (a.g n) (.b (Internal.i0 s n w))) s { t.f n w with h:=K }:=by
  refine⟨N.j▸N.k▸k R.e (λe=>by cases e),?_,?_,N.g▸R.h,R.g,R.f,λm Y=>?_,λp m J Y=>?_,λm Y=>?_⟩
  ·rw[N.k]
   have e:jv s { t.f n w with h:=K }=jv a t:=by
    show List.zip _ (List.take t.g (xe s t))=_;unfold xe;rw[N.g];rfl
   rw[e];exact k R.d λe=>Ah e.symm
  ·rw[N.g,N.h];exact k R.c λe=>by cases e
  ·have A:=R.b m Y
   by_cases e:m=n
   ·clear h E Y
    subst e;show yD _ s m ((t.f m w).a m);rw[va];exact⟨by rw[N.h,N.f];exact k A.d (λe=>by cases e),by rw[N.f];exact gA _ _ _,k N.u (λe=>by cases e),k N.q (λe=>by cases e),by rw[N.c];exact k A.e (λe=>by cases e)⟩
   ·show yD _ s m ((t.f n w).a m)
    rw[yi e];refine⟨by rw[N.h,N.f];exact k A.d (λe=>by cases e),by rw[N.f,N.s e];exact k A.b (J0 e),?_,?_,by rw[N.c];exact k A.e (λe=>by cases e)⟩
    ·rw[(N.b m).resolve_right λq=>e q.1];exact k A.c (λe=>by cases e)
    ·rw[(N.e m).resolve_right λq=>e q.1];exact k A.f (λe=>by cases e)
  ·have J:t.j p:=J
   have Y:t.j m:=Y;have g:=R.j p m J Y;refine⟨λG=>?_,?_,?_⟩
   ·rcases N.b p with e|⟨e,P⟩ <;>rcases N.b m with b|⟨b,f⟩
    ·rw[e,b];exact g.1 G
    ·rw[e,f];exact I (C p J)
    ·rw[P,b];exact(I (C m Y)).symm
    ·exact absurd (e.trans b.symm) G
   ·by_cases q:p=n
    ·rw[q];exact N.o m Y
    ·rw[(N.b p).resolve_right λe=>q e.1]
     rcases N.e m with b|⟨b,f⟩
     ·rw[b];exact g.2.1
     ·rw[f];exact I (C p J)
   ·rw[N.c]
    rcases N.b p with e|⟨e,P⟩
    ·rw[e];exact g.2.2
    ·rw[P];exact(I (L m Y)).symm
  ·have Y:t.j m:=Y
   have g:=R.i m Y;rw[N.i,N.d,N.c];have i:r≠a.f:=(I (eH (eH rfl))).symm;have y:r≠a.j:=(I (eI (eH rfl))).symm;refine⟨?_,?_,?_,g.2.2.2⟩
   ·rcases N.b m with e|⟨_,e⟩ <;>rw[e]
    ·exact g.1
    ·exact i
   ·rcases N.b m with e|⟨_,e⟩ <;>rw[e]
    ·exact g.2.1
    ·exact y
   ·rcases N.e m with e|⟨_,e⟩ <;>rw[e]
    ·exact g.2.2.1
    ·exact i
 exact⟨N.i▸N.d▸k d.c (λe=>by cases e),N.d▸k d.d (λe=>by cases e),N.i▸N.d▸d.e,λU=>O⟩
theorem qY.l{r:et}{n:Int}{w:gE}{s:Ad}{A:List ed}(f:qY a t H r n w s)(b:Bd d P em Y c B F a t V H)(S:fk N I B a t H)(J:5≤t.g)(k:t.j n)(l:H r=d9 (.a A))(R:¬jx a t r)(i:B r=eh)
  (D:∀z w,F z=d9 w->w.k=eb->¬iy c V H (nm z) (ec r)) {K:Nat} (q:t.h≤K) (E:K=t.h->s.a=a.a):gK c B N I [] V H { t.f n w with h:=K } F s V (eQ H (a.g n) (.b (Internal.i0 s n w))):=by
 have G:=f.p b.f J k R (K:=K);have M:=Py H r;have T:=b.f.f M R;have g:jB a t (a.g n):=eI ⟨J,eI (eI (eu n k (eH rfl)))⟩;have L:∀x,jB s { t.f n w with h:=K } x->jB a t x∨x=r:=by
  rintro x (h|⟨_,h|h|⟨m,j,h|h⟩⟩)
  ·exact eH (eH (h.trans f.i))
  ·exact eH (eI ⟨J,eH (h.trans f.k)⟩)
  ·exact eH (eI ⟨J,eI (eH (h.trans f.g))⟩)
  ·exact eH (eI ⟨J,eI (eI (eu m j (eH (h.trans (congrFun f.f m)))))⟩)
  ·rcases f.b m with e|⟨_,e⟩
   ·exact eH (eI ⟨J,eI (eI (eu m j (eI (h.trans e))))⟩)
   ·exact eI (h.trans e)
 have p:fk a t (o9 H r) s { t.f n w with h:=K } (eQ H (a.g n) (.b (Internal.i0 s n w))):=by
  have C:∀{x:et} {o:AO},o9 H r x=d9 o->H x=d9 o:=λ{x o} Z=>by
   have:x≠r:=λe=>by rw[e,yQ] at Z;exact nS Z
   rw[B2 _ this] at Z;exact Z
  refine⟨G,λx o Z y=>?_,λx o Z=>?_,λx Z=>(L x Z).imp id λ(e:x=r)=>by rw[e];exact yQ _ _,λx Z=>?_,rfl,f.i,f.d,λU=>⟨J,f.j,f.g,ja _,λm U=>congrFun f.h m,q,λe m U=>congrFun (E e) m⟩⟩
  ·rw[fw _ _ λ(e:x=a.g n)=>y (e▸g)];exact C Z
  ·by_cases e:x=a.g n
   ·exact⟨_,by rw[e];exact gA _ _ _⟩
   ·exact⟨o,by rw[fw _ _ e];exact C Z⟩
  ·rcases Z with Z|Z|⟨_,Z|⟨m,j,Z|Z|Z⟩⟩
   ·exact(L x Z).imp eH λ(e:x=r)=>by rw[e];exact yQ _ _
   ·exact eH (eI (eH (Z.trans f.d)))
   ·exact eH (eI (eI ⟨J,eH (Z.trans f.j)⟩))
   ·exact eH (eI (eI ⟨J,eI (eu m j (eH (Z.trans (congrFun f.h m))))⟩))
   ·rcases f.e m with e|⟨_,e⟩
    ·exact eH (eI (eI ⟨J,eI (eu m j (eI (eH (Z.trans e))))⟩))
    ·exact eI (by rw[Z,e];exact yQ _ _)
   ·exact eH (eI (eI ⟨J,eI (eu m j (eI (eI (Z.trans (congrFun f.c m)))))⟩))
 have O:=b.g.J M l rfl D;refine⟨O.q p T,(S.z M i R).d p,λz u U h=>h.a λQ v h=>?_⟩;rw[fw _ _ (oz h ((b.f.b J).b n k).b λe=>by cases e)];exact h
theorem MN{n:Int}:t.f n (t.a n)=t:=by
 have:(λm=>if m=n then t.a n else t.a m)=t.a:=by
  funext m
  by_cases h:m=n
  ·rw[if_pos h,h]
  ·rw[if_neg h]
 unfold eB.f;rw[this]
theorem IB{n:Int}{X:List Int}{r:et}{Q:AH->Prop}(b:Bd d P em Y c B F a t V H)(S:fk N I B a t H)(J:5≤t.g)(W:t.j n)(C:H r=d9 (.a (X.map vi)))(R:¬jx a t r)(i:B r=eh)
  (D:∀f w,F f=d9 w->w.k=eb->¬iy c V H (nm f) (ec r)) (G:∀s M,gK c B N I [] V H { t.m n X with h:=t.h+1 } F s V M->Q M):qd c (ec (a.b n)) "children" (ec r) V H Q:=by
 have E:=(b.f.b J).b n W;let s:Ad:={ a with a:=λm=>if m=n then r else a.a m };have O:s.a n=r:=if_pos rfl;have g:qY a t H r n { t.a n with a:=X } s:=by
  refine⟨rfl,rfl,rfl,rfl,rfl,rfl,rfl,rfl,λm=>?_,λm=>eH rfl,by rw[O];exact C,E.f,λm k e=>R (eI (eI ⟨J,eI (eu m k (eI (eH (O.symm.trans e))))⟩))⟩;by_cases h:m=n
  ·exact eI ⟨h,if_pos h⟩
  ·exact eH (if_neg h)
 refine pX (a:="children") b.b.a E.d E.b (uc (f:=3) b.b.b (by decide)).2 ?_ ?_
 ·unfold i0;rw[kZ];exact AG (AJ _ _) (by decide)
 ·have j:kW "children" (ec r) (i0 a n (t.a n))=i0 s n { t.a n with a:=X }:=by
   unfold i0;rw[Ap (f:=3) qh.1 rfl (show 3<(m8 a n (t.a n)).length from WM (show 0<16-3 by decide))];unfold m8;rw[O];rfl
  rw[j];exact G s _ (g.l b S J W C R i D (xC _) λe=>absurd e (Ky _))
theorem T2{n:Int}{r:et}{Q:AH->Prop}(b:Bd d P em Y c B F a t V H)(S:fk N I B a t H)(J:5≤t.g)(W:t.j n)(C:H r=d9 (.a []))(R:¬jx a t r)(i:B r=eh)
  (D:∀f w,F f=d9 w->w.k=eb->¬iy c V H (nm f) (ec r)) (G:∀s M,gK c B N I [] V H t F s V M->Q M):qd c (ec (a.b n)) "earlier" (ec r) V H Q:=by
 have E:=(b.f.b J).b n W;let s:Ad:={ a with d:=λm=>if m=n then r else a.d m };have O:s.d n=r:=if_pos rfl;have g:qY a t H r n (t.a n) s:=by
  refine⟨rfl,rfl,rfl,rfl,rfl,rfl,rfl,rfl,λm=>eH rfl,λm=>?_,E.c,by rw[O];exact C,λm l e=>?_⟩
  ·by_cases h:m=n
   ·exact eI ⟨h,if_pos h⟩
   ·exact eH (if_neg h)
  ·by_cases h:m=n
   ·rw[h,O] at e
    exact R (eH (eI ⟨J,eI (eI (eu n W (eI e.symm)))⟩))
   ·rw[show s.d m=a.d m from if_neg h] at e
    exact((b.f.b J).j n m W l).2.1 e
 refine pX (a:="earlier") b.b.a E.d E.b (uc (f:=14) b.b.b (by decide)).2 ?_ ?_
 ·unfold i0;rw[kZ];exact AG (AJ _ _) (by decide)
 ·have j:kW "earlier" (ec r) (i0 a n (t.a n))=i0 s n (t.a n):=by
   unfold i0;rw[Ap (f:=14) qh.1 rfl (show 14<(m8 a n (t.a n)).length from WM (show 0<16-14 by decide))];unfold m8;rw[O];rfl
  rw[j];have q:=g.l b S J W C R i D (K:=t.h) (ig _) λU=>rfl;have k:({ t.f n (t.a n) with h:=t.h }:eB)=t:=by rw[MN]
  rw[k] at q;exact G s _ q
theorem LY{o:eW}{f:Nat}{e:eW}(ho:SE d P o)(he:SE d P e):S1 d P (.d o f e):=kh λ{Y c x t F r} X h {B N I a V H ag} b S G=>by
 refine hV h λaw t1 K l=>?_;refine hV l λu t2 h2 k=>?_;refine ie k λC g k3=>?_;clear h l k;subst k3;refine fq X λae au=>?_;refine fq ae λaf aq=>?_;refine fq af λU ak=>?_;refine pW (he aq K b λvv a1 H1 Q hv ac=>ho au h2 (b.e Q) λuu v H2 m R U=>?_) (nY (by simpa using ak) _ _ _ _);have y:=(b.e Q).e m;have s2:=(S.d Q).d m;have aa:=hv.a m Q.b;have A:∀{i:Int},aw=.a i->((u=.b .c∧t2.o i f=d9 C)∨∃n,u=.b (.d n)∧((t2.a n).l i f).map (t2.f n)=d9 C)->∃x,uu=ec x∧qd c (ec x) (gf f) vv V H2 λH3=>ag fY V H3:=λ{i} e h=>by
  clear K g hv ac;subst e;rw[show vv=vi i from aa];exact ID y R h λM av=>G fY v V M (.b b S ((Q.d m).d av)) rfl
 unfold wV at g;by_cases z:u.p=eb
 ·rw[if_pos z] at g
  refine fy g λi L T=>?_;exact A (jS L) (eH ⟨Ae z,T⟩)
 ·rw[if_neg z] at g
  refine fy g λn L T=>?_;rcases uv T with T|T
  ·refine fy T λi W g4=>?_
   exact A (jS W) (eI (eu n (xi L) g4))
  ·refine fy T λxs W g4=>?_
   rw[xi L] at R
   (refine gY R λe1 J hn=>?_;(clear A R;(clear U;obtain rfl:=e1)))
   rw[CO W] at aa ac
   (refine oB aa λr us e2 r1 r2 U r4=>?_;obtain rfl:=e2)
   refine eR (ac rfl) λr' e r5=>?_;cases e;have hB:=S.h r5;have D:∀j w,F j=d9 w->w.k=eb->¬iy c V H2 (nm j) (ec r):=λj w hw hj=>u8 b (Q.d m) r5 hw hj;have O:∀{p s M},gK c B N I [] V H2 p F s V M->gK c B N I [] V H p F s V M:=λq=>(gK.b b S (Q.d m)).e q;by_cases e3:f=3
   ·rw[if_pos e3] at g4
    refine ie g4 λns g5 g6=>?_;clear X ae af;subst g6 e3;rw[wh g5] at r2;exact(eu _ rfl (IB y s2 J hn (by rw[r1,r2.h]) (r4 rfl) hB D λs M q=>G fY s V M (O q) rfl))
   ·rw[if_neg e3] at g4
    (refine gm g4 λW g5=>?_;refine fe W λaj Z=>?_)
    obtain rfl:=eX g5;subst aj;have:xs=[]:=List.isEmpty_iff.mp Z;clear W ac Z aa g4;clear W;subst this;exact(eu _ rfl (T2 y s2 J hn (by rw[r1,show us=[] from r2]) (r4 rfl) hB D λs M q=>G fY s V M (O q) rfl))
theorem FR.E{A:Fr}(f:FR c B a t F V H)(h:∀u v,A u=d9 v->F u=d9 v):FR c B a t A V H:=
 ⟨λi v N=>f.h i v (h _ _ N),λi u v b r O N C=>f.d i u v b r O (h _ _ N) (h _ _ C),f.f,f.inj,f.b⟩
theorem L7{o:eW}{i:Nat}(D:SE d P o):S1 d P (.B o i):=kh λ{Y c x t F r} X h {B N I a V H Q} b S G=>by
 refine fy h λz K l=>?_;refine hV l λu t1 h2 k=>?_;refine fy k λac g s=>?_;refine ie s λns y k4=>?_;clear h l k s;subst k4;refine b.i K λr A w aa=>?_;refine pW (aa _ _ (D X h2 b λL O Z p R U=>?_)) rfl;rw[xi g] at R
 (refine gY R λe4 J W=>?_;(clear R;(clear U;obtain rfl:=e4)))
 have C:=w.k b.f p;have f:=C.d;rw[wh y] at f;have b1:Bd d P em Y c B (λj=>if j=i then eh else F j) O t1 V Z:=⟨b.b,(b.e p).g.E λj v m=>by
  by_cases e:j=i
  ·rw[if_pos e] at m;exact nS m
  ·rwa [if_neg e] at m,p.b⟩
 refine(eu _ rfl (IB b1 (S.d p) J W (by rw[C.b,f.h]) C.e C.f (λj v m hj hh=>?_) λT M q=>G fY T V M ⟨q.d,q.a,λj u U h=>q.f j u (nomatch ·) (h.a λn v h=>p.f _ _ h (nE b.f h rfl))⟩ rfl));by_cases e:j=i
 ·rw[if_pos e] at m;exact nS m
 ·rw[if_neg e] at m
  exact(b.e p).g.d i j _ v r (gM e) C.j m rfl hj C.h hh
theorem T9{n:Int}{i:Nat}:∀{m:List Nat} {as:List eT} {o:List ed} {z:List eP} {t D:eB} {H:AH} {Q:eJ->AH->Prop},rB t n m as=d9 D->F i=d9 (.b (.d n))->Bd d P em Y c B F a t V H->gN H a t as o->
  (∀M,fk a t H a D M->Q V M)->oX c (re i m z) o V H Q:=by
 intro m
 induction m with
 |nil=>
  intro as o z t D H Q h r b S G;cases as with
  |nil=>
   obtain rfl:=eX h;rw[show o=[] from S];exact G H (.e b.f)
  |cons=>have h:eh=d9 _:=h;exact nS h
 |cons f m v=>
  intro as o z t D H Q h r b L G;cases as with
  |nil=>have h:eh=d9 _:=h;exact nS h
  |cons x as=>
   refine fT L λu W e g O=>?_;refine fy h λj K l=>?_;refine fy l λw I k=>?_;rw[e];refine b.h r λy N U U E=>?_;have:eD.b x=.a j:=jS K;clear h K;clear L;cases this;rw[show u=vi j from g];refine M9 (E _ _ ?_);refine ID b N (eI (eu n rfl (by rw[I];rfl))) λZ p=>?_;exact v k r (b.e p) (O.d p b.f) λs q=>G s (p.d q)
theorem ON{i:Nat}{B:iN}(l:Nat):∀(b:List Nat) (z:List eP),(re i b z).filterMap (oH B l)=[]:=by
 intro G
 induction G with
 |nil=>
  intro U;exact rfl
 |cons f b D=>
  intro z;exact D z.tail
theorem Rs{i:Nat}:∀(b:List Nat) (z:List eP),iQ (re i b z)=true:=by
 intro G
 induction G with
 |nil=>
  intro U;exact rfl
 |cons f b D=>
  intro z;exact D z.tail
theorem FF{i:Nat}:∀(b:List Nat) (z:List eP),(re i b z).length=b.length:=by
 intro G
 induction G with
 |nil=>
  intro U;exact rfl
 |cons f b D=>
  intro z;exact congrArg (·+1) (D z.tail)
theorem T8{n:Int}:∀{b:List Nat} {as:List eT} {t D:eB},rB t n b as=d9 D->as.length=b.length:=by
 intro b
 induction b with
 |nil=>
  intro as t D h;cases as with
  |nil=>rfl
  |cons=>have h:eh=d9 _:=h;exact nS h
 |cons f b a=>
  intro as t D h;cases as with
  |nil=>have h:eh=d9 _:=h;exact nS h
  |cons x as=>
   refine fy h λj K l=>?_;refine fy l λG I k=>?_;exact congrArg (·+1) (a k)
theorem JY{i:Nat}{n:Int}(h:qx F i=d9 n):F i=d9 (.b (.d n)):=by
 refine fy h λv K I=>?_;rw[K,xi I]
theorem LZ{i:Nat}{j:List Nat}{e:eW}(n:SE d P e):S1 d P (.s i j e):=kh λ{Y c x t F r} X h {B N I a V H Q} b S G=>by
 refine hV h λv t1 K l=>?_;refine fy l λas W k=>?_;refine fy k λac g s=>?_;refine gm s λhf J=>?_;refine ie J λt2 y k5=>?_;clear h l k s J;subst k5;refine fq X λC D=>?_;refine fq C λz U=>?_;refine fq z λA f=>?_;have hw:qK [iD (re i j (xl (sT x))) (xk (sT x)) (sT x).pos] (e.u (sE x)) c.a=f9 none:=by
  cases m:e.R with
  |none=>exact zU m _ _ _ _ _
  |some w=>
   have:=JT m;clear n X K G C z A f m;subst this;exact I2 (λaa=>ON aa _ _) λe=>of_decide_eq_true D (oK.mp (by rw[←FF (i:=i) j (xl (sT x)),e];rfl))
 refine yj (n f K b λu O Z p o U=>?_) (nY (by simpa using A) (sE x) (d9 (iD (re i j (xl (sT x))) (xk (sT x)) (sT x).pos)) x.pos.line c.a) hw;rw[xd W] at o
 (refine fT o λr us R L T=>?_;(clear o;(clear U;obtain rfl:=R)))
 exact Bc (b.b.f hf) L (by rw[T.b,FF,T8 y]) (Rs _ _) (T9 y (JY g) (b.e p) T λM q=>G fY O V M (.b b S (p.d q)) rfl)
theorem Wd.k(d:Wd H a t)(J:5≤t.g){n:Int}(W:t.j n){X:List Int}:Wd (Internal.eQ H (a.a n) (.a (X.map vi))) a (t.m n X):=by
 have R:=d.b J;have E:=R.b n W;have k:∀{x:et} {o:AO},H x=d9 o->x≠a.a n->Internal.eQ H (a.a n) (.a (X.map vi)) x=d9 o:=λZ D=>(fw _ _ D).trans Z;have I:∀{x:et} {o:AO},H x=d9 o->o≠.a ((t.a n).a.map vi)->Internal.eQ H (a.a n) (.a (X.map vi)) x=d9 o:=λZ D=>k Z (oz Z E.c D);have y:=R.i n W;refine⟨k d.c y.1.symm,k d.d y.2.1.symm,d.e,λU=>⟨I R.e (λe=>by cases e),I R.d (λe=>by cases e),I R.c (λe=>by cases e),R.h,R.g,R.f,λm Y=>?_,R.j,R.i⟩⟩;have A:=R.b m Y;have O:=R.j n m W Y;by_cases e:m=n
 ·clear W E y Y
  clear U;subst e;unfold eB.m;rw[va];exact⟨I A.d (λe=>by cases e),I A.b (λe=>by cases e),gA _ _ _,k A.f O.2.1.symm,k A.e O.2.2.symm⟩
 ·unfold eB.m
  rw[yi e];exact⟨I A.d (λe=>by cases e),I A.b (λe=>by cases e),k A.c (O.1 (gM e)).symm,k A.f O.2.1.symm,k A.e O.2.2.symm⟩
theorem fk.k(d:Wd H a t)(J:5≤t.g){n:Int}(W:t.j n){X:List Int}:fk a t H a (t.m n X) (Internal.eQ H (a.a n) (.a (X.map vi))):=
 .q d (eI ⟨J,eI (eI (eu n W (eI rfl)))⟩) (d.k J W) rfl Au rfl rfl
theorem fk.v(d:Wd H a t){j:Int}:fk a t H a { t with e:=j } (Internal.eQ H a.f (.a [ec a.j,vi j])):=by
 have k:∀{x:et} {o:AO},H x=d9 o->x≠a.f->Internal.eQ H a.f (.a [ec a.j,vi j]) x=d9 o:=λZ D=>(fw _ _ D).trans Z;have I:∀{x:et} {o:AO},H x=d9 o->o≠.a [ec a.j,vi t.e]->Internal.eQ H a.f (.a [ec a.j,vi j]) x=d9 o:=λZ D=>k Z (oz Z d.c D);refine .q d (eH rfl) ⟨gA _ _ _,k d.d d.e.symm,d.e,λJ=>?_⟩ rfl Au rfl rfl;have R:=d.b J;refine⟨I R.e (λe=>by cases e),I R.d (λe=>by cases e),I R.c (λe=>by cases e),R.h,R.g,R.f,λm Y=>?_,R.j,R.i⟩;have A:=R.b m Y;have D:=R.i m Y;exact⟨I A.d (λe=>by cases e),I A.b (λe=>by cases e),k A.c D.1,k A.f D.2.2.1,k A.e D.2.2.2⟩
theorem MM(d:Wd H a t)(J:5≤t.g){i:List Int}(E:i.Nodup)(M:∀n∈i,t.j n):fk a t H a { t with b:=i } (Internal.eQ H a.c (.e (i.map λn=>(n,ec (a.b n))))):=by
 have R:=d.b J;have k:∀{x:et} {o:AO},H x=d9 o->(∀q,o≠.e q)->Internal.eQ H a.c (.e (i.map λn=>(n,ec (a.b n)))) x=d9 o:=λZ D=>(fw _ _ (oz Z R.c (D _))).trans Z;refine .q d (eI ⟨J,eI (eH rfl)⟩) ⟨k d.c (λU e=>by cases e),k d.d (λU e=>by cases e),d.e,λU=>⟨k R.e (λU e=>by cases e),k R.d (λU e=>by cases e),gA _ _ _,R.h,⟨E,R.g.2⟩,M,λm Y=>?_,R.j,R.i⟩⟩ rfl Au rfl rfl;have A:=R.b m Y;exact⟨k A.d (λU e=>by cases e),k A.b (λU e=>by cases e),k A.c (λU e=>by cases e),k A.f (λU e=>by cases e),k A.e (λU e=>by cases e)⟩
theorem jJ.v{k:Int}:∀{b:List (Int×eT)} {f:List (Int×ed)},jJ H a t b f->f.any (λp=>eU (p.1=k))=b.any (λp=>eU (p.1=k)):=by
 intro G
 induction G with
 |nil=>
  intro U h;rw[show _=[] from h];rfl
 |cons U _ D=>
  intro U L;exact fT L λc W e h S=>by rw[e,Aw,Aw,D S]
theorem jJ.u:∀{b:List (Int×eT)} {f:List (Int×ed)},jJ H a t b f->f.length=b.length:=by
 intro G
 induction G with
 |nil=>
  intro U h;rw[show _=[] from h];rfl
 |cons U _ D=>
  intro U Z;exact fT Z λc W e h S=>by rw[e,lF,lF,D S]
theorem Lz{k:Int}{y:eT}{w:ed}(B:AR H a t y w):∀{b:List (Int×eT)} {f:List (Int×ed)},jJ H a t b f->jJ H a t (b.map λp=>if p.1=k then(p.1,y) else p) (f.map λp=>if p.1=k then(p.1,w) else p):=by
 intro G
 induction G with
 |nil=>
  intro U h;rw[show _=[] from h];rfl
 |cons p _ D=>
  intro U R;refine fT R λu W e h S=>?_;rw[e,gj,gj];by_cases J:p.1=k
  ·rw[if_pos J,if_pos J];exact(fS w _ rfl B (D S))
  ·rw[if_neg J,if_neg J];exact(fS u _ rfl h (D S))
theorem LA{k:Int}{y:eT}{w:ed}(B:AR H a t y w):∀{b:List (Int×eT)} {f:List (Int×ed)},jJ H a t b f->jJ H a t (b++[(k,y)]) (f++[(k,w)]):=by
 intro G
 induction G with
 |nil=>
  intro U h;rw[show _=[] from h];exact(fS w ([]) rfl B rfl)
 |cons p _ D=>
  intro U Z;exact fT Z λu W e h S=>by rw[e];exact⟨u,_,rfl,h,D S⟩
theorem jJ.r{k:Int}{y:eT}{w:ed}{P:List (Int×eT)}{b:List (Int×ed)}(h:jJ H a t P b)(B:AR H a t y w):jJ H a t (qt P k y) (qu b k w):=by
 unfold qt qu xV;rw[h.v]
 split
 ·exact Lz B h
 ·exact LA B h
theorem RD{v:eD}{i:List (Int×eT)}(h:v.D=d9 i):v=.g eb i:=by
 cases v with
 |g o x=>refine gm h λK I=>?_;(clear h;obtain rfl:=eX I);rw[K]
 |_=>exact nS h
theorem Co{v:eD}{n:Int}{u:ed}(h:Cm t v=d9 n)(w:Wd H a t)(N:VR H a t v u):5≤t.g∧t.j n∧u=ec (a.a n)∧H (a.a n)=d9 (.a ((t.a n).a.map vi)):=by
 cases v with
 |f m k=>
  refine gm h λe o=>?_;clear h;obtain rfl:=eX o;refine oA N λr O J W U z=>?_;exact⟨J,W,by rw[O,z e],((w.b J).b _ W).c⟩
 |_=>exact nS h
theorem L0{i:Nat}{ae e:eW}(hk:SE d P ae)(he:SE d P e):S1 d P (.n i ae e):=kh λ{Y c aB t F r} X h {B N I a V H au} b S G=>by
 refine hV h λaf t1 h1 l=>?_;refine hV l λaz t2 h2 k=>?_;refine fy k λz D s=>?_;refine fy s λq h4 M=>?_;refine fq X λaq ak=>?_;refine fq aq λag aj=>?_;refine EO (he aj h1 b λvv a1 H1 Q hv U=>?_) (nY (by simpa using ag) _ _ _ _);refine nR ((b.e Q).k D) λo f g u ac=>?_;refine ac _ _ (hk ak h2 (b.e Q) λuu v H2 m R U=>?_);have y:=(b.e Q).e m;have w:=(S.d Q).d m;have aa:=hv.a m Q.b;have p:=f.a m Q.b;have K:iy c V H2 (nm i) o:=g.a λn af h=>m.f _ _ h (nE Q.b h rfl);rw[jS h4] at R;have R:uu=vi q:=R;clear U;subst R;rcases uv M with M|M
 ·refine fy M λav L k5=>?_
  refine fy k5 λaC T x=>?_;refine gm x λC k7=>?_;clear h l h2 k s M R k5 x;clear M;obtain rfl:=eX k7;rw[RD L] at p D u;rw[yG T] at aa
  (refine oB p λr A O Z r2 r3 T=>?_;refine fe T λr4 r5=>?_;(clear f g ac p;obtain rfl:=O))
  refine eR (u rfl) λr' e' r6=>?_;cases e';refine IC Z (by rw[r2.u];exact C) (G fY v V _ ((gK.b b S (Q.d m)).e (L:=[i]) ⟨y.g.s D rfl rfl K Z rfl ?_ r6,w.s r6 (r5 rfl),λj aA U h=>h.a λn af h=>?_⟩) rfl)
  ·have tk:=Af (X:=.e (qu A q vv)) Z λA e=>by cases e
   exact(Ce r _ rfl (gA _ _ _) ((r2.n tk).r (aa.i tk)) r3 r4 r5)
  ·rw[fw _ _ (oz h Z λe=>by cases e)];exact h
 ·rcases uv M with M|M
  ·refine fy M λaw L k5=>?_
   refine fy k5 λj T x=>?_;refine gm x λC k7=>?_;clear h l k s M k5 x;clear M;clear M;obtain rfl:=eX k7;rw[jS T] at aa
   (refine i8 (Co L m.b p) λJ W e3 Z=>?_;(clear f g u ac p K;obtain rfl:=e3))
   refine IE Z C.1 (by rw[fC];exact C.2.1) (by omega) ?_;rw[show vv=vi j from aa,←Wv];exact G fY v V _ ((gK.b b S ((Q.d m).d (.k m.b J W))).e (L:=[i]) ⟨(y.e (.k m.b J W)).g,w.d (.k m.b J W),λU U U h=>h⟩) rfl
  ·refine gm M λC k5=>?_
   refine ie k5 λj T x=>?_;clear h l k s M k5;clear M;clear M;subst x;rw[jS T] at aa;have:z=.h:=by
    have:=(m9.mp (show(z.C&&eb)=eb by rw[C.1];rfl)).1;clear D f u p C;cases z<;>first|rfl|exact nB this
   clear D f u;subst this;clear h4 R;clear U;obtain rfl:=C.2;rw[show o=_ from p];refine IE m.b.c (by decide) (show(1:Int)<((2:Nat):Int) by decide) (by decide) ?_;rw[show vv=vi j from aa];exact G fY v V _ ((gK.b b S ((Q.d m).d (.v m.b))).e (L:=[i]) ⟨(y.e (.v m.b)).g,w.d (.v m.b),λU U U h=>h⟩) rfl
theorem LR{i:Nat}{k e:eW}(z:SE d P k)(he:SE d P e):S1 d P (.A i k e):=kh λ{Y c az t F au} X h {B N I a V H ak} b S G=>by
 refine fy h λn0 w T=>?_;refine hV T λav t1 K l=>?_;refine hV l λaw t2 h2 k2=>?_;refine fy k2 λaq g s=>?_;refine fy s λq y M=>?_;refine fy M λj J k5=>?_;refine gm k5 λC x=>?_;clear h T l k2 s M k5;obtain rfl:=eX x;refine fq X λag af=>?_;refine fq ag λA ae=>?_;refine fy w λaA D u=>?_;refine fy g λz' O r=>?_;rw[D] at O;obtain rfl:=eX O;refine b.h D λzz f U U aj=>?_;refine i8 (Co u b.f f) λU U R l0=>?_;refine tO (qQ b.b.a (λU U U=>rfl) (mF (.a k (.a e .b)) _) (by simp) A xL W9 PySem.F.type_list_insert (aj _ _ (kK _ _ R l0 ut (jk (z ae K b λL a1 H1 Q hu U=>jk (he af h2 (b.e Q) λZ v H2 m hv U=>kA ?_) λaa=>(jp e _).2.2.2.1 aa []) λaa=>(jp k _).2.2.2.1 aa _)))) b.b.h rfl;have p:=Q.d m;have ac:=hu.a m Q.b;rw[jS y] at ac;rw[jS J] at hv;refine i8 (Co r m.b (f.a p b.f)) λn o W gl=>?_;rw[R] at W;injection W with W
 rw[show L=vi q from ac,show Z=vi j from hv,W];refine Nj gl C.1 (by rw[fC];exact C.2.1) (by rw[fC];exact C.2.2) ?_;rw[←Kn,←Wt,show vi j::pH vi _=pH vi (j::_) from rfl,←lb];exact G fY v V _ ((gK.b b S (p.d (.k m.b n o))).e (L:=[i]) ⟨((b.e p).e (.k m.b n o)).g,(S.d p).d (.k m.b n o),λU U U h=>h⟩) rfl
theorem LU{i:Nat}{e:eW}(he:SE d P e):S1 d P (.C i e):=kh λ{Y c x t F r} X h {B N I a V H Q} b S G=>by
 refine hV h λaf t1 K l=>?_;refine fy l λn h2 k=>?_;refine fy k λq g s=>?_
 (refine gm s λg4 M=>?_;refine fe g4 λR C=>?_)
 clear h l k s;obtain rfl:=eX M;refine fq X λA f=>?_;refine b.h (JY h2) λzz hz U U ae=>?_;refine gY hz λe0 J W=>?_;have hw:=(b.f.b J).b n W;refine v8 (f:=3) b.b.b b.f (v:=.b (.d n)) ⟨e0,J,W⟩ (show qk t 3 (.b (.d n))=d9 (.f n t.h) from rfl) λy aa z fs u' L T g3 U=>?_;refine oA g3 λr O U U U m=>?_;have m:=m rfl;clear g3;subst O m;refine tO (qQ b.b.a (λU U U=>rfl) (jp e _).2.1 (by simp) A xL Xa PySem.F.type_list_remove (qP (a:="children") b.b.a (λU U U=>rfl) (ae _ _ ⟨y,aa,z,fs,_,L,T.b,T.e,T.g,T.d,T.a,(kK _ _ rfl hw.c ut (jk (he f K b λZ v H2 p hv U=>kA ?_) λac=>(jp e _).2.2.2.1 ac []))⟩))) b.b.h rfl;rw[jS g] at hv;refine wI (p.c J) λw U U q4 U U j=>?_;have D:=W.a q4;have o:=((p.b.b w).b n D).c;rw[j R n W] at o;rw[show Z=vi q from hv];have u:=fk.k (X:=(t1.a n).a.eraseIdx ((t1.a n).a.idxOf q)) p.b w D;rw[j R n W] at u;exact No o C.1 C.2 (G fY v V _ ((gK.b b S (p.d u)).e (L:=[]) ⟨((b.e p).e u).g,(S.d p).d u,λU U U h=>h⟩) rfl)
theorem Sw{i:List Int}{k:Int}:wP (i.map λn=>(n,ec (a.b n))) k=(i.filter λn=>eU (n≠k)).map λn=>(n,ec (a.b n)):=by
 unfold wP;rw[Kh];rfl
theorem L9{i:Nat}{e:eW}(y:SE d P e):S1 d P (.q i e):=kh λ{Y c x t F r} X h {B N I a V H Q} b S G=>by
 refine hV h λaa O K l=>?_;refine fy l λq g s=>?_
 (refine gm s λo M=>?_;refine gY o λz D C=>?_)
 clear h l s;obtain rfl:=eX M;refine fq X λA f=>?_;refine tO (qQ b.b.a (λU U U=>rfl) (jp e _).2.1 (by simp) A W3 W5 PySem.F.type_dict_pop (JZ b z λJ=>(kK _ _ rfl ((b.f.b J).c) Ig (jk (y f K b λZ v T p k U=>kA ?_) λm=>(jp e _).2.2.2.1 m [])))) b.b.h rfl;rw[jS g] at k;refine i8 (p.c J) λw U L U=>?_;have R:=p.b.b w;have j:=R.c;have u:=MM p.b w (R.g.1.filter λn=>eU (n≠q)) λn W=>R.f n (lG.mp W).1;rw[L] at j u;rw[show Z=vi q from k];refine Ng j (wv D) (by rw[fC];exact C) ?_;rw[Sw];exact G fY v V _ ((gK.b b S (p.d u)).e (L:=[]) ⟨((b.e p).e u).g,(S.d p).d u,λU U U h=>h⟩) rfl
theorem LN{e:eW}(n:SE d P e):S1 d P (.h e):=kh λ{Y c x t F r} X h {B N I a V H Q} b S G=>by
 refine ou h λv g K l=>?_;clear h;subst l;refine fq X λA f=>?_;exact tO (n f K b λu O Z p U U=>G fY O V Z (.b b S p) rfl) b.b.h (nY (by simpa using A) _ _ _ _)
theorem LV{e:eW}(n:SE d P e):S1 d P (.g e):=kh λ{Y c x t F r} X h {B N I a V H Q} b S G=>by
 refine hV h λv g K l=>?_;refine gm l λU k=>?_;clear h l;obtain rfl:=eX k;exact yk (n X K b λu O Z p f D=>G (iV u) O V Z (.b b S p) (fQ u rfl f (λo=>(D o).imp λr e=>⟨e.1,S.h e.2⟩)))
theorem LX{i:Nat}:S1 d P (.u i):=kh λ{Y c x t F r} X h {B N I a V H Q} b S G=>by
 refine fy h λv K l=>?_;refine gm l λU k=>?_;clear h l;obtain rfl:=eX k;refine b.h K λu e U D E=>?_;exact yk (E _ _ (G (iV u) a V H (.b b S (.e b.f)) (fQ u rfl e D)))
theorem LW:S1 d P .D:=kh λ{Y c x t F r} X h {B N I a V H Q} b S G=>by
 obtain rfl:=eX h;exact MT (G (iV ez) a V H (.b b S (.e b.f)) (fQ (ez) rfl rfl nofun))
theorem LS:S1 d P .p:=λ{Y c x t F X D A} e h {B N I a V H Q} b S G=>nomatch h
def SS(d:ir)(P:iE)(s:Ss):Prop:=∀{Y c z t F X D A},s.e Y z=eb->s.c d t F=d9 (X,D,A)->∀{B N I a V H Q},Bd d P em Y c B F a t V H->fk N I B a t H->
 (∀f b l M,gK c B N I s.f V H D A b l M->Bv M b D B X f->Q f l M)->TS c (s.d z) V H Q
theorem gK.h{w G:List Nat}{A:Fr}{s:Ad}{l:eJ}(p:gK c B N I w V H D A s l M)(h:∀i,i∈w->i∈G):gK c B N I G V H D A s l M:=⟨p.d,p.a,λi u R=>p.f i u λq=>R (h i q)⟩
theorem MF:SS d P .b:=λ{Y c x t F X D A} e h {B N I a V H Q} b S G=>by
 cases h;exact qS (G fY a V H (.b b S (.e b.f)) rfl)
theorem ME{s:js}{r:Ss}(C:S1 d P s)(z:SS d P r):SS d P (.a s r):=λ{Y c x t F fl D U} X h {B N I a V H Q} b M G=>by
 (refine fy h λL K l=>?_;obtain⟨f,E,W⟩ :=L)
 refine fq X λA j=>?_;refine kI (C A K b M λg O w Z p y=>?_);cases f with
 |a=>
  rw[show g=fY from y];exact z j l (p.g b) p.a λe v n T q o=>G e v n T (p.e q) o
 |b aa=>
  clear h K;cases l
  (refine f5 y λu m J k=>?_;(clear y;obtain rfl:=m))
  exact G (iV u) O w Z (p.h λi R=>lc.mpr (eH R)) (fQ u rfl J k)
theorem LQ{q:eW}{x g:Ss}(j:SB d P q)(Z:SS d P x)(u:SS d P g):S1 d P (.c q x g):=kh λ{Y c C t F r} X h {B N I a V H Q} b S G=>by
 refine hV h λv D K w=>?_;refine fy w λi m k=>?_;refine fq X λo e=>?_;refine fq o λA n=>?_;rw[sG m] at K;refine MS (j A K b λO z p=>?_);cases i with
 |true=>exact Z n k (b.e p) (S.d p) λf s l M r y=>G f s l M (((gK.b b S p).e r).h λi R=>lc.mpr (eH R)) y
 |false=>exact u e k (b.e p) (S.d p) λf s l M r y=>G f s l M (((gK.b b S p).e r).h λi R=>lc.mpr (eI R)) y
theorem L8{q:eW}{x:Ss}(j:SB d P q)(hx:SS d P x):S1 d P (.w q x):=kh λ{Y c ak t F r} X h {B N I a V H Q} b S G=>by
 refine fq X λA ae=>?_;refine MV (λn w Z=>∃K O t1,gK c B N I x.f V H t1 K O w Z∧mi (λt F=>q.q d t F) (λt F=>x.c d t F) n t1 K=d9 r) (n:=10000) (pg F a t ((gK.b b S (.e b.f)).h (λU h=>absurd h iI)) h) ?_;rintro n w Z ⟨K,O,t1,p,z⟩;cases n with
 |zero=>cases z
 |succ n=>
  refine hV z λag t2 R l=>?_;refine fy l λi h2 k=>?_;rw[sG h2] at R;have e:=p.g b;refine j A R e λv T m=>?_;have o:gK c B N I x.f V H t2 K v w T:=(p.e (gK.b e p.a m)).h λaf J=>(lc.mp J).resolve_right nofun;cases i with
  |false=>
   clear h p z l e m R;obtain rfl:=eX k;exact G fY v w T o rfl
  |true=>
   (refine fy k λW g s=>?_;obtain⟨f,C,F3⟩ :=W)
   rw[if_pos rfl];refine hx ae g (e.e m) o.a λac a3 aj L r y=>?_;have u:=(o.e r).h (G:=x.f) λaf J=>(lc.mp J).elim id id;cases f with
   |a=>
    rw[show ac=fY from y];exact(eu n (uJ n) (pg F3 a3 C u s))
   |b ag=>
    clear h z l k r g;obtain rfl:=eX s
    (refine f5 y λaa M hv D=>?_;(clear y;obtain rfl:=M))
    exact G (iV aa) a3 aj L u (fQ aa rfl hv D)
def yw(c:Cx)(B:AH)(F:Fr)(V:eJ)(H:AH)(x:et):Prop:=(∃j v,F j=d9 v∧v.i=eb∧iy c V H (nm j) (ec x))∨(B x=eh∧∃Q,H x=d9 (.g Q))
open Classical in
def jV(c:Cx)(B:AH)(F:Fr)(V:eJ)(H:AH):AH:=λx=>if yw c B F V H x then eh else H x
theorem Iq{x:et}{o:AO}(h:jV c B F V H x=d9 o):H x=d9 o:=by
 unfold jV at h
 split at h
 ·exact nS h
 ·exact h
theorem wS{x:et}(h:¬yw c B F V H x):jV c B F V H x=H x:=by
 unfold jV;rw[if_neg h]
theorem zA(f:FR c B a t F V H){x:et}(h:yw c B F V H x):B x=eh∧(¬jx a t x∨∃Q,H x=d9 (.g Q))∧∃o,H x=d9 o∧∀A,o≠.f A:=by
 rcases h with ⟨j,v,K,I,d⟩ |⟨K,Q,I⟩
 ·refine f.e j v K λu L T W=>?_
  refine eR (W I) λr e i=>?_;clear W;subst e;have:=d.b L;clear L;cases this;refine⟨i,eH ?_,?_⟩
  ·cases v with
   |c o z=>refine oB T λl A e U U U g=>?_;(clear U;cases e);exact g I
   |g o z=>(refine oB T λl A e U U U L=>?_;refine fe L λU g=>?_);(clear L;(clear U;clear U;cases e));exact g I
   |_=>exact nB I
  ·refine fT (T.l (uw I)) λl o e w b=>?_
   cases e;exact(eu o w (λA e=>by rw[e] at b;cases b))
 ·exact⟨K,eI ⟨Q,I⟩,_,I,λA e=>by cases e⟩
theorem wT(f:FR c B a t F V H)(w:Wd H a t):Wd (jV c B F V H) a t:=by
 have k:∀{x:et} {X:AO},jx a t x->H x=d9 X->jV c B F V H x=d9 X:=λ{x X} Z h=>by
  rw(occs:=eO) [wS λm=>?_];exact h;refine gY (zA f m) λU q U=>?_;rcases q with q|⟨Q,q⟩
  ·exact q Z
  ·exact A8 w q rfl Z
 refine⟨k (eH (eH rfl)) w.c,k (eI (eH rfl)) w.d,w.e,λJ=>?_⟩;have i:=w.b J;refine⟨k (eI (eI ⟨J,eH rfl⟩)) i.e,k (eH (eI ⟨J,eH rfl⟩)) i.d,k (eH (eI ⟨J,eI (eH rfl)⟩)) i.c,i.h,i.g,i.f,λn W=>?_,i.j,i.i⟩;have q:=i.b n W;exact⟨k (eI (eI ⟨J,eI (eu n W (eH rfl))⟩)) q.d,k (eH (eI ⟨J,eI (eI (eu n W (eH rfl)))⟩)) q.b,k (eH (eI ⟨J,eI (eI (eu n W (eI rfl)))⟩)) q.c,
  k (eI (eI ⟨J,eI (eu n W (eI (eH rfl)))⟩)) q.f,k (eI (eI ⟨J,eI (eu n W (eI (eI rfl)))⟩)) q.e⟩
theorem Ir(f:FR c B a t F V H)(S:fk N I B a t H):fk N I B a t (jV c B F V H):=by
 have k:∀{x:et} {p:AO},B x=d9 p->jV c B F V H x=H x:=λ{x p} h=>wS λm=>by rw[(zA f m).1] at h;exact nS h
 exact⟨wT f S.b,λx p Z y=>(k Z).trans (S.f x p Z y),λx p Z=>(S.i x p Z).imp λX h=>(k Z).trans h,S.l,S.m,S.u,S.r,S.p,S.c⟩
theorem Ip(f:FR c B a t F V H)(b:c.i=eh):FR c (jV c B F V H) a t F V H:=by
 refine⟨λi v N=>?_,f.d,λx Z=>?_,f.inj,f.b⟩
 ·refine f.e i v N λu L T W=>?_
  refine(fQ u L T (λD=>(W D).imp λr e=>⟨e.1,?_⟩));unfold jV;rw[if_pos (eH (fS i v N D (e.1▸L)))]
 ·refine f.g x Z λn Q L T W=>?_
  refine(fS n Q L T (λq=>?_));unfold jV;rw[if_pos (eI ⟨W q,Q,T⟩)]
theorem FR.z{R:AH}(f:FR c R a t F V H)(h:∀x,R x=eh->B x=eh):FR c B a t F V H:=
 ⟨λi v N=>by refine f.e i v N λu L T W=>?_;exact(fQ u L T (λo=>(W o).imp λr e=>⟨e.1,h _ e.2⟩)),f.d,λx Z=>by refine f.g x Z λn Q L T W=>?_;exact(fS n Q L T (λq=>h _ (W q))),f.inj,f.b⟩
theorem FR.p{p:List (et×fN)}(f:FR c B a t F V H):FR (gO c p) B a t F V H:=⟨f.h,f.d,f.f,f.inj,f.b⟩
theorem FR.n{p:List (et×fN)}(f:FR (Internal.gO c p) B a t F V H):FR c B a t F V H:=⟨f.h,f.d,f.f,f.inj,f.b⟩
theorem jA.o{p:List (et×fN)}(b:jA d P j Y c):jA d P j Y (gO c p):=⟨b.b,b.a.k,b.h,b.j,b.e,b.f,b.g,b.l.imp λn h=>⟨⟨h.1.b,h.1.a⟩,h.2⟩⟩
theorem Qe:∀{m:List Nat} {A:List ed} {V:eJ} {b:Nat} {u:ed},(∀i∈m,i<113)->b∉m->iy c V H (nm b) u->iy c (mD V (m.map nm) A) H (nm b) u:=by
 intro m
 induction m with
 |nil=>intro A V b u U U h;exact h
 |cons i m D=>
  intro A V b u C J h;cases A with
  |nil=>exact h
  |cons w W=>exact D (λk z=>C k (gu _ z)) (λq=>J (gu _ q)) ((qN (C i (gL _)) λe=>J (e▸gL _)).mpr h)
theorem Uu{F2:Fr}{s:Ad}{aj:eJ}{k:AH}{t2:eB}{y:Ad}{f:eB}(ae:FR c B a t F V H)(b:Bd d P j Y c B F y f V k)(p0:fk y f k a t H)(ag:Wd H a t){e:eW}{v:eD}{l:et}{A:List ed}(N:VR H a t v (ec l))(C:H l=d9 (.a A))
  (J:tY c F V k e v (ec l)) (p:(ia t v).isSome=eb) (S:mI F e v=eb) (Z:mY F F2 e=eb) {w:List Nat} (hw:∀i,e.P=d9 i->i∉w) (ac:gK c (jV c B F V H) a t w V H t2 F2 s aj M) (q:uB t t2 v):M l=d9 (.a A):=by
 have R:(¬yw c B F V H l∨v.k=em)->M l=d9 (.a A):=λh=>IT ag N C p (h.imp (λh=>(wS h).trans C) id) ac.a q;have r:¬(B l=eh∧∃Q,H l=d9 (.g Q)):=λ⟨_,Q,e⟩ =>by rw[C] at e;cases e
 by_cases x:∃i,e=.a i
 ·(refine fL x λi m=>?_;(clear x;obtain rfl:=m))
  (refine kB (J.2 i rfl) λhh Q hF e3=>?_;(clear q J;obtain rfl:=e3))
  have u:iy c V H (nm i) (ec l):=hh.a λad v h=>p0.f _ _ h (nE b.f h rfl);by_cases D:Q.i=eb
  ·cases Q with
   |c o z=>
    have D:o=true:=D;clear p R;subst D;have O:jE F i=d9 z:=by unfold jE;rw[hF];rfl
    have S:(!(jE F i).isSome||(iY F i).isSome)=true:=S;rw[O] at S;refine wi S λX I=>?_;have Z:(!(iY F i).isSome||eU (iY F2 i=iY F i))=true:=Z;rw[I] at Z;have m:iY F2 i=d9 X:=of_decide_eq_true Z;have e3:l5 z=d9 X:=by unfold iY at I;rw[O] at I;exact I
    refine fy m λav e4 e5=>?_;refine fy e4 λaw e6 e7=>?_;rw[CO e7] at e6;refine ac.d.e i _ e6 λu2 L g2 U=>?_;have:=L.b (ac.f i _ (hw i rfl) u);clear L;clear U;subst this;refine jD g2 λaf au e8 W g4 U=>?_;clear U;cases e8;refine jD N λr' aq e9 n K U=>?_;clear U;cases e9;rw[C] at n;cases n;rw[wh e5] at g4;rw[wh e3] at K;rw[W,g4.h,K.h]
   |g o ak=>exact nB p
   |_=>exact nB D
  ·refine R ?_
   by_cases G:Q.e.k=eb
   ·left
    rintro(⟨aa,v1,L,g2,W⟩ |g)
    ·by_cases e:aa=i
     ·clear Z hw hh S u
      subst e;rw[hF] at L;obtain rfl:=eX L;exact D g2
     ·exact ae.d aa i v1 Q l e L hF g2 (by(clear hF N p R S D;cases Q)<;>first|rfl|exact nB G) W u
    ·exact r g
   ·right;cases h:Q.e.k<;>first|rfl|exact absurd h G
 ·have S:(v.i||v.B)=true:=by
   cases e with
   |a i=>exact absurd ⟨i,rfl⟩ x
   |_=>exact S
  refine R ?_;rcases Du.mp S with D|D
  ·left
   refine eR (J.1 D) λaf O m=>?_;cases O;rintro(⟨aa,v1,L,g2,W⟩ |g)
   ·exact u8 b p0 m L (uw g2) W
   ·exact r g
  ·right;(clear N J p S q R;clear S;cases v)<;>first|rfl|exact nB D
theorem P4{u:eB->Fr->Bool}{N:List Nat}{B:eB->Fr->Option (Fl×eB×Fr)}{W:List (List eT)}{t:eB}{F:Fr}{r:Fl×eB×Fr}(h:j7 u N B W t F=d9 r):u t F=true:=by
 cases W with
 |nil=>exact(wf h).1
 |cons=>exact(wf h).1
theorem LP{tg:List Nat}{L:iF}{x:Ss}(hs:oW d P L)(hx:SS d P x):S1 d P (.j tg L x):=kh λ{Y c aQ t F r} hc h {B N I a V H aJ} b s0 hq=>by
 refine fq hc λaB aA=>?_;refine fq aB λaC az=>?_;refine fq aC λav aw=>?_;have C:=iC.mp aw;refine hV h λvs t1 h1 l=>?_;refine fy l λls h2 k=>?_;refine fy k λW h3 s=>?_
 (refine gm s λg1 w=>?_;refine fe g1 λhw aE=>?_)
 refine Ba b.b.a (λaR hy=>?_) (hs av h1 h2 h3 (of_decide_eq_true az) b ?_) (Db L _ _)
 ·(refine fP hy λi R m=>?_;(clear hy;obtain rfl:=m))
  exact j8 b.b (C i R)
 intro aM aK aO O Z aI p Q G;have f1:=(b.e Q).g;have w1:=Q.b;have s1:=s0.d Q;have ag:=Ir f1 s1;have ac:∀x,jV c B F V Z x=eh->B x=none:=λx hx=>ag.h hx;have ae:∀{aq:List Nat} {S:eB} {F2:Fr} {v:Ad} {n:eJ} {H2:AH},gK c (jV c B F V Z) O t1 aq V Z S F2 v n H2->gK c B N I aq V H S F2 v n H2:=λq=>
  ⟨q.d.z ac,ag.d q.a,λi u R h=>q.f i u R (h.a λad aa h=>Q.f _ _ h (nE b.f h rfl))⟩
 refine(lO (λi n H2=>∃v S F2,gK c (jV c B F V Z) O t1 (tg++x.f) V Z S F2 v n H2∧j7 (λD F'=>pC t1 D vs&&L.d.all λe=>mY F F' e) tg (λt F=>x.c d t F) (W.drop i) S F2=d9 r) ?_ ?_ ?_ ?_)
 ·exact(pg O t1 F ⟨Ip f1 (b.b.g rfl),.j (wT f1 w1) λU U=>Iq,λU U U h=>h⟩ w)
 ·rintro i n H2 ⟨v,S,F2,q,w⟩
  refine fq (P4 w) λg1 g2=>?_;refine G.j H2 (λz f=>?_) q.d.b;obtain⟨e,aa,aL,A⟩ :=z;refine gY (G.d _ f) λc1 c2 c3=>?_;have K:e∈L.d:=G.f▸jY (f:=λq:eW×eD×et×List ed=>q.1) f;have mv:aa∈vs:=G.e▸jY (f:=λq:eW×eD×et×List ed=>q.2.1) f;have mz:(e,aa)∈L.d.zip vs:=by
   rw[←G.f,←G.e,List.zip_map'];exact jY (f:=λq:eW×eD×et×List ed=>(q.1,q.2.1)) f
  exact Uu f1 b Q w1 c1 c2 c3 (Go h2 _ mv) (iC.mp aE _ mz) (iC.mp g2 _ K) (λi R hm=>by
   have:=iC.mp hw e K;rw[R] at this;have:(!((tg++x.f).contains i))=true:=this;rw[List.contains_eq_mem,decide_eq_true hm] at this;exact nB this) q (IU g1 _ mv)
 ·rintro i n H2 aP aD ⟨v,S,F2,q,w⟩
  have M:i<W.length:=G.b▸aD;have hd:W.drop i=W[i]::W.drop (i+1):=Ke M;rw[hd] at w;refine gm w λU aj=>?_
  (refine fy aj λg3 r1 ak=>?_;obtain⟨au,t3,F3⟩ :=g3)
  have aF:gN H2 v S W[i] (p i):=by
   have g:=G.g i _ (jF M);have g2:gN (jV c B F V Z) O t1 W[i] (p i):=g.e λr A hr=>by
    rw(occs:=eO) [wS λaG=>?_];exact hr
    (refine gY (zA f1 aG) λU U g4=>?_;refine eR g4 λaf e1 m=>?_)
    rw[hr] at e1;exact m A (eX e1).symm
   exact g2.d q.a (wT f1 w1)
  have lt:∀j∈tg,j<113:=λj J=>ql (C j J);have o:gK c (jV c B F V Z) O t1 (tg++x.f) V Z S (fV F2 tg W[i]) v (mD n (tg.map nm) (p i)) H2:=
   ⟨q.d.w (λj J=>⟨lt j J,j8 b.b (C j J)⟩) aF,q.a,λj u J h=>Qe lt (λz=>J (lc.mpr (eH z))) (q.f j u J h)⟩
  rw[G.h];refine hx aA r1 ⟨b.b.o,o.d.p,o.a.b⟩ o.a λg a3 X H3 r y=>?_;have q3:gK c (jV c B F V Z) O t1 (tg++x.f) V Z t3 F3 a3 X H3:=⟨r.d.n,r.a,λj u J h=>r.f j u (λz=>J (lc.mpr (eI z))) (o.f j u J h)⟩;cases au with
  |a=>
   rw[show g=fY from y];exact(pg a3 t3 F3 q3 ak)
  |b aa=>
   clear h l k s r r1;clear w aj;clear w;obtain rfl:=eX ak
   (refine f5 y λu e5 hv ho=>?_;(clear y;obtain rfl:=e5))
   exact hq (iV u) a3 X H3 (ae q3) (fQ u rfl hv (λaf=>(ho af).imp λr e=>⟨e.1,ac _ e.2⟩))
 ·rintro n H2 ⟨v,S,F2,q,w⟩
  rw[G.b,Wf] at w;refine gm w λU aH=>?_;clear h l k s;clear w U;clear w;obtain rfl:=eX aH;exact hq fY v n H2 (ae q) rfl
theorem LG:∀{i:Nat} {e:eW},S1 d P (.a i e)
 |i,.B T N L a A=>LH (A' L) (fR T).1 (mM a).2.2
 |i,.a j=>jN (fR _).1 rfl
 |i,.w j=>jN (fR _).1 rfl
 |i,.d j=>jN (fR _).1 rfl
 |i,.F=>jN (fR _).1 rfl
 |i,.I _=>jN (fR _).1 rfl
 |i,.G _=>jN (fR _).1 rfl
 |i,.c _ _=>jN (fR _).1 rfl
 |i,.n _ _=>jN (fR _).1 rfl
 |i,.H _=>jN (fR _).1 rfl
 |i,.p _ _ _=>jN (fR _).1 rfl
 |i,.h _ _ _=>jN (fR _).1 rfl
 |i,.M _=>jN (fR _).1 rfl
 |i,.K _=>jN (fR _).1 rfl
 |i,.D _ _=>jN (fR _).1 rfl
 |i,.C _ _ _=>jN (fR _).1 rfl
 |i,.z _=>jN (fR _).1 rfl
 |i,.A _=>jN (fR _).1 rfl
 |i,.N=>jN (fR _).1 rfl
 |i,.j _ _=>jN (fR _).1 rfl
 |i,.v _ _ _=>jN (fR _).1 rfl
 |i,.x _ _=>jN (fR _).1 rfl
 |i,.J _ _=>jN (fR _).1 rfl
 |i,.L _ _=>jN (fR _).1 rfl
mutual
theorem yf:∀s:js,S1 d P s
 |.a i e=>LG
 |.l g m e=>LK (fR e).1
 |.z m x=>LI
 |.y i j k=>LM
 |.d o f e=>LY (fR o).1 (fR e).1
 |.B o x=>L7 (fR o).1
 |.s i B e=>LZ (fR e).1
 |.n x k e=>L0 (fR k).1 (fR e).1
 |.m x e=>LF (fR e).1
 |.r x e=>LO (fR e).1
 |.A x k e=>LR (fR k).1 (fR e).1
 |.C o e=>LU (fR e).1
 |.q o e=>L9 (fR e).1
 |.h e=>LN (fR e).1
 |.c q x y=>LQ (fR q).2 (qO x) (qO y)
 |.w q x=>L8 (fR q).2 (qO x)
 |.j N L x=>LP (A' L) (qO x)
 |.g e=>LV (fR e).1
 |.u x=>LX
 |.D=>LW
 |.p=>LS
theorem qO:∀s:Ss,SS d P s
 |.b=>MF
 |.a s r=>ME (yf s) (qO r)
end
noncomputable def Fl.e:Fl->eD
 |.a=>.b .e
 |.b v=>v
def iu(P:iE)(g:Nat)(B:List Nat)(b:Ss):Prop:=∀{d:ir} {k:Nat} {c:Cx},vf d P k->c.e=KK P->c.d->Lv c (k+1)->(d.a=eb->c.b.handled=eh)->∀{w t f D e},b.c d t (fh B (w.map eD.e))=d9 (f,D,e)->w.length=B.length->
 ∀{a V H A Q},Wd H a t->kJ c.b H->jd H a t w A->nG a t H f.e D Q->lL c (ec (i6 g)) A V H Q
theorem jd.b:∀{J:List eD} {A:List ed},jd H a t J A->A.length=J.length:=by
 intro G
 induction G with
 |nil=>
  intro U h;rw[show _=[] from h];rfl
 |cons U _ D=>
  intro U L;exact fT L λu W c h S=>by rw[c,lF,D S];rfl
theorem o6:∀{b:List Nat} {w:List eD} {A:List ed} {i:Nat} {v:eD},(∀f∈b,f<113)->jd H a t w A->fh b (w.map eD.e) i=d9 v->i∈b∧v.i=em∧∃u,VR H a t v u∧(nm i,u)∈(b.map nm).zip A:=by
 intro b
 induction b with
 |nil=>intro w A i v U U h;exact nS h
 |cons p b D=>
  intro w A i v C Z h;cases w with
  |nil=>exact nS h
  |cons x z=>
   refine fT Z λu W e g O=>?_;unfold fh at h;rw[gj,xy,iw] at h;rw[e,gj,xy];cases q:i==p with
   |true=>
    rw[q] at h;obtain rfl:=eX h;rw[beq_iff_eq.mp q];exact⟨gL _,rv x,u,g.f,gL _⟩
   |false=>
    rw[q] at h
    (refine gY (D (λf J=>C f (gu _ J)) O h) λK I L=>?_;refine eR L λd c y=>?_)
    exact⟨gu _ K,I,d,c,gu _ y⟩
theorem HP:∀{m:List Nat},m.Nodup->(∀i∈m,i<113)->(m.map nm).Nodup:=by
 intro G
 induction G with
 |nil=>
  intro U U;exact n8
 |cons i m D=>
  intro h B;refine qm h λw o=>?_;rw(occs:=eO) [gj,kE];refine⟨λY=>?_,D o λj J=>B j (gu _ J)⟩;refine fP Y λj J e=>?_;rw[ul (B j (gu _ J)) e] at J;exact w J
theorem Hz{L j:Type}[BEq L][LawfulBEq L]{x:L}{y:j}:∀{l:List (L×j)},(l.map (·.1)).Nodup->(x,y)∈l->l.lookup x=d9 y:=by
 intro l
 induction l with
 |nil=>intro U h;exact absurd h iI
 |cons p l D=>
  intro E h;refine qm E λI f=>?_;rw[iw];rcases gy.mp h with h|h
  ·rw[←h,beq_self_eq_true]
  ·have:x≠p.1:=λe=>I (mj.mpr (eu _ h e))
   rw[beq_eq_false_iff_ne.mpr this];exact D f h
theorem vV{B:List Nat}{A:List ed}{i:Nat}{u:ed}(E:B.Nodup)(C:∀b∈B,b<113)(h:(nm i,u)∈(B.map nm).zip A):iR (B.map nm) A (nm i)=d9 u:=by
 unfold iR;apply Hz
 ·rw(occs:=eO) [nq,V8,Kr]
  have:∀{l:List String} {m:List ed},l.Nodup->((l.zip m).map (·.1)).Nodup:=by
   intro l
   induction l with
   |nil=>intro m _;exact n8
   |cons x l D=>
    intro m h;cases m with
    |nil=>exact n8
    |cons y m=>
     refine qm h λK I=>?_;rw[xy,gj];refine kE.mpr ⟨λq=>?_,D I⟩;refine fP q λz f e=>?_;exact K ((show z.1=x from e)▸(rG (show(z.1,z.2)∈l.zip m from f)).1)
  exact(this (HP E C)).imp gM
 ·exact lH.mpr h
theorem l7{B:List Nat}(h:(B.all λi=>eU (i<113))=eb):∀i∈B,i<113:=λi R=>of_decide_eq_true (iC.mp h i R)
theorem sV(h:(Y.all λp=>eU (p.1<113))=eb):∀p∈Y,p.1<113:=λp J=>of_decide_eq_true (iC.mp h p J)
theorem FZ{b:Ss}{u:fG}{B:List Nat}{w:List eD}{f:Fl}{A:Fr}{Q:ed->AH->Prop}(S:jA d P em Y c)(e:FR c H a t (fh B (w.map eD.e)) V M)(o:fk a t H a t M)
  (Z:b.d (fj u)=fj u) (z:b.e Y (fj u)=eb) (h:b.c d t (fh B (w.map eD.e))=d9 (f,D,A)) (G:nG a t H f.e D Q):TS c (fj u) V M λX U T=>Q (pA X) T:=by
 rw[←Z];refine qO b z h ⟨S,e,o.b⟩ o λg s l T p y=>?_;cases f with
 |a=>
  rw[show g=fY from y];exact G _ s T p.a rfl (λh=>nB h)
 |b v=>
  (refine f5 y λj O N i=>?_;(clear y;obtain rfl:=O))
  exact G _ s T p.a N i
theorem EY{g:Nat}{B:List Nat}{s:et}{u:fG}{n q:ft}{E m:ed}{k:Nat}{w:List eD}{A:List ed}{Q:ed->AH->Prop}(Y:gZ)(W:vf d P k)(F:c.e=KK P)(O:c.d)(l:Lv c (k+1))(y:d.a=eb->c.b.handled=eh)
  (K:(KK P).lookup (i6 g)=d9 ⟨eK "function",eh,gQ u n q m E (ec s),#[]⟩) (I:pP (KK P) (ec s) q=eb) (j:sF (lJ n q (qg u) (fj u) (fD u) m ez ez E eh (ec s) ez) (B.map nm)) (X:qq (fD u) (B.map nm)=eb)
  (hs:(fD u).names=(fM Y).names) (J:((Y.all λp=>eU (p.1<113))&&(B.all λi=>eU (i<113))&&eU B.Nodup)=eb) (C:w.length=B.length) (hh:kJ c.b H) (N:jd H a t w A)
  (aa:∀b,jA d P em Y b->FR b H a t (fh B (w.map eD.e)) (iR (B.map nm) A) H->Lv b k->b.b.handled=c.b.handled->TS b (fj u) (iR (B.map nm) A) H λfl U T=>Q (pA fl) T):lL c (ec (i6 g)) A V H Q:=by
 refine fq J λaf ae=>?_;refine fq af λac M=>?_;refine wJ X λc1 c2 c3 c4 Z=>?_;refine Be F O l (B.map nm) K I j X (by rw[fC,N.b,C]) λg L r=>?_;generalize f:iM c g L (kR q (fD u) L (i6 _) (ec s) [])=b at r;have h:∀x,b.a.kindOf x=(fD u).names.lookup x:=λx=>by rw[←f];rfl
 have z:∀x,b.a.kindOf x≠d9 fK:=λx e=>by rw[h] at e;exact c2 _ (pq e) rfl
 refine aa b ⟨f▸F,r,?_,?_,λi k' R=>?_,λq=>f▸y q,λU=>f▸rfl,(eu k (f▸l.e) W)⟩ ⟨λi v R=>?_,λi aj v v' ak U R U D=>?_,λx e=>absurd e (z x),λx aq ad e=>absurd e (z x),f▸hh⟩ (f▸l.e) (f▸rfl)
 ·unfold rN;rw[r.b];rfl
 ·unfold xI;rw[r.b];rfl
 ·rw[h,hs];exact(mW (sV ac)).trans R
 ·(refine gY (o6 (l7 M) N R) λm1 S g2=>?_;refine eR g2 λag o G=>?_)
  exact(fQ ag (eH ⟨(h _).trans (c1 _ (jY m1)),vV (of_decide_eq_true ae) (l7 M) G⟩) o (by rw[S];nofun))
 ·refine gY (o6 (l7 M) N R) λU S U=>?_
  rw[S] at D;exact nB D
theorem i5{g:Nat}{B:List Nat}{b:Ss}{s:et}{u:fG}{n q:ft}{E m:ed}(Y:gZ)
  (K:(KK P).lookup (i6 g)=d9 ⟨eK "function",eh,gQ u n q m E (ec s),#[]⟩) (I:pP (KK P) (ec s) q=eb) (j:sF (lJ n q (qg u) (fj u) (fD u) m ez ez E eh (ec s) ez) (B.map nm)) (X:qq (fD u) (B.map nm)=eb)
  (Z:b.d (fj u)=fj u) (o:(fD u).names=(fM Y).names) (z:b.e Y (fj u)=eb) (J:((Y.all λp=>eU (p.1<113))&&(B.all λi=>eU (i<113))&&eU B.Nodup)=eb):iu P g B b:=
 λ{d k c} W F O l y {v t f D A} h C {a V H L r} w e N G=>EY Y W F O l y K I j X o J C e N λx S Q U U=>FZ S Q (.e w) Z z h G
theorem OA(n i:Nat):n<n+1+i:=by lia
theorem Oz{n i j:Nat}(h:n+1+i=n+1+j):i=j:=by lia
theorem SR{n k m:Nat}(h:k<m):(tq n m)[k]? =d9 (n+k):=by
 rw[List.getElem?_range' h];simp
theorem rR{g:Nat}{B W:List Nat}{b:Ss}{s:et}{u:fG}{n q:ft}{E dV:ed}(Y:gZ)
  (K:(KK P).lookup (i6 g)=d9 ⟨eK "function",eh,gQ u n q dV E (ec s),#[]⟩) (I:pP (KK P) (ec s) q=eb) (hb:sF (lJ n q (qg u) (fj u) (fD u) dV ez ez E eh (ec s) ez) (B.map nm))
  (aO:((fD u).isCoroutine==em&&(fD u).isGenerator==em&&(fD u).kind==jH)=eb) (ak:∀k,rL k (fD u).names []=(((W.map nm).map eE).zip (tq k (W.map nm).length)).reverse)
  (Z:b.d (fj u)=fj u) (hs:(fD u).names=(fM Y).names) (hk:b.e Y (fj u)=eb) (J:((Y.all λp=>eU (p.1<113))&&(B.all λi=>eU (i<113))&&eU B.Nodup&&eU W.Nodup&&(W.all λi=>Y.lookup i==d9 fK)&&(B.all λi=>Y.lookup i==d9 ey||(Y.lookup i==d9 fK&&W.contains i))&&Y.all λp=>p.2 !=fK||W.contains p.1)=eb):iu P g B b:=by
 intro d k c ok F az l y aY t aZ D F' aB hl a V H A aX ae hh N G;refine fq J λaH aG=>?_;refine fq aH λaI aF=>?_;refine fq aI λaJ aE=>?_;refine fq aJ λaK au=>?_;refine fq aK λaL aD=>?_;refine fq aL λaq M=>?_;refine fq aO λaS aR=>?_;refine fq aS λaP aQ=>?_;have C:∀i,(fD u).names.lookup (eE (nm i))=Y.lookup i:=λi=>by rw[hs];exact mW (sV aq)
 have af:∀i∈W,Y.lookup i=d9 fK:=λi R=>beq_iff_eq.mp (iC.mp aE i R);have ag:∀i∈W,i<113:=λi R=>sV aq (i,fK) (pq (af i R));have aw:∀i∈B,Y.lookup i=d9 ey∨(Y.lookup i=d9 fK∧i∈W):=λi R=>by
  have:=iC.mp aF i R;rcases Du.mp this with e|e
  ·exact eH (beq_iff_eq.mp e)
  ·refine fq e λO m=>?_
   exact eI ⟨beq_iff_eq.mp O,We.mp m⟩
 have X:∀x,(fD u).names.lookup x=d9 fK->∃i,i∈W∧x=eE (nm i):=λx e=>by
  rw[hs] at e;refine fP (pq e) λp hp e'=>?_;cases p with|mk i T=>
  clear e;cases e';have:=iC.mp aG _ hp;exact(eu i (We.mp this) rfl)
 refine EX az (F▸K) (F▸I) l.f (B.map nm) (W.map nm) (λbc vs U aT=>D4 (hb vs (by rw[aT,N.b,fC,hl]))) (λx Z=>?_) ak (HP (of_decide_eq_true au) ag) (λx Z=>?_) (beq_iff_eq.mp aP) (beq_iff_eq.mp aQ) (beq_iff_eq.mp aR) λz L r av=>?_
 ·(refine fP Z λi R e3=>?_;(clear Z;obtain rfl:=e3))
  rw[C];exact(aw i R).imp id λe=>⟨e.1,jY e.2⟩
 ·(refine fP Z λi R e4=>?_;(clear Z;obtain rfl:=e4))
  rw[C];exact af i R
 have h:∀x,(iM c z L (mK q (fD u) L (i6 g) (ec s))).a.kindOf x=(fD u).names.lookup x:=λx=>rfl;have aA:(iM c z L (mK q (fD u) L (i6 g) (ec s))).a.cells=rL (L+1) (fD u).names []:=rfl;have v:∀i∈W,∃T,W[T]? =d9 i∧(iM c z L (mK q (fD u) L (i6 g) (ec s))).a.cells.lookup (eE (nm i))=d9 (L+1+T)∧qy H L ((W.map nm).map (iR (B.map nm) A)) (L+1+T)=d9 (.g (iR (B.map nm) A (nm i))):=λi R=>by
  refine fL (DS.mp R) λT ac=>?_;have aM:T<W.length:=(xu.mp ac).1;refine(fQ T ac ?_ ?_)
  ·rw[aA,ak]
   apply Hz
   ·rw(occs:=eO) [nq,DP (by simp),V8,Kr,gJ]
    exact(HS (of_decide_eq_true au) ag).imp gM
   ·rw(occs:=eO) [lH,DS]
    refine⟨T,?_⟩;rw(occs:=eO) [Wl];refine⟨?_,SR (by rw(occs:=eO) [fC];exact aM)⟩;rw(occs:=eO) [lE,lE,ac];rfl
  ·unfold qy
   rw[if_pos (OA L T),show L+1+T-(L+1)=T from Kw _ _,lE,lE,ac];rfl
 have Q:∀x aa,H x=d9 aa->qy H L ((W.map nm).map (iR (B.map nm) A)) x=d9 aa:=λx aa Z=>by
  unfold qy;rw[if_neg (WK (av x aa Z))];exact Z
 have hB:∀T,H (L+1+T)=none:=λT=>by
  cases e:H (L+1+T) with
  |none=>rfl
  |some aa=>exact absurd (av _ aa e) (Fy L T)
 generalize f:iM c z L (mK q (fD u) L (i6 g) (ec s))=c' at*;refine FZ (Y:=Y) ⟨f▸F,r,?_,?_,λi k' R=>(h _).trans ((C i).trans R),λq=>f▸y q,λU=>f▸rfl,(eu k (f▸l.e) ok)⟩ ⟨λi aV R=>?_,λi j aV v' ba U R U ho=>?_,λx e=>?_,λx aW ad O m l1 l2=>?_,?_⟩ (.j ae Q) Z hk aB G
 ·unfold rN;rw[r.b];rfl
 ·unfold xI;rw[r.b];rfl
 ·(refine gY (o6 (l7 M) N R) λm1 S g5=>?_;refine eR g5 λaU m3 m4=>?_)
  have aj:=vV (of_decide_eq_true aD) (l7 M) m4;refine(fQ aU ?_ (m3.a (.j ae Q) ae) (by rw[S];nofun));rcases aw i m1 with e|⟨e,aC⟩
  ·refine eH ⟨(h _).trans ((C i).trans e),?_⟩
   unfold vU;rw[if_pos ((C i).trans e)];exact aj
  ·refine f5 (v i aC) λT U w o=>?_
   rw[aj] at o;exact eI ⟨(h _).trans ((C i).trans e),_,w,o⟩
 ·refine gY (o6 (l7 M) N R) λU S U=>?_
  rw[S] at ho;exact nB ho
 ·rw[h] at e
  (refine eR (X x e) λi R e6=>?_;(clear e;obtain rfl:=e6))
  refine f5 (v i R) λT U w o=>?_;exact(fS _ _ w o (λU=>hB T))
 ·rw[h] at O m
  (refine eR (X x O) λi R e7=>?_;(clear O;obtain rfl:=e7))
  (refine eR (X aW m) λj hj e8=>?_;(clear m;obtain rfl:=e8))
  refine f5 (v i R) λT z1 w U=>?_;refine f5 (v j hj) λk1 z2 o U=>?_;rw[l1] at w;rw[l2] at o;have K:=eX w;have I:=eX o;have:T=k1:=Oz (K.symm.trans I);clear I o;clear U;subst this;rw[z1] at z2;rw[eX z2]
 ·exact(show kJ c'.b H from f▸hh).b λx aa Z=>Q _ _ Z
end
section
variable{P:iE}
theorem RR:iu P 1023 [50,56] sr:=i5 (n:=ei "size") (q:=ei "Window.size") (E:=(eC (ei "emacs.windows") 227)) (m:=ez) (s:=61) (u:=(fW 9 1)) Ji rfl (by kernel_rfl) (by exact ij λa b=>.a (by kernel_rfl)) (by kernel_rfl) Vm Tl (by kernel_rfl) (by kernel_rfl)
theorem RO:iu P 1024 [50,56,57] sq:=i5 (n:=ei "set_size") (q:=ei "Window.set_size") (E:=(eC (ei "emacs.windows") 227)) (m:=ez) (s:=68) (u:=(fW 9 2)) Jf rfl (by kernel_rfl) (by exact ij λa b d=>.a (by kernel_rfl)) (by kernel_rfl) Vj Ti (by kernel_rfl) (by kernel_rfl)
theorem RN:iu P 1025 [50,56] sj:=i5 (n:=ei "place") (q:=ei "Window.place") (E:=(eC (ei "emacs.windows") 227)) (m:=ez) (s:=75) (u:=(fW 9 3)) Je rfl (by kernel_rfl) (by exact ij λa b=>.a (by kernel_rfl)) (by kernel_rfl) Vi Th (by kernel_rfl) (by kernel_rfl)
theorem RQ:iu P 1026 [50] FT:=i5 (n:=ei "shown") (q:=ei "Window.shown") (E:=(eC (ei "emacs.windows") 227)) (m:=ez) (s:=82) (u:=(fW 9 4)) Jh rfl (by kernel_rfl) (by exact ij λa=>.a (by kernel_rfl)) (by kernel_rfl) Vl Tk (by kernel_rfl) (by kernel_rfl)
theorem RP:iu P 1027 [50,58] vC:=i5 (n:=ei "show") (q:=ei "Window.show") (E:=(eC (ei "emacs.windows") 227)) (m:=ez) (s:=89) (u:=(fW 9 5)) Jg rfl (by kernel_rfl) (by exact ij λa b=>.a (by kernel_rfl)) (by kernel_rfl) Vk Tj (by kernel_rfl) (by kernel_rfl)
theorem RM:iu P 1029 [50,53] vB:=i5 (n:=ei "window") (q:=ei "WindowTree.window") (E:=(eC (ei "emacs.windows") 227)) (m:=ez) (s:=125) (u:=(fW 10 2)) Jd rfl (by kernel_rfl) (by exact ij λa b=>.a (by kernel_rfl)) (by kernel_rfl) Vg Tf (by kernel_rfl) (by kernel_rfl)
theorem RI:iu P 1030 [50,53] vy:=i5 (n:=ei "leaf") (q:=ei "WindowTree.leaf") (E:=(eC (ei "emacs.windows") 227)) (m:=ez) (s:=132) (u:=(fW 10 3)) I9 rfl (by kernel_rfl) (by exact ij λa b=>.a (by kernel_rfl)) (by kernel_rfl) Vc Tb (by kernel_rfl) (by kernel_rfl)
theorem RL:iu P 1031 [50,53] vA:=i5 (n:=ei "touch") (q:=ei "WindowTree.touch") (E:=(eC (ei "emacs.windows") 227)) (m:=ez) (s:=139) (u:=(fW 10 4)) Jc rfl (by kernel_rfl) (by exact ij λa b=>.a (by kernel_rfl)) (by kernel_rfl) Vf Te (by kernel_rfl) (by kernel_rfl)
theorem RK:iu P 1032 [50,53] vz:=i5 (n:=ei "select") (q:=ei "WindowTree.select") (E:=(eC (ei "emacs.windows") 227)) (m:=ez) (s:=146) (u:=(fW 10 5)) Jb rfl (by kernel_rfl) (by exact ij λa b=>.a (by kernel_rfl)) (by kernel_rfl) Ve Td (by kernel_rfl) (by kernel_rfl)
theorem RJ:iu P 1033 [50,56] si:=i5 (n:=ei "least_leaf") (q:=ei "WindowTree.least_leaf") (E:=(eC (ei "emacs.windows") 227)) (m:=ez) (s:=153) (u:=(fW 10 6)) Ja rfl (by kernel_rfl) (by exact ij λa b=>.a (by kernel_rfl)) (by kernel_rfl) Vd Tc (by kernel_rfl) (by kernel_rfl)
theorem RS:iu P 15 [54] vD:=i5 (n:=ei "along") (q:=ei "along") (E:=(eC (ei "emacs.windows") 227)) (m:=ez) (s:=174) (u:=(eS 11)) Jj rfl (by kernel_rfl) (by exact ij λa=>.a (by kernel_rfl)) (by kernel_rfl) Vn To (by kernel_rfl) (by kernel_rfl)
theorem Sg:iu P 16 [56] vP:=i5 (n:=ei "sort_along") (q:=ei "sort_along") (E:=(eC (ei "emacs.windows") 227)) (m:=ez) (s:=181) (u:=(eS 12)) JE rfl (by kernel_rfl) (by exact ij λa=>.a (by kernel_rfl)) (by kernel_rfl) VK TU (by kernel_rfl) (by kernel_rfl)
theorem R7:iu P 17 [66,53] BR:=i5 (n:=ei "leaves_under") (q:=ei "leaves_under") (E:=(eC (ei "emacs.windows") 227)) (m:=ez) (s:=188) (u:=(eS 13)) Jw rfl (by kernel_rfl) (by exact ij λa b=>.a (by kernel_rfl)) (by kernel_rfl) VC TH (by kernel_rfl) (by kernel_rfl)
theorem R5:iu P 18 [66] yK:=i5 (n:=ei "leaves") (q:=ei "leaves") (E:=(eC (ei "emacs.windows") 227)) (m:=ez) (s:=195) (u:=(eS 14)) Jv rfl (by kernel_rfl) (by exact ij λa=>.a (by kernel_rfl)) (by kernel_rfl) VB TG (by kernel_rfl) (by kernel_rfl)
theorem Sl:iu P 19 [66,53] BS:=i5 (n:=ei "windows_under") (q:=ei "windows_under") (E:=(eC (ei "emacs.windows") 227)) (m:=ez) (s:=202) (u:=(eS 15)) JH rfl (by kernel_rfl) (by exact ij λa b=>.a (by kernel_rfl)) (by kernel_rfl) VM TX (by kernel_rfl) (by kernel_rfl)
theorem Sb:iu P 20 [66,69,70] rg:=i5 (n:=ei "replace_child") (q:=ei "replace_child") (E:=(eC (ei "emacs.windows") 227)) (m:=ez) (s:=209) (u:=(eS 16)) JA rfl (by kernel_rfl) (by exact ij λa b d=>.a (by kernel_rfl)) (by kernel_rfl) VG TM (by kernel_rfl) (by kernel_rfl)
theorem RX:iu P 21 [66,53] vG:=i5 (n:=ei "forget") (q:=ei "forget") (E:=(eC (ei "emacs.windows") 227)) (m:=ez) (s:=216) (u:=(eS 17)) Jo rfl (by kernel_rfl) (by exact ij λa b=>.a (by kernel_rfl)) (by kernel_rfl) Vs Tt (by kernel_rfl) (by kernel_rfl)
theorem R3:iu P 22 [66,53,56] vJ:=rR (W:=[65]) (n:=ei "least_size") (q:=ei "least_size") (E:=(eC (ei "emacs.sizes") 490)) (dV:=ez) (s:=221) (u:=(eS 19)) Ju rfl (by kernel_rfl) (by exact ij λa b d=>.a (by kernel_rfl)) (by kernel_rfl) (λk=>by kernel_rfl) VA TF (by kernel_rfl) (by kernel_rfl)
theorem Sf:iu P 23 [74,75,76] sC:=rR (W:=[77,78,79]) (n:=ei "shares") (q:=ei "shares") (E:=(eC (ei "emacs.sizes") 490)) (dV:=ez) (s:=226) (u:=(eS 20)) JD rfl (by kernel_rfl) (by exact ij λa b d=>.a (by kernel_rfl)) (by kernel_rfl) (λk=>by kernel_rfl) VJ TR (by kernel_rfl) (by kernel_rfl)
theorem Se:iu P 24 [66,53,56,57] vO:=rR (W:=[66,56]) (n:=ei "set_tree_size") (q:=ei "set_tree_size") (E:=(eC (ei "emacs.sizes") 490)) (dV:=ez) (s:=231) (u:=(eS 21)) JC rfl (by kernel_rfl) (by exact ij λa b d e=>.a (by kernel_rfl)) (by kernel_rfl) (λk=>by kernel_rfl) VI TQ (by kernel_rfl) (by kernel_rfl)
theorem Sd:iu P 25 [66] vN:=i5 (n:=ei "set_places") (q:=ei "set_places") (E:=(eC (ei "emacs.sizes") 490)) (m:=ez) (s:=238) (u:=(eS 22)) JB rfl (by kernel_rfl) (by exact ij λa=>.a (by kernel_rfl)) (by kernel_rfl) VH TP (by kernel_rfl) (by kernel_rfl)
theorem Sm:iu P 27 [66,53] vS:=i5 (n:=ei "wrong_window") (q:=ei "wrong_window") (E:=(eC (ei "emacs.sizes") 490)) (m:=ez) (s:=252) (u:=(eS 24)) JI rfl (by kernel_rfl) (by exact ij λa b=>.a (by kernel_rfl)) (by kernel_rfl) VN TY (by kernel_rfl) (by kernel_rfl)
theorem Sk:iu P 28 [66] vR:=i5 (n:=ei "tree_error") (q:=ei "tree_error") (E:=(eC (ei "emacs.sizes") 490)) (m:=ez) (s:=259) (u:=(eS 25)) JG rfl (by kernel_rfl) (by exact ij λa=>.a (by kernel_rfl)) (by kernel_rfl) VL TV (by kernel_rfl) (by kernel_rfl)
theorem Sa:iu P 29 [66,53] vL:=rR (W:=[90]) (n:=ei "node_of") (q:=ei "node_of") (E:=(eC (ei "emacs.configuration") 556)) (dV:=ez) (s:=264) (u:=(eS 27)) Jz rfl (by kernel_rfl) (by exact ij λa b=>.a (by kernel_rfl)) (by kernel_rfl) (λk=>by kernel_rfl) VF TL (by kernel_rfl) (by kernel_rfl)
theorem RU:iu P 30 [66] vE:=i5 (n:=ei "configuration") (q:=ei "configuration") (E:=(eC (ei "emacs.configuration") 556)) (m:=ez) (s:=271) (u:=(eS 28)) Jl rfl (by kernel_rfl) (by exact ij λa=>.a (by kernel_rfl)) (by kernel_rfl) Vp Tq (by kernel_rfl) (by kernel_rfl)
theorem RT:iu P 32 [66,53,56] rf:=i5 (n:=ei "combined") (q:=ei "combined") (E:=(eC (ei "emacs.splits") 572)) (m:=ez) (s:=285) (u:=(eS 31)) Jk rfl (by kernel_rfl) (by exact ij λa b d=>.a (by kernel_rfl)) (by kernel_rfl) Vo Tp (by kernel_rfl) (by kernel_rfl)
theorem RY:iu P 34 [66,53] vH:=i5 (n:=ei "joined") (q:=ei "joined") (E:=(eC (ei "emacs.splits") 572)) (m:=ez) (s:=299) (u:=(eS 33)) Jp rfl (by kernel_rfl) (by exact ij λa b=>.a (by kernel_rfl)) (by kernel_rfl) Vt Tu (by kernel_rfl) (by kernel_rfl)
theorem R8:iu P 35 [66,53] sA:=i5 (n:=ei "lifted") (q:=ei "lifted") (E:=(eC (ei "emacs.splits") 572)) (m:=ez) (s:=306) (u:=(eS 34)) Jx rfl (by kernel_rfl) (by exact ij λa b=>.a (by kernel_rfl)) (by kernel_rfl) VD TJ (by kernel_rfl) (by kernel_rfl)
theorem R9:iu P 36 [66,95] vK:=i5 (n:=ei "most_recent") (q:=ei "most_recent") (E:=(eC (ei "emacs.splits") 572)) (m:=ez) (s:=313) (u:=(eS 35)) Jy rfl (by kernel_rfl) (by exact ij λa b=>.a (by kernel_rfl)) (by kernel_rfl) VE TK (by kernel_rfl) (by kernel_rfl)
theorem RW:iu P 37 [66,53] vF:=i5 (n:=ei "delete_window") (q:=ei "delete_window") (E:=(eC (ei "emacs.splits") 572)) (m:=ez) (s:=320) (u:=(eS 36)) Jn rfl (by kernel_rfl) (by exact ij λa b=>.a (by kernel_rfl)) (by kernel_rfl) Vr Ts (by kernel_rfl) (by kernel_rfl)
theorem RV:iu P 38 [66,53] yJ:=i5 (n:=ei "delete_others") (q:=ei "delete_others") (E:=(eC (ei "emacs.splits") 572)) (m:=ez) (s:=327) (u:=(eS 37)) Jm rfl (by kernel_rfl) (by exact ij λa b=>.a (by kernel_rfl)) (by kernel_rfl) Vq Tr (by kernel_rfl) (by kernel_rfl)
theorem RZ:iu P 39 [98,99] su:=i5 (n:=ei "_law_draw") (q:=ei "_law_draw") (E:=(eC (ei "law_ok0064_01") 676)) (m:=ez) (s:=334) (u:=(eS 39)) Jq rfl (by kernel_rfl) (by exact ij λa b=>.a (by kernel_rfl)) (by kernel_rfl) Vw Tw (by kernel_rfl) (by kernel_rfl)
theorem R2:iu P 40 [66,53,56] sy:=rR (W:=[66,56]) (n:=ei "_law_least") (q:=ei "_law_least") (E:=(eC (ei "law_ok0064_01") 676)) (dV:=ez) (s:=339) (u:=(eS 40)) Jt rfl (by kernel_rfl) (by exact ij λa b d=>.a (by kernel_rfl)) (by kernel_rfl) (λk=>by kernel_rfl) Vz Tz (by kernel_rfl) (by kernel_rfl)
theorem R1:iu P 41 [66,53,56,100] vI:=rR (W:=[66,56,100,57]) (n:=ei "_law_is_shared") (q:=ei "_law_is_shared") (E:=(eC (ei "law_ok0064_01") 676)) (dV:=ez) (s:=344) (u:=(eS 41)) Js rfl (by kernel_rfl) (by exact ij λa b d e=>.a (by kernel_rfl)) (by kernel_rfl) (λk=>by kernel_rfl) Vy Ty (by kernel_rfl) (by kernel_rfl)
theorem R0:iu P 43 [98,66,103] ua:=rR (W:=[66]) (n:=ei "_law_is_gone") (q:=ei "_law_is_gone") (E:=(eC (ei "law_ok0064_01") 676)) (dV:=ez) (s:=356) (u:=(eS 43)) Jr rfl (by kernel_rfl) (by exact ij λa b d=>.a (by kernel_rfl)) (by kernel_rfl) (λk=>by kernel_rfl) Vx Tx (by kernel_rfl) (by kernel_rfl)
theorem Sj:iu P 31 [66,53,57,56] ub:=i5 (n:=ei "split_parts") (q:=ei "split_parts") (E:=(eC (ei "emacs.splits") 572)) (m:=ez) (s:=278) (u:=(eS 30)) z6 rfl (by kernel_rfl) (by exact ij λa b d e=>.a (by kernel_rfl)) (by kernel_rfl) J4 IA (by kernel_rfl) (by kernel_rfl)
theorem Si:iu P 33 [66,53,57,56,93] vQ:=i5 (n:=ei "split") (q:=ei "split") (E:=(eC (ei "emacs.splits") 572)) (m:=ez) (s:=292) (u:=(eS 32)) zZ rfl (by kernel_rfl) (by exact ij λa b d e f=>.a (by kernel_rfl)) (by kernel_rfl) J3 Iz (by kernel_rfl) (by kernel_rfl)
theorem Sc:iu P 26 [66,59,60] vM:=i5 (n:=ei "resize_frame") (q:=ei "resize_frame") (E:=(eC (ei "emacs.sizes") 490)) (m:=ez) (s:=245) (u:=(eS 23)) zY rfl (by kernel_rfl) (by exact ij λa b d=>.a (by kernel_rfl)) (by kernel_rfl) J2 Iy (by kernel_rfl) (by kernel_rfl)
def yq(P:iE):List (Nat×List Nat×Ss)->Prop
 |[]=>True
 |p::r=>iu P p.1 p.2.1 p.2.2∧yq P r
theorem OI:yq P UO:=⟨Sj,Si,Sc,RR,RO,RN,RQ,RP,RM,RI,RL,RK,RJ,RS,Sg,R7,R5,Sl,Sb,RX,R3,Sf,Se,Sd,Sm,Sk,Sa,RU,RT,RY,R8,R9,RW,RV,RZ,R2,R1,R0,trivial⟩
theorem yq.a:∀{l:List (Nat×List Nat×Ss)} {g:Nat} {B:List Nat} {b:Ss},yq P l->l.lookup g=d9 (B,b)->iu P g B b:=by
 intro l
 induction l with
 |nil=>intro g B b U e;exact nS e
 |cons p l D=>
  obtain⟨r,R,c⟩ :=p;intro g B b q e;refine fe q λh S=>?_;rw[iw] at e;cases q:g==r with
  |true=>rw[q] at e;rw[beq_iff_eq.mp q];cases e;exact h
  |false=>rw[q] at e;exact D S e
def Fn(P:iE):Prop:=∀{c:Cx},c.e=KK P->c.d->Lv c 4->c.b.handled=eh->∀{w t v D},yZ w t=d9 (v,D)->∀{a V H A Q},Wd H a t->jd H a t w A->nG a t H v D Q->lL c (ec 119) A V H Q
theorem qf{j:Bool}(R:Fn P):∀k,vf ⟨gF j k,j⟩ P k:=by
 intro r
 induction r with
 |zero=>
  exactλU U U U U U U U U U h=>nomatch h
 |succ k q=>
  refineλc F O m i g w t v D h a E u z Q n p N G=>?_;have h:(if g=1028 then(if j∧3≤k then yZ w t else eh) else(BU g).bind λ(B,b)=>if B.length=w.length then
   (b.c ⟨gF j k,j⟩ t (fh B (w.map eD.e))).bind λ(f,t,_)=>match f with
    |.b v=>d9 (v,t)
    |.a=>d9 (.b .e,t)
   else eh)=d9 (v,D):=h
  by_cases A:g=1028
  ·subst A
   rw[if_pos rfl] at h
   (refine gm h λL o=>?_;refine fe L λy x=>?_)
   exact R F O (m.g (by lia)) (i y) o n N G
  ·rw[if_neg A] at h
   refine hV h λB b K l=>?_;refine gm l λC e=>?_
   (refine fy e λT I s=>?_;obtain⟨f,S,H⟩ :=T)
   have Z:v=f.e∧S=D:=by
    cases f with
    |a=>(clear h G l e I;clear h;cases s);exact⟨rfl,rfl⟩
    |b v=>(clear I;cases s);exact⟨rfl,rfl⟩
   (refine fe Z λd M=>?_;(clear h l e s Z;clear h;obtain rfl:=d);obtain rfl:=M)
   exact OI.a K (q) F O m i I C.symm n p N G
end
section
variable{c:Cx}{V:eJ}{H M:AH}{P:iE}{d:ir}{j:Bool}{Y:gZ}{B:AH}{F:Fr}{a N:Ad}{t D I:eB}
theorem JV{x y:et}{o p:AO}(h:x≠y):eQ (eQ H x o) y p=eQ (eQ H y p) x o:=by
 funext z
 unfold eQ;by_cases K:z=y
 ·by_cases I:z=x
  ·exact absurd (I.symm.trans K) h
  ·rw[if_pos K,if_neg I,if_pos K]
 ·by_cases I:z=x
  ·rw[if_neg K,if_pos I,if_pos I]
  ·rw[if_neg K,if_neg I,if_neg I,if_neg K]
theorem T3{x:String}{v:ed}:∀{b:List (String×ed)},x∉b.map (·.1)->kW x v b=b++[(x,v)]:=by
 intro G
 induction G with
 |nil=>
  intro U;exact rfl
 |cons p r D=>
  intro h;rw[zP];rw[if_neg λe=>h (by rw[←e];exact gL _),D λq=>h (gu _ q)];rfl
abbrev fz(A:List ed):List (String×ed):=(lN.take A.length).zip A
theorem y6{A:List ed}{u:ed}(h:A.length<16):kW (gf A.length) u (fz A)=fz (A++[u])∧(fz A).length<1000:=by
 have C:A.length<lN.length:=AI h (by decide);have K:lN.take (A.length+1)=lN.take A.length++[gf A.length]:=by
  rw[List.take_add_one,jF C];unfold gf;rw[lD,jF C];rfl
 have I:(lN.take A.length).length=A.length:=by rw[xw];lia
 constructor
 ·rw(occs:=eO) [T3]
  ·unfold fz
   rw[il,Wp,K,List.zip_append I];rfl
  ·intro q
   unfold fz at q;rw[DP (xB I)] at q;have E:(lN.take (A.length+1)).Nodup:=(qh.1).sublist (List.take_sublist_take_left (by lia));rw[K,qC] at E;exact E.2.2 _ q _ (gL _) rfl
 ·unfold fz;rw[kZ,I];lia
theorem mU{f:Nat}{e:eW}{s:fG}{o:List fG}{A:List ed}{x j:et}{u:ed}{Q:gr->eJ->AH->Prop}(F:c.e=KK P)(O:c.d)(z:c.a.kindOf (eE (nm 50))=d9 ey)(a:V (nm 50)=d9 (ec x))(Z:H x=d9 (.h 93 j))(G:x≠j)(y:f=A.length)(C:f<16)(W:e.O=eh)
  (N:∀Q,Q u (eQ H j (.b (fz A)))->TE c (e.u (sE s)) V (eQ H j (.b (fz A))) Q) (h:TS c o V (eQ H j (.b (fz (A++[u])))) Q):TS c ((js.d (.a 50) f e).v s::o) V (eQ H j (.b (fz A))) Q:=by
 refine kI (pW (N _ (lr O z a (eu x rfl (pX O ((fw _ _ G).trans Z) (gA _ _ _) (uc F C).2 (y6 (u:=u) (y▸C)).2 ?_)) (ju 50))) (nY W _ _ _ _));rw(occs:=eO) [Ag,y,(y6 (y▸C)).1];exact h
theorem Ci{f:Nat}{s:fG}{o:List fG}{A:List ed}{x j:et}{Q:gr->eJ->AH->Prop}(F:c.e=KK P)(O:c.d)(z:c.a.kindOf (eE (nm 50))=d9 ey)(a:V (nm 50)=d9 (ec x))(Z:H x=d9 (.h 93 j))(G:x≠j)(y:f=A.length)(C:f<16)
  (h:∀b,H b=eh->b≠j->b≠x->TS c o V (eQ (eQ H b (.a [])) j (.b (fz (A++[ec b])))) Q):TS c ((js.d (.a 50) f (.z .b)).v s::o) V (eQ H j (.b (fz A))) Q:=by
 refine kI (pW (Bi (kA ⟨pJ _,λb Y=>?_⟩)) rfl);have K:b≠j:=λe=>by rw[e,gA] at Y;exact iX Y
 rw[fw _ _ K] at Y;have I:b≠x:=λe=>by rw[e,Z] at Y;exact iX Y
 refine lr O z a (eu x rfl (pX O (d:=j) ?_ ?_ (uc F C).2 (y6 (u:=ez) (y▸C)).2 ?_)) (ju 50)
 ·rw[fw _ _ (gM I),fw _ _ G];exact Z
 ·rw[fw _ _ (gM K)];exact gA _ _ _
 ·rw(occs:=eO) [JV (gM K),Ag,y,(y6 (y▸C)).1]
  exact h b Y K I
theorem mC{i:Int}{y:eP}(Q:ed->AH->Prop)(h:Q (vi i) H):TE c ((eW.d i).u y) V H Q:=ym h
theorem O5{i:Bool}{y:eP}(Q:ed->AH->Prop)(h:Q (fF i) H):TE c ((eW.I i).u y) V H Q:=E3 h
theorem tf{i:Nat}{y:eP}{u:ed}(O:c.d)(z:c.a.kindOf (eE (nm i))=d9 ey)(R:V (nm i)=d9 u)(Q:ed->AH->Prop)(h:Q u H):TE c ((eW.a i).u y) V H Q:=lr O z R h (ju i)
set_option maxHeartbeats 4000000 in
theorem Qh{k:Nat}(F:c.e=KK P)(O:c.d)(l:Lv c (k+1)){x j:et}{n s p:Int}{Q:ed->AH->Prop}(Z:H x=d9 (.h 93 j))(G:x≠j)
  (h:∀m q X,H m=eh->eQ H m (.a []) q=eh->eQ (eQ H m (.a [])) q (.a []) X=eh->m≠j->q≠j->X≠j->
   Q ez (eQ (eQ (eQ (eQ H m (.a [])) q (.a [])) X (.a [])) j (.b (fz [vi n,vi s,vi p,ec m,vi 0,vi 0,vi 0,vi 0,vi 0,vi 1,vi 1,vi 0,fF em,vi 0,ec q,ec X])))):
  lL c (ec 55) [ec x,vi n,vi s,vi p] V (eQ H j (.b (fz []))) Q:=by
 refine Be (n:=Internal.ei "__init__") (q:=Internal.ei "Window.__init__") (E:=(eC (Internal.ei "emacs.windows") 227)) (m:=ez) (s:=54) (u:=fW 9 0) F O l ["self","number","sort","parent"] rfl (by kernel_rfl) (by exact ij λa A d e=>.a (by kernel_rfl)) (by kernel_rfl) rfl λg L r=>?_;generalize f:iM c g L (kR (Internal.ei "Window.__init__") (fD (fW 9 0)) L 55 (ec 54) [])=b at r;have C:b.e=KK P:=by rw[←f];exact F
 have I:∀i,(zX).lookup i=d9 ey->b.a.kindOf (eE (nm i))=d9 ey:=λi R=>by
  rw[←f];show(fD (fW 9 0)).names.lookup _=_;rw[Tg];exact(mW (A:=zX) (iC.mp (show(zX.all λp=>eU (p.1<113))=eb from by decide) · · |> of_decide_eq_true)).trans R
 have W:=I 50 rfl;rw[←Vh];refine mU C r W rfl Z G rfl (by decide) rfl (tf r (I 53 rfl) rfl) ?_;refine mU C r W rfl Z G rfl (by decide) rfl (tf r (I 54 rfl) rfl) ?_;refine mU C r W rfl Z G rfl (by decide) rfl (tf r (I 55 rfl) rfl) ?_;refine Ci C r W rfl Z G rfl (by decide) λm u w z=>?_;have J:=(fw H (.a []) z.symm).trans Z;refine mU C r W rfl J G rfl (by decide) rfl mC ?_;refine mU C r W rfl J G rfl (by decide) rfl mC ?_;refine mU C r W rfl J G rfl (by decide) rfl mC ?_;refine mU C r W rfl J G rfl (by decide) rfl mC ?_;refine mU C r W rfl J G rfl (by decide) rfl mC ?_;refine mU C r W rfl J G rfl (by decide) rfl mC ?_;refine mU C r W rfl J G rfl (by decide) rfl mC ?_;refine mU C r W rfl J G rfl (by decide) rfl mC ?_;refine mU C r W rfl J G rfl (by decide) rfl O5 ?_;refine mU C r W rfl J G rfl (by decide) rfl mC ?_;refine Ci C r W rfl J G rfl (by decide) λq v y t=>?_;have o:=(fw (eQ H m (.a [])) (.a []) t.symm).trans J;refine Ci C r W rfl o G rfl (by decide) λX Y K B=>?_;exact qS (h m q X u v Y w y K)
noncomputable def je(a:Ad)(n:Int)(x j D V X:et):Ad:={ a with b:=λm=>if m=n then x else a.b m,g:=λm=>if m=n then j else a.g m,a:=λm=>if m=n then D else a.a m,d:=λm=>if m=n then V else a.d m,h:=λm=>if m=n then X else a.h m }
def qi(t:eB)(s p:Int):eB:={ t.f (t.c+1) ⟨s,p,[],0,0,0,0,0,1,1,0,0⟩ with c:=t.c+1,b:=t.b++[t.c+1] }
structure By(H:AH)(a:Ad)(t:eB)(s p:Int)(x dx l1 l2 l3:et)(H':AH):Prop where
 d:H' a.i=d9 (.b (jv a { t with c:=t.c+1 }))
 i:H' a.c=d9 (.e ((t.b.map λn=>(n,ec (a.b n)))++[(t.c+1,ec x)]))
 l:H' x=d9 (.h 93 dx)
 u:H' dx=d9 (.b (fz [vi (t.c+1),vi s,vi p,ec l1,vi 0,vi 0,vi 0,vi 0,vi 0,vi 1,vi 1,vi 0,fF em,vi 0,ec l2,ec l3]))
 k:H' l1=d9 (.a [])
 r:H' l2=d9 (.a [])
 v:H' l3=d9 (.a [])
 b:∀y o,H y=d9 o->y≠a.i->y≠a.c->H' y=d9 o
 e:H x=eh
 h:H dx=eh
 f:H l1=eh
 g:H l2=eh
 c:H l3=eh
 j:l1≠l2
 m:l1≠l3
theorem By.q{s p:Int}{x j D V X:et}(N:By H a t s p x j D V X M)(w:Wd H a t)(J:5≤t.g):fk a t H (je a (t.c+1) x j D V X) (qi t s p) M:=by
 have R:=w.b J;have G:∀{m:Int},t.j m->m≠t.c+1:=λ{m} h e=>by have:=h.2;lia
 have S:∀{m:Int},(qi t s p).j m->t.j m∨m=t.c+1:=λ{m} h=>by
  by_cases e:m=t.c+1
  ·exact eI e
  ·have E:1≤m:=h.1
   have I:m≤t.c+1:=h.2;exact eH ⟨E,by lia⟩
 have up:∀{m:Int},t.j m->(qi t s p).j m:=λ{m} h=>⟨h.1,by show m≤t.c+1;have:=h.2;lia⟩;have Q:∀{y o},H y=d9 o->y≠x∧y≠j∧y≠D∧y≠V∧y≠X:=λ{y o} h=>
  have q:∀{z:et},H z=eh->y≠z:=λ{z} f e=>by rw[e,f] at h;exact nS h
  ⟨q N.e,q N.h,q N.f,q N.g,q N.c⟩
 have k:∀{y o},H y=d9 o->(∀q,o≠.b q∨y≠a.i)->(∀q,o≠.e q)->M y=d9 o:=λ{y o} h E I=>N.b y o h (λe=>(E (jv a t)).elim (λq=>q (by rw[e,R.d] at h;exact(eX h).symm)) λq=>q e) (λe=>I _ (by rw[e,R.c] at h;exact(eX h).symm));have i:∀{m},t.j m->yD M (je a (t.c+1) x j D V X) m ((qi t s p).a m):=λ{m} Y=>by
  have q:=R.b m Y;have e:=G Y;have O:(qi t s p).a m=t.a m:=yi e;have a1:(je a (t.c+1) x j D V X).b m=a.b m:=if_neg e;have v:(je a (t.c+1) x j D V X).g m=a.g m:=if_neg e;have F:(je a (t.c+1) x j D V X).a m=a.a m:=if_neg e;have r:(je a (t.c+1) x j D V X).d m=a.d m:=if_neg e;have l:(je a (t.c+1) x j D V X).h m=a.h m:=if_neg e;have a6:i0 (je a (t.c+1) x j D V X) m (t.a m)=i0 a m (t.a m):=by unfold i0 m8;rw[F,r,l]
  rw[O];refine⟨by rw[a1,v];exact k q.d (λU=>eH λe=>by cases e) (λU e=>by cases e),?_,by rw[F];exact k q.c (λU=>eH λe=>by cases e) (λU e=>by cases e),by rw[r];exact k q.f (λU=>eH λe=>by cases e) (λU e=>by cases e),by rw[l];exact k q.e (λU=>eH λe=>by cases e) (λU e=>by cases e)⟩;rw[v,a6];exact k q.b (λU=>eI λe=>by have:=q.b;rw[e,R.d] at this;exact Ah (eX this).symm) (λU e=>by cases e)
 have d:(je a (t.c+1) x j D V X).b (t.c+1)=x:=if_pos rfl;have c:(je a (t.c+1) x j D V X).g (t.c+1)=j:=if_pos rfl;have K:(je a (t.c+1) x j D V X).a (t.c+1)=D:=if_pos rfl;have C:(je a (t.c+1) x j D V X).d (t.c+1)=V:=if_pos rfl;have Z:(je a (t.c+1) x j D V X).h (t.c+1)=X:=if_pos rfl;have u:In M (je a (t.c+1) x j D V X) (qi t s p):=by
  refine⟨k R.e (λU=>eH λe=>by cases e) (λU e=>by cases e),N.d,?_,R.h,?_,λn W=>?_,λm Y=>?_,λn m W Y=>?_,λn W=>?_⟩
  ·rw[show(je a (t.c+1) x j D V X).c=a.c from rfl,N.i]
   show _=d9 (AO.e ((t.b++[t.c+1]).map _));rw[lb]
   congr 3
   ·exact kf λn W=>by rw[show(je a (t.c+1) x j D V X).b n=a.b n from if_neg (G (R.f n W))]
   ·show[(t.c+1,ec x)]=[(t.c+1,ec ((je a (t.c+1) x j D V X).b (t.c+1)))]
    rw[d]
  ·show(t.b++[t.c+1]).Nodup∧0≤t.c+1
   rw(occs:=eO) [qC];refine⟨⟨R.g.1,by simp,λn W m Y e=>G (R.f n W) (e.trans (gR.mp Y))⟩,?_⟩;have:=R.g.2;lia
  ·rcases lc.mp (show n∈t.b++[t.c+1] from W) with h|h
   ·exact up (R.f n h)
   ·rw[gR.mp h]
    exact⟨by have:=R.g.2;lia,ja _⟩
  ·rcases S Y with h|rfl
   ·exact i h
   ·refine⟨by rw[d,c];exact N.l,?_,?_,by rw[C];exact N.r,by rw[Z];exact N.v⟩
    ·rw[c,N.u,show(qi t s p).a (t.c+1)=_ from va]
     unfold i0 m8;rw[K,C,Z];rfl
    ·rw[K,N.k,show(qi t s p).a (t.c+1)=_ from va];rfl
  ·have b:∀{m},t.j m->(je a (t.c+1) x j D V X).a m=a.a m:=λ{m} h=>if_neg (G h)
   have A:∀{m},t.j m->(je a (t.c+1) x j D V X).d m=a.d m:=λ{m} h=>if_neg (G h);have B:∀{m},t.j m->(je a (t.c+1) x j D V X).h m=a.h m:=λ{m} h=>if_neg (G h);rcases S W with h|rfl<;>rcases S Y with g|rfl
   ·rw[b h,b g,A g,B g];exact R.j n m h g
   ·rw[b h,K,C,Z]
    have q:=Q (R.b n h).c;exact⟨λU=>q.2.2.1,q.2.2.2.1,q.2.2.2.2⟩
   ·rw[b g,A g,B g,K]
    exact⟨λU=>(Q (R.b m g).c).2.2.1.symm,(Q (R.b m g).f).2.2.1.symm,(Q (R.b m g).e).2.2.1.symm⟩
   ·rw[K,C,Z]
    exact⟨λq=>absurd rfl q,N.j,N.m⟩
  ·rcases S W with h|rfl
   ·rw[show(je a (t.c+1) x j D V X).a n=a.a n from if_neg (G h),show(je a (t.c+1) x j D V X).d n=a.d n from if_neg (G h),show(je a (t.c+1) x j D V X).h n=a.h n from if_neg (G h)]
    exact R.i n h
   ·rw[K,C,Z]
    have q:=Q w.c;exact⟨q.2.2.1.symm,(Q w.d).2.2.1.symm,q.2.2.2.1.symm,q.2.2.2.2.symm⟩
 have L:∀y,jB (je a (t.c+1) x j D V X) (qi t s p) y->jB a t y∨H y=none:=by
  rintro y (h|⟨_,h|h|⟨m,Y,h⟩⟩)
  ·exact eH (eH h)
  ·exact eH (eI ⟨J,eH h⟩)
  ·exact eH (eI ⟨J,eI (eH h)⟩)
  ·rcases S Y with g|rfl
   ·rw[show(je a (t.c+1) x j D V X).g m=a.g m from if_neg (G g),show(je a (t.c+1) x j D V X).a m=a.a m from if_neg (G g)] at h
    exact eH (eI ⟨J,eI (eI (eu m g h))⟩)
   ·rw[c,K] at h
    exact eI (h.elim (λe=>e▸N.h) λe=>e▸N.f)
 refine⟨⟨k w.c (λU=>eH λe=>by cases e) (λU e=>by cases e),k w.d (λU=>eH λe=>by cases e) (λU e=>by cases e),w.e,λU=>u⟩,λy o h hf=>N.b y o h (λe=>hf (eI ⟨J,eH e⟩)) λe=>hf (eI ⟨J,eI (eH e)⟩),λy o h=>?_,L,?_,rfl,rfl,rfl,λU=>⟨J,rfl,rfl,by show t.c≤t.c+1;lia,λn W=>if_neg (G W),ig _,λU n W=>if_neg (G W)⟩⟩
 ·by_cases O:y=a.i
  ·exact⟨_,O▸N.d⟩
  ·by_cases P:y=a.c
   ·exact⟨_,P▸N.i⟩
   ·exact⟨o,N.b y o h O P⟩
 ·rintro y (h|h|⟨_,h|⟨m,Y,h⟩⟩)
  ·exact(L y h).imp eH id
  ·exact eH (eI (eH h))
  ·exact eH (eI (eI ⟨J,eH h⟩))
  ·rcases S Y with g|rfl
   ·rw[show(je a (t.c+1) x j D V X).b m=a.b m from if_neg (G g),show(je a (t.c+1) x j D V X).d m=a.d m from if_neg (G g),show(je a (t.c+1) x j D V X).h m=a.h m from if_neg (G g)] at h
    exact eH (eI (eI ⟨J,eI (eu m g h)⟩))
   ·rw[d,C,Z] at h
    exact eI (h.elim (λe=>e▸N.e) λh=>h.elim (λe=>e▸N.g) λe=>e▸N.c)
end
section
variable{c:Cx}{V:eJ}{H M:AH}{P:iE}{j:Bool}{Y:gZ}{B:AH}{F:Fr}{a N:Ad}{t D I:eB}
theorem Hn(J:5≤t.g):(jv a t).lookup (gf 17)=d9 (vi t.c):=An qh.2 (Ca (by decide) (by decide)) (by
 rw[Az (by lia)];rfl)
theorem QD(J:5≤t.g):kW (gf 17) (vi (t.c+1)) (jv a t)=jv a { t with c:=t.c+1 }:=by
 unfold jv;rw[Ap (x:=gf 17) (f:=1) qh.2 (Ca (f:=17) (by decide) (by decide)) (by rw[xw];show 1<min t.g 7;lia),←List.take_set];rfl
theorem Lv.h{k:Nat}(l:Lv c (k+1)){C:et}{i:List ed}:Lv (Internal.cA c C i) k:=by
 have K:W1 (uN "type.__call__" ⟨ec C::i,[]⟩)=1:=by kernel_rfl
 have I:KG (uN "type.__call__" ⟨ec C::i,[]⟩)≤10:=by
  have:KG (uN "type.__call__" ⟨ec C::i,[]⟩)=1:=by kernel_rfl
  lia
 refine⟨?_,?_⟩
 ·show c.b.depth+W1 (uN "type.__call__" ⟨ec C::i,[]⟩)+k≤900
  have:=l.b;lia
 ·show c.b.units+KG (uN "type.__call__" ⟨ec C::i,[]⟩)+10*k+1000≤9900
  have:=l.a;lia
theorem xh:makesIn (KK P) 93=eb∧rJ (KK P) (ec 93) "__init__"=d9 (d9 (ec 55))∧typeIn (KK P) (ec 55)=d9 (eK "function")∧tz (KK P) (ec 93)=eb∧jg (KK P) ky (eE (nm 46))=d9 (d9 (ec 93)):=⟨by kernel_rfl,by kernel_rfl,by kernel_rfl,by kernel_rfl,by kernel_rfl⟩
theorem qj:Fn P:=by
 intro c hK au lv g av t v D ae a V H us Q ak N hq;refine gm ae λhl af=>?_;refine ot hl.1 λv0 aL d l=>?_;refine ot l λY r1 M l=>?_;refine ot l λv2 r2 e5 l=>?_;have d:av=[v0,Y,v2]:=by rw[d,M,e5,oK.mp l]
 have az:=hl.2;clear hl l M e5;clear ae;subst d;refine gm af λw F=>?_;refine fy (o:=Y.l) F λs O F=>?_;refine ie (o:=v2.l) F λp m F=>?_;rw[Ae w,jS O,jS m] at N;clear w O m;clear af;cases F
 (refine fT N λu1 r1 O g2 g5=>?_;refine fT g5 λu2 r2 d I K=>?_;refine fT K λu3 r3 M h3 h4=>?_;(clear N;obtain rfl:=O);refine fe g2 λe7 J=>?_;(clear g2;obtain rfl:=e7);(clear g5;obtain rfl:=d);(clear K;obtain rfl:=M))
 cases(show r3=[] from h4);rw[show u2=vi s from I,show u3=vi p from h3];have R:=ak.b J;refine EY (d:=⟨λU U U=>eh,eb⟩) (g:=1028) (B:=[50,54,55]) (w:=[.b .c,eD.a s,eD.a p]) (n:=Internal.ei "fresh") (q:=Internal.ei "WindowTree.fresh") (E:=(eC (Internal.ei "emacs.windows") 227)) (m:=ez) (s:=118) (u:=fW 10 1) I8 (k:=3)
  (λU U U U U U U U U U F=>nomatch F) hK au lv (λU=>g) rfl (by kernel_rfl) (by exact ij λa aI aJ=>.a (by kernel_rfl)) (by kernel_rfl) Ta (by kernel_rfl) rfl (.a g) (fS _ _ rfl ⟨rfl,J⟩ (fS _ _ rfl rfl (fS _ _ rfl rfl rfl))) λb S fr aF U=>?_
 have r:=S.a;have aC:=S.e 50 _ rfl;have aD:=S.e 54 _ rfl;have aE:=S.e 55 _ rfl;have h:=S.e 65 _ rfl;have aB:=S.e 46 _ rfl;have A:∀{V:eJ} {H:AH} {pp:fE} {Q:ed->AH->Prop},V (nm 50)=d9 (ec a.e)->Q (ec a.e) H->TE b (gk (eE (nm 50)) pp) V H Q:=λh1 I=>lr r aC h1 I (ju 50);rw[←Vb]
 --A.last=A.last+1
 refine kI (pW (E2 (qP r (λU U U=>rfl) (A rfl ⟨_,164,_,_,_,rfl,R.e,R.d,(Hn J),((qe S.b (by decide)).1),rfl,(ym (Fd (A rfl (eu _ rfl (pX r R.e R.d (qe S.b (by decide)).2 ?_ ?_)))))⟩))) rfl)
 ·unfold jv;rw[kZ];exact AG (AJ _ _) (by decide)
 rw[QD J];have nt:a.e≠a.i:=oz R.e R.d λe=>by cases e
 have t1:eQ H a.i (.b (jv a { t with c:=t.c+1 })) a.e=d9 (.h 164 a.i):=(fw _ _ nt).trans R.e;have t2:=gA H a.i (.b (jv a { t with c:=t.c+1 }));have ll:∀{t:eB},5≤t.g->(jv a t).lookup (gf 17)=d9 (vi t.c):=Hn
 --aw=aH(A.last,aM,aK)
 refine kI (tM (tQ (f:=ec 93) r rfl (tS (v:=ec 93) S.b r aB xh.2.2.2.2 ⟨rfl,rfl,λaO hu=>gX hu,u9 (S.b▸xh.2.2.2.1),jk (qP r (λU U U=>rfl) (A rfl ⟨_,164,_,_,_,rfl,t1,t2,(ll J),((qe S.b (by decide)).1),rfl,(jk (lr r aD (v:=vi s) rfl (jk (lr r aE (v:=vi p) rfl (kA ?_) (ju 55)) λU=>rfl) (ju 54)) λU=>rfl)⟩)) λU=>rfl⟩ (ju 46))) rfl);refine EU r (S.b▸xh.1) (S.b▸xh.2.1) (S.b▸xh.2.2.1) λx j aG hx ac G=>?_;rw[JV (gM G)];refine Qh (c:=cA b 93 aG) (k:=1) S.b r.l aF.h (gA _ _ _) G λl1 l2 X f1 f2 f3 n1 n2 n3=>⟨rfl,oR r h ?_⟩;have k:∀{H:AH} {y z:et} {o:AO},eQ H y o z=eh->z≠y∧H z=none:=λ{H y z o} F=>by
  by_cases e:z=y
  ·rw[e,gA] at F;exact iX F
  ·rw[fw _ _ e] at F;exact⟨e,F⟩
 refine fe (k f1) λm1 g1=>?_;refine fe (k f2) λm2 g2=>?_;refine fe (k g2) λm3 g2=>?_;refine fe (k f3) λm4 W=>?_;refine fe (k W) λm5 W=>?_;refine fe (k W) λm6 W=>?_;generalize aa:eQ H a.i (.b (jv a { t with c:=t.c+1 }))=Z at*;have i:∀y o,Z y=d9 o->eQ (eQ (eQ (eQ (eQ Z x (.h 93 j)) l1 (.a [])) l2 (.a [])) X (.a [])) j (.b (fz [vi (t.c+1),vi s,vi p,ec l1,vi 0,vi 0,vi 0,vi 0,vi 0,vi 1,vi 1,vi 0,fF em,vi 0,ec l2,ec X])) y=d9 o:=λy o B=>by
  have q:∀{z:et},Z z=eh->y≠z:=λ{z} f e=>by rw[e,f] at B;exact nS B
  rw[fw _ _ (q ac),fw _ _ (q W),fw _ _ (q g2),fw _ _ (q g1),fw _ _ (q hx)];exact B
 have d0:Z a.c=d9 (.e (t.b.map λn=>(n,ec (a.b n)))):=by rw[←aa,fw _ _ (oz R.c R.d λe=>by cases e)];exact R.c
 have o1:eQ (eQ (eQ (eQ (eQ Z x (.h 93 j)) l1 (.a [])) l2 (.a [])) X (.a [])) j (.b (fz [vi (t.c+1),vi s,vi p,ec l1,vi 0,vi 0,vi 0,vi 0,vi 0,vi 1,vi 1,vi 0,fF em,vi 0,ec l2,ec X])) x=d9 (.h 93 j):=by
  rw[fw _ _ G,fw _ _ (gM m6),fw _ _ (gM m3),fw _ _ (gM m1)];exact gA _ _ _
 have o2:eQ (eQ (eQ (eQ (eQ Z x (.h 93 j)) l1 (.a [])) l2 (.a [])) X (.a [])) j (.b (fz [vi (t.c+1),vi s,vi p,ec l1,vi 0,vi 0,vi 0,vi 0,vi 0,vi 1,vi 1,vi 0,fF em,vi 0,ec l2,ec X])) l1=d9 (.a []):=by
  rw[fw _ _ n1,fw _ _ (gM m5),fw _ _ (gM m2)];exact gA _ _ _
 have o3:eQ (eQ (eQ (eQ (eQ Z x (.h 93 j)) l1 (.a [])) l2 (.a [])) X (.a [])) j (.b (fz [vi (t.c+1),vi s,vi p,ec l1,vi 0,vi 0,vi 0,vi 0,vi 0,vi 1,vi 1,vi 0,fF em,vi 0,ec l2,ec X])) l2=d9 (.a []):=by
  rw[fw _ _ n2,fw _ _ (gM m4)];exact gA _ _ _
 have o4:eQ (eQ (eQ (eQ (eQ Z x (.h 93 j)) l1 (.a [])) l2 (.a [])) X (.a [])) j (.b (fz [vi (t.c+1),vi s,vi p,ec l1,vi 0,vi 0,vi 0,vi 0,vi 0,vi 1,vi 1,vi 0,fF em,vi 0,ec l2,ec X])) X=d9 (.a []):=by
  rw[fw _ _ n3];exact gA _ _ _
 have o5:=gA (eQ (eQ (eQ (eQ Z x (.h 93 j)) l1 (.a [])) l2 (.a [])) X (.a [])) j (.b (fz [vi (t.c+1),vi s,vi p,ec l1,vi 0,vi 0,vi 0,vi 0,vi 0,vi 1,vi 1,vi 0,fF em,vi 0,ec l2,ec X]));generalize eQ (eQ (eQ (eQ (eQ Z x (.h 93 j)) l1 (.a [])) l2 (.a [])) X (.a [])) j (.b (fz [vi (t.c+1),vi s,vi p,ec l1,vi 0,vi 0,vi 0,vi 0,vi 0,vi 1,vi 1,vi 0,fF em,vi 0,ec l2,ec X]))=L at*;have ag:ic (iR (pH nm [50,54,55]) [ec a.e,vi s,vi p]) (nm 65) (ec x) (nm 50)=d9 (ec a.e):=rfl;have aj:ic (iR (pH nm [50,54,55]) [ec a.e,vi s,vi p]) (nm 65) (ec x) (nm 65)=d9 (ec x):=wx;generalize ic (iR (pH nm [50,54,55]) [ec a.e,vi s,vi p]) (nm 65) (ec x)=aP at*
 --A.windows[A.last]=aw
 refine kI (EO (lr r h aj (qP (a:="windows") r (λU U U=>rfl) (A ag ⟨_,164,_,_,(ec a.c),rfl,(i _ _ t1),(i _ _ t2),?_,((qe (f:=16) S.b (by decide)).1),rfl,(qP (a:=gf 17) r (λU U U=>rfl) (A ag ⟨_,164,_,_,_,rfl,(i _ _ t1),(i _ _ t2),(ll J),((qe S.b (by decide)).1),rfl,?_⟩))⟩)) (ju 65)) rfl)
 ·exact An (f:=0) qh.2 rfl (by rw[Az (show 0<t.g by lia)];rfl)
 refine IC (i _ _ d0) (by rw[fC];exact az) ?_;have aA:qu (t.b.map λn=>(n,ec (a.b n))) (t.c+1) (ec x)=(t.b.map λn=>(n,ec (a.b n)))++[(t.c+1,ec x)]:=by
  unfold qu xV;rw(occs:=eO) [if_neg];rw(occs:=eO) [Wb,Ay];rintro⟨n,hn,e⟩;have:=(R.f n hn).2;simp at e;lia
 rw[aA];refine kI (yk (lr r h aj ?_ (ju 65)));have C:∀{y:et},Z y=eh->H y=eh∧y≠a.i:=λ{y} F=>by
  rw[←aa] at F;exact(k F).symm
 have E:∀{y:et} {o:AO},L y=d9 o->Z y=eh->eQ L a.c (.e ((t.b.map λn=>(n,ec (a.b n)))++[(t.c+1,ec x)])) y=d9 o:=λ{y o} F u=>by
  rw[fw _ _ λe=>by rw[e,d0] at u;exact iX u];exact F
 have aq:By H a t s p x j l1 l2 X (eQ L a.c (.e ((t.b.map λn=>(n,ec (a.b n)))++[(t.c+1,ec x)]))):=by
  refine⟨?_,gA _ _ _,E o1 hx,E o5 ac,E o2 g1,E o3 g2,E o4 W,λy o B O m=>?_,(C hx).1,(C ac).1,(C g1).1,(C g2).1,(C W).1,gM m2,gM m5⟩
  ·rw[fw _ _ (oz R.d R.c λe=>by cases e)];exact i _ _ t2
  ·rw[fw _ _ m]
   exact i y o (by rw[←aa,fw _ _ O];exact B)
 have st:=aq.q ak J;exact hq _ _ _ st ⟨congrArg ec (if_pos rfl).symm,J,by have:=R.g.2;lia,ja _⟩ nofun
end
section
variable{d:ir}{t E S C:eB}{F K H:Fr}{i j:Nat}{e O m:eW}{v u w:eD}
abbrev dd(Q:Bool)(k:Nat):ir:=⟨gF Q k,Q⟩
noncomputable def gP:Option (Fl×eB×Fr)->Option (eD×eB)
 |some (.b v,t,_)=>d9 (v,t)
 |some (.a,t,_)=>d9 (.b .e,t)
 |none=>eh
theorem iB{Q:Bool}{k g:Nat}{B:List Nat}{b:Ss}{w:List eD}(A:g≠1028)(j:BU g=d9 (B,b))(C:B.length=w.length):
  gF Q (k+1) g w t=gP (b.c (dd Q k) t (fh B (w.map eD.e))):=by
 show(if g=1028 then _ else _)=_;rw[if_neg A,j];show(if B.length=w.length then _ else _)=_;rw[if_pos C];cases b.c (dd Q k) t (fh B (w.map eD.e)) with
 |none=>rfl
 |some r=>obtain⟨f,D,F⟩ :=r;cases f<;>rfl
noncomputable abbrev eF(X:List Int):List eT:=X.map .a
theorem nO:∀X:List Int,l5 (eF X)=d9 X:=by
 intro G
 induction G with
 |nil=>
  exact rfl
 |cons n r D=>
  show(l5 (eF r)).map (n::·)=_;rw[D];rfl
theorem sL{o:Bool}{X:List Int}:jC t (.c o (eF X))=d9 X:=nO X
abbrev Ev(d:ir)(t:eB)(F:Fr)(e:eW)(v:eD)(a:eB):Prop:=e.q d t F=d9 (v,a)
theorem fg(h:F i=d9 v):Ev d t F (.a i) v.e t:=by show(F i).map _=_;rw[h];rfl
theorem gv{f:Nat}(h:Ev d t F e v E)(g:qk E f v=d9 u):Ev d t F (.c e f) u E:=by
 show(e.q d t F).bind _=_;rw[h];show(qk E f v).map _=_;rw[g];rfl
theorem jh(K:Ev d t F O v E)(I:Ev d E F m u S)(g:m7 S v u=d9 w):Ev d t F (.n O m) w S:=by
 show(O.q d t F).bind _=_;rw[K];show(m.q d E F).bind _=_;rw[I];show(m7 S v u).map _=_;rw[g];rfl
theorem A4{z:List eT}(h:Ev d t F e v E)(g:ia E v=d9 z)(C:z.length≤100000):Ev d t F (.H e) (.c eb z.reverse) E:=by
 show(e.q d t F).bind _=_;rw[h];show(ia E v).bind _=_;rw[g];show(if _ then _ else _)=_;rw[if_pos C]
theorem hZ{o:qG}(K:Ev d t F O v E)(I:Ev d E F m u S)(g:ri o v u=d9 w):Ev d t F (.p o O m) w S:=by
 show(O.q d t F).bind _=_;rw[K];show(m.q d E F).bind _=_;rw[I];show(ri o v u).map _=_;rw[g];rfl
theorem gG{o:oN}{b:Bool}(K:Ev d t F O v E)(I:Ev d E F m u S)(g:mS S o v u=d9 b):Ev d t F (.h o O m) (.d b) S:=by
 show(O.q d t F).bind _=_;rw[K];show(m.q d E F).bind _=_;rw[I];show(mS S o v u).map _=_;rw[g];rfl
theorem ya{b:Bool}(h:Ev d t F e (.d b) E):Ev d t F (.M e) (.d (!b)) E:=by
 show(e.q d t F).bind _=_;rw[h];rfl
theorem lT{q x y:eW}(h:Ev d t F q (.d eb) E)(g:Ev d E F x v S):Ev d t F (.C q x y) v S:=by
 show(q.q d t F).bind _=_;rw[h];exact g
theorem lS{q x y:eW}(h:Ev d t F q (.d em) E)(g:Ev d E F y v S):Ev d t F (.C q x y) v S:=by
 show(q.q d t F).bind _=_;rw[h];exact g
abbrev lV(d:ir)(t:eB)(F:Fr)(w:Es)(J:List eD)(a:eB):Prop:=w.g d t F=d9 (J,a)
theorem eV{w:Es}{J:List eD}(h:Ev d t F e v E)(g:lV d E F w J S):lV d t F (.a e w) (v::J) S:=by
 show(e.q d t F).bind _=_;rw[h];show(w.g d E F).map _=_;rw[g];rfl
theorem fJ:lV d t F .b [] t:=rfl
theorem qL{w:Es}{J:List eD}{as:List eT}(h:lV d t F w J E)(g:rd J=d9 as)(C:as.length≤100000):Ev d t F (.z w) (.c eb as) E:=by
 show(w.g d t F).bind _=_;rw[h];show(rd J).bind _=_;rw[g];show(if _ then _ else _)=_;rw[if_pos C]
theorem kg{w:Es}{J:List eD}{as:List eT}(h:lV d t F w J E)(g:rd J=d9 as)(C:as.length≤100000):Ev d t F (.A w) (.b (.f as)) E:=by
 show(w.g d t F).bind _=_;rw[h];show(rd J).bind _=_;rw[g];show(if _ then _ else _)=_;rw[if_pos C]
theorem gI{w:Es}{g:Nat}{J:List eD}(h:lV d t F w J E)(q:d.b g (J.map eD.e) E=d9 (v,S)):Ev d t F (.j g w) v S:=by
 show(w.g d t F).bind _=_;rw[h];exact q
theorem iL{w:Es}{m:Nat}{J:List eD}(h:Ev d t F e u E)(I:lV d E F w J S)(Y:zy m u=eb)(q:d.b (1000+m) (u::J.map eD.e) S=d9 (v,C)):Ev d t F (.v e m w) v C:=by
 show(e.q d t F).bind _=_;rw[h];show(w.g d E F).bind _=_;rw[I];show(if _ then _ else _)=_;rw[if_pos Y];exact q
theorem jM{g:Nat}(h:Ev d t F e v E)(q:oZ d.a E g v=d9 u):Ev d t F (.x g e) u E:=by
 show(e.q d t F).bind _=_;rw[h];show(oZ d.a E g v).map _=_;rw[q];rfl
abbrev Ex(d:ir)(t:eB)(F:Fr)(s:js)(f:Fl)(a:eB)(A:Fr):Prop:=s.F d t F=d9 (f,a,A)
abbrev f7(d:ir)(t:eB)(F:Fr)(s:Ss)(f:Fl)(a:eB)(A:Fr):Prop:=s.c d t F=d9 (f,a,A)
variable{s:js}{r:Ss}{f:Fl}
theorem eG(h:Ex d t F s .a E K)(g:f7 d E K r f S H):f7 d t F (.a s r) f S H:=by
 show(s.F d t F).bind _=_;rw[h];exact g
theorem iq(h:Ex d t F s (.b v) E K):f7 d t F (.a s r) (.b v) E K:=by
 show(s.F d t F).bind _=_;rw[h];rfl
theorem fp:f7 d t F .b .a t F:=rfl
theorem fO(h:Ev d t F e v E)(N:v.t=em):Ex d t F (.a i e) .a E (eL F i v):=by
 show(e.q d t F).map _=_;rw[h];show d9 (Fl.a,E,oG F i v)=_;unfold oG;rw[N];rfl
theorem i7(h:Ev d t F e v E)(N:zK v=eb):Ex d t F (.g e) (.b v) E F:=by
 show(e.q d t F).bind _=_;rw[h];show(if _ then _ else _)=_;rw[if_pos N]
theorem yc(h:F i=d9 v)(N:zK v=eb):Ex d t F (.u i) (.b v) t F:=by
 show(F i).bind _=_;rw[h];show(if _ then _ else _)=_;rw[if_pos N]
theorem j0(h:Ev d t F e v E):Ex d t F (.h e) .a E F:=by show(e.q d t F).map _=_;rw[h];rfl
theorem jj{q:eW}{x y:Ss}(h:Ev d t F q (.d eb) E)(g:f7 d E F x f S H):Ex d t F (.c q x y) f S H:=by
 show(q.q d t F).bind _=_;rw[h];exact g
theorem gU{q:eW}{x y:Ss}(h:Ev d t F q (.d em) E)(g:f7 d E F y f S H):Ex d t F (.c q x y) f S H:=by
 show(q.q d t F).bind _=_;rw[h];exact g
theorem qr{z:List eT}(h:F i=d9 (.c eb z)):jE F i=d9 z:=by unfold jE;rw[h];rfl
theorem qM{z:List eT}{y:eT}(h:Ev d t F e (.b y) E)(Z:F i=d9 (.c eb z))(C:z.length≤100000):Ex d t F (.m i e) .a E (eL F i (.c eb (z++[y]))):=by
 show(e.q d t F).bind _=_;rw[h];show(jE F i).bind _=_;rw[qr Z];show(if _ then _ else _)=_;rw[if_pos C]
theorem A6{z q:List eT}(h:Ev d t F e v E)(Z:F i=d9 (.c eb z))(B:ia E v=d9 q)(C:z.length+q.length≤100000):Ex d t F (.r i e) .a E (eL F i (.c eb (z++q))):=by
 show(e.q d t F).bind _=_;rw[h];show(jE F i).bind _=_;rw[qr Z];show(ia E v).bind _=_;rw[B];show(if _ then _ else _)=_;rw[if_pos C]
theorem JP(h:F i=d9 (.b .c)):uC F i=true:=by unfold uC;rw[h];rfl
theorem A5{k:Nat}{X:List Int}{n:Int}(Z:F k=d9 (.c eb (eF (X++[n]))))(z:F j=d9 (.b .c))(W:n∈t.b)(C:X.length<100000):Ex d t F (.y i j k) .a t (eL (eL F k (.c eb (eF X))) i (.b (.d n))):=by
 have e:eF (X++[n])=eF X++[.a n]:=lb;show(jE F k).bind _=_;rw[qr Z,e];show((eF X++[eT.a n]).getLast?).bind _=_;rw[Wn];show(if _ then _ else _)=_;rw[if_pos ⟨JP z,W,by rw[il,fC];exact C⟩,Kd]
theorem Dl{L:eB->Fr->Option (eD×eB)}{B:eB->Fr->Option (Fl×eB×Fr)}{n:Nat}(h:L t F=d9 (.d em,E)):mi L B (n+1) t F=d9 (.a,E,F):=by
 show(L t F).bind _=_;rw[h];rfl
theorem Dm{L:eB->Fr->Option (eD×eB)}{B:eB->Fr->Option (Fl×eB×Fr)}{n:Nat}(h:L t F=d9 (.d eb,E))(g:B E F=d9 (.a,S,H)):mi L B (n+1) t F=mi L B n S H:=by
 show(L t F).bind _=_;rw[h];show(B E F).bind _=_;rw[g];rfl
end
section
variable{d:ir}{t I E S C D:eB}{F G K H:Fr}{i j:Nat}{e O m X:eW}{v u w:eD}{T L:Int->Nat}{Q:Bool}{J:List eD}{z V B P y:Int->Int}{a b p q r g n c o x s:Int}{R:List Int}
structure Sh(t:eB)(rk:Int->Nat):Prop where
 d:∀n∈t.b,∀c∈(t.a n).a,c∈t.b∧rk c<rk n
noncomputable def sZ(t:eB):Nat->Int->List Int
 |0,n=>[n]
 |k+1,n=>n::(t.a n).a.flatMap (sZ t k)
def PP(t:eB)(a:Int->Nat)(n:Int):List Int:=sZ t (a n+1) n
theorem GJ{L j:Type}{l:List L}{f g:L->List j}(h:∀x∈l,f x=g x):l.flatMap f=l.flatMap g:=by
 induction l with
 |nil=>rfl
 |cons x r D=>rw[kY,kY,h x (gp ..),D λy B=>h y (gC _ B)]
theorem Sy(h:Sh t T):∀k Z n,n∈t.b->T n<k->T n<Z->sZ t k n=sZ t Z n:=by
 intro k
 induction k with
 |zero=>intro Z n U q U;exact absurd q (pI _)
 |succ k D=>
  intro Z n W q O;cases Z with
  |zero=>exact absurd O (pI _)
  |succ Z=>
   show n::_=n::_;rw[GJ λc X=>D Z c (h.d n W c X).1 (by have:=(h.d n W c X).2;lia) (by have:=(h.d n W c X).2;lia)]
theorem lw(h:Sh t T){n:Int}(W:n∈t.b):PP t T n=n::(t.a n).a.flatMap (PP t T):=by
 show n::_=n::_;rw[GJ λc X=>Sy h (T n) (T c+1) c (h.d n W c X).1 (h.d n W c X).2 (uJ _)];rfl
theorem Sh.M(h:Sh t T){P:Int->Prop}(u:∀n∈t.b,(∀c∈(t.a n).a,P c)->P n){n:Int}(W:n∈t.b):P n:=by
 have:∀k n,n∈t.b->T n<k->P n:=by
  intro k
  induction k with
  |zero=>intro n _ q;exact absurd q (pI _)
  |succ k D=>exactλn W q=>u n W λc X=>D c (h.d n W c X).1 (by have:=(h.d n W c X).2;lia)
 exact this (T n+1) n W (uJ _)
theorem lX(h:Sh t T){n:Int}(W:n∈t.b):n∈PP t T n:=by rw[lw h W];exact gp ..
theorem j5(h:Sh t T){n:Int}(W:n∈t.b):∀f∈PP t T n,f∈t.b:=by
 refine h.M (P:=λn=>∀f∈PP t T n,f∈t.b) ?_ W;intro n W D f Y;rw[lw h W] at Y;rcases gy.1 Y with e|Y
 ·rw[e];exact W
 ·refine ry Y λc X Y=>?_
  exact D c X f Y
theorem tX(h:Sh t T){n:Int}(W:n∈t.b):∀f∈PP t T n,f=n∨T f<T n:=by
 refine h.M (P:=λn=>∀f∈PP t T n,f=n∨T f<T n) ?_ W;intro n W D f Y;rw[lw h W] at Y;rcases gy.1 Y with e|Y
 ·exact eH e
 ·refine ry Y λc X Y=>?_
  have:=(h.d n W c X).2;rcases D c X f Y with e|q
  ·exact eI (e▸this)
  ·exact eI (by lia)
theorem BA(h:Sh t T){n m:Int}(W:n∈t.b)(Y:m∈PP t T n):∀c∈PP t T m,c∈PP t T n:=by
 revert m;refine h.M (P:=λn=>∀{m},m∈PP t T n->∀c∈PP t T m,c∈PP t T n) ?_ W;intro n W D m Y c X;rw[lw h W] at Y;rcases gy.1 Y with e|Y
 ·rw[←e];exact X
 ·refine ry Y λb f Y=>?_
  rw[lw h W];exact gC _ (qB.2 (eu b f (D b f Y c X)))
theorem pY(h:Sh t T){n m c:Int}(W:n∈t.b)(Y:m∈PP t T n)(X:c∈(t.a m).a):c∈PP t T n:=by
 have O:=j5 h W m Y;refine BA h W Y c ?_;rw[lw h O];exact gC _ (qB.2 (eu c X (lX h (h.d m O c X).1)))
theorem Fu(t:eB)(T)(n:Int):0<(PP t T n).length:=Nat.zero_lt_succ _
structure Un(t:eB)(rk:Int->Nat):Prop extends e:Sh t rk where
 k:∀n∈t.b,∀c∈(t.a n).a,(t.a c).c=n
 o:∀n∈t.b,(t.a n).a.Nodup
theorem vh(h:Un t T){n m:Int}(W:n∈t.b)(Y:m∈PP t T n):m=n∨((t.a m).c∈PP t T n∧m∈(t.a (t.a m).c).a):=by
 revert m;refine h.e.M (P:=λn=>∀{m},m∈PP t T n->m=n∨((t.a m).c∈PP t T n∧m∈(t.a (t.a m).c).a)) ?_ W;intro n W D m Y;have A:=Y;rw[lw h.e W] at Y;rcases gy.1 Y with e|Y
 ·exact eH e
 ·refine ry Y λc X Y=>?_
  refine eI ?_;rcases D c X Y with e|⟨q,O⟩
  ·rw[e,h.k n W c X];exact⟨lX h.e W,X⟩
  ·refine⟨?_,O⟩
   rw[lw h.e W];exact gC _ (qB.2 (eu c X q))
theorem Ou(h:Un t T){a b m:Int}(M:a∈t.b)(j:b∈t.b)(O:m∈PP t T a)(y:m∈PP t T b):a∈PP t T b∨b∈PP t T a:=by
 --by induction E o I m c R
 have S:∀k m,m∈PP t T a->m∈PP t T b->(T a+T b)-T m<k->a∈PP t T b∨b∈PP t T a:=by
  intro k
  induction k with
  |zero=>intro _ _ _ q;exact absurd q (pI _)
  |succ k D=>
   intro m O y q;rcases vh h M O with e|⟨L,w⟩
   ·exact eH (e▸y)
   rcases vh h j y with e|⟨K,_⟩
   ·exact eI (e▸O)
   have J:=j5 h.e M _ L;have g:=(h.d _ J m w).2;refine D _ L K ?_;have Z:=tX h.e M _ L;have:T (t.a m).c≤T a:=by
    rcases Z with e|Z
    ·rw[e];exact ig _
    ·lia
   lia
 exact S _ m O y (uJ _)
theorem yz(h:Un t T){n a b:Int}(W:n∈t.b)(M:a∈(t.a n).a)(j:b∈(t.a n).a)(Z:a≠b):∀f,f∈PP t T a->f∉PP t T b:=by
 intro f O y;have R:=h.d n W a M;have I:=h.d n W b j;have S:∀a b,a∈(t.a n).a->b∈(t.a n).a->a≠b->a∉PP t T b:=by
  intro a b M j Z Y;have I:=h.d n W b j;rcases vh h I.1 Y with e|⟨q,_⟩
  ·exact Z e
  ·rw[h.k n W a M] at q
   rcases tX h.e I.1 _ q with e|q
   ·rw[e] at I;exact absurd I.2 (lg _)
   ·lia
 rcases Ou h R.1 I.1 O y with q|q
 ·exact S a b M j Z q
 ·exact S b a j M (gM Z) q
theorem Bz(h:Un t T){n:Int}(W:n∈t.b):(PP t T n).Nodup:=by
 refine h.e.M (P:=λn=>(PP t T n).Nodup) ?_ W;intro n W D;rw(occs:=eO) [lw h.e W,kE];refine⟨?_,?_⟩
 ·intro Y
  refine ry Y λc X Y=>?_;have:=(h.d n W c X).2;rcases tX h.e (h.d n W c X).1 _ Y with e|q
  ·rw[e] at this;exact absurd this (lg _)
  ·lia
 ·have E:=h.o n W
  have O:=λa M b j=>yz h (a:=a) (b:=b) W M j;revert E D O;generalize (t.a n).a=l;intro D E O
  induction l with
  |nil=>exact n8
  |cons c r J=>
   rw(occs:=eO) [kY,qC];rw[kE] at E;refine⟨D c (gp ..),J (λx Z=>D x (gC _ Z)) E.2 (λa M b j=>O a (gC _ M) b (gC _ j)),?_⟩;intro a M b j e;refine ry j λx Z j=>?_;exact O c (gp ..) x (gC _ Z) (λe=>E.1 (e▸Z)) a M (e▸j)
theorem CL{l m:List Int}(C:l.Nodup)(h:∀x∈l,x∈m):l.length≤m.length:=by
 induction l generalizing m with
 |nil=>exact pJ _
 |cons a r D=>
  rw[kE] at C;have M:=h a (gp ..);have:=D (m:=m.erase a) C.2 λx Z=>by
   refine(List.mem_erase_of_ne ?_).2 (h x (gC _ Z));intro e;exact C.1 (e▸Z)
  rw[List.length_erase_of_mem M] at this;have:0<m.length:=DM M;show r.length+1≤_;lia
theorem oU(h:Un t T){n:Int}(W:n∈t.b):(PP t T n).length≤t.b.length:=CL (Bz h W) (j5 h.e W)
theorem CH{o:Bool}{X:List Int}:mS t gd (.c o (eF X)) (.c eb [])=d9 (!eU (X=[])):=by
 show(yT t (.c o (eF X)) (.c eb [])).map _=_;show(((jC t (.c o (eF X))).bind λa=>(jC t (.c eb [])).map λb=>eU (a=b))<|>_).map _=_;rw[sL];rfl
noncomputable abbrev tW:eW:=.h gd (.a 67) (.z .b)
theorem I7{X:List Int}(h:F 67=d9 (.c eb (eF X))):Ev d t F tW (.d (!eU (X=[]))) t:=
 gG (fg h) rfl CH
theorem oJ{a b:List Int}:eF a++eF b=eF (a++b):=lb.symm
theorem gB{a:List Int}:(eF a).length=a.length:=fC ..
theorem Dk{a:List Int}:(eF a).reverse=eF a.reverse:=nq.symm
theorem jK{n:Int}:ia t (.f n t.h)=d9 (eF (t.a n).a):=if_pos rfl
structure FW(F:Fr)(dn st:List Int):Prop where
 a:F 66=d9 (.b .c)
 c:F 65=d9 (.c eb (eF dn))
 b:F 67=d9 (.c eb (eF st))
theorem UK{X:List Int}{n:Int}(h:F 67=d9 (.c eb (eF (X++[n])))):Ev d t F tW (.d eb) t:=by
 have:=I7 (d:=d) (t:=t) h;rwa [decide_eq_false (by intro e;exact absurd (congrArg qz e) (by rw[il];exact Kz _))] at this
theorem lx(h:Un t T){n:Int}(W:n∈t.b):((t.a n).a).length≤t.b.length:=CL (h.o n W) λc X=>(h.d n W c X).1
noncomputable abbrev FP:Ss:=.a (.y 68 66 67) (.a (.m 65 (.c (.a 68) 0)) (.a (.r 67 (.H (.c (.a 68) 3))) .b))
theorem GF{n:Int}(h:F i=d9 (.b (.d n)))(C:((t.a n).a).length≤100000):Ev d t F (.H (.c (.a i) 3)) (.c eb (eF (t.a n).a.reverse)) t:=
 Dk▸A4 (gv (fg h) rfl) jK (gB.symm▸C)
theorem U7{V u:List Int}{n:Int}(W:n∈t.b)(f:FW F V (u++[n]))(K:V.length≤100000)(I:u.length+(t.a n).a.length<100000):
  ∃A,FW A (V++[n]) (u++(t.a n).a.reverse)∧FP.c d t F=d9 (.a,t,A):=by
 refine(eu _ ?_ (eG (A5 f.b f.a W (by lia)) (eG (qM (z:=eF V) rfl f.c (gB.symm▸K)) (eG
  (A6 (z:=eF u) (q:=eF (t.a n).a.reverse) (GF rfl (by lia)) rfl rfl (by rw[gB,gB,n6];lia)) fp))))
 exact⟨f.a,congrArg d9 (congrArg _ (oJ (b:=[n]))),congrArg d9 (congrArg _ oJ)⟩
noncomputable abbrev FK:Ss:=.a (.y 68 66 67) (.a (.c (.h fZ (.c (.a 68) 1) (.w 10)) (.a (.m 65 (.c (.a 68) 0)) .b) (.a (.r 67 (.H (.c (.a 68) 3))) .b)) .b)
theorem mq{n:Int}(h:F i=d9 (.b (.d n))):Ev d t F (.h fZ (.c (.a i) 1) (.w 10)) (.d (eU ((t.a n).b=0))) t:=
 gG (gv (fg h) rfl) rfl rfl
noncomputable def nP(t:eB)(n:Int):Bool:=eU ((t.a n).b=0)
theorem Q2{V u:List Int}{n:Int}(W:n∈t.b)(f:FW F V (u++[n]))(K:V.length≤100000)(I:u.length+(t.a n).a.length<100000)(z:(t.a n).b=0->(t.a n).a=[]):
  ∃A,FW A (V++[n].filter (nP t)) (u++(t.a n).a.reverse)∧FK.c d t F=d9 (.a,t,A):=by
 by_cases q:(t.a n).b=0
 ·refine(eu _ ?_ (eG (A5 f.b f.a W (by lia)) (eG (jj ((decide_eq_true q)▸mq rfl) (eG (qM (z:=eF V) rfl f.c (gB.symm▸K)) fp)) fp)))
  rw[z q,xt (show nP t n=eb from decide_eq_true q),DC,DT,mJ];exact⟨f.a,congrArg d9 (congrArg _ (oJ (b:=[n]))),rfl⟩
 ·refine(eu _ ?_ (eG (A5 f.b f.a W (by lia)) (eG (gU ((decide_eq_false q)▸mq rfl) (eG
   (A6 (z:=eF u) (q:=eF (t.a n).a.reverse) (GF rfl (by lia)) rfl rfl (by rw[gB,gB,n6];lia)) fp)) fp)))
  rw[Kg (by rw[nP,decide_eq_false q];exact At),DC,mJ];exact⟨f.a,f.c,congrArg d9 (congrArg _ oJ)⟩
theorem UU(h:Un t T){B:Ss}{p:Int->Bool}(i:∀{n F dn k},n∈t.b->FW F dn (k++[n])->dn.length≤100000->k.length+(t.a n).a.length<100000->
   ∃A,FW A (dn++[n].filter p) (k++(t.a n).a.reverse)∧B.c d t F=d9 (.a,t,A)) {n:Int} (W:n∈t.b):
  ∀(N:Nat) F dn k,FW F dn (k++[n])->dn.length+(PP t T n).length≤100000->k.length+(PP t T n).length≤100000->
   ∃A,FW A (dn++(PP t T n).filter p) k∧mi (λt F=>tW.q d t F) (λt F=>B.c d t F) (N+(PP t T n).length) t F=mi (λt F=>tW.q d t F) (λt F=>B.c d t F) N t A:=by
 refine h.e.M (P:=λn=>∀(N:Nat) F dn k,FW F dn (k++[n])->dn.length+(PP t T n).length≤100000->k.length+(PP t T n).length≤100000->
   ∃A,FW A (dn++(PP t T n).filter p) k∧mi (λt F=>tW.q d t F) (λt F=>B.c d t F) (N+(PP t T n).length) t F=mi (λt F=>tW.q d t F) (λt F=>B.c d t F) N t A) ?_ W
 intro n W D N F dn k f b I;have z:∀(l:List Int),l.length≤(l.flatMap (PP t T)).length:=by
  intro l
  induction l with
  |nil=>exact ig _
  |cons c r D=>
   have:=Fu t T c;rw[kY,il,lF];lia
 have e:PP t T n=_:=lw h.e W;have M:(PP t T n).length=((t.a n).a.flatMap (PP t T)).length+1:=by rw[e];rfl
 have y:=z (t.a n).a;refine eR (i W f (by lia) (by lia)) λK Y L=>?_;have S:∀(l:List Int),(∀c∈l,c∈(t.a n).a)->∀N F dn k,FW F dn (k++l.reverse)->dn.length+(l.flatMap (PP t T)).length≤100000->k.length+(l.flatMap (PP t T)).length≤100000->
   ∃A,FW A (dn++(l.flatMap (PP t T)).filter p) k∧mi (λt F=>tW.q d t F) (λt F=>B.c d t F) (N+(l.flatMap (PP t T)).length) t F=mi (λt F=>tW.q d t F) (λt F=>B.c d t F) N t A:=by
  intro l
  induction l with
  |nil=>intro _ N F dn k f _ _;refine(eu F ?_ rfl);rw[DT,mJ] at f;rw[DF,DC,mJ];exact f
  |cons c r Q=>
   intro C N F dn k f w o;rw[n9,←ng] at f;rw[kY,il] at w o;have:=z r;refine eR (D c (C c (gp ..)) (N+(r.flatMap (PP t T)).length) F dn (k++r.reverse) f (by lia) (by rw[il,n6];lia)) λK Y L=>?_;refine eR (Q (λx Z=>C x (gC _ Z)) N K _ k Y (by rw[il];have:=qA p (PP t T c);lia) (by lia)) λH j a=>?_;refine(eu H ?_ ?_)
   ·rw(occs:=eO) [kY,Wh,←ng];exact j
   ·rw(occs:=eO) [kY,il,Kv (PP t T c).length,←xz,L,a]
 refine eR (S _ (λU q=>q) N K _ k Y (by rw[il];have:=qA p [n];have:[n].length=1:=rfl;lia) (by lia)) λH j a=>?_;refine(eu H ?_ ?_)
 ·rw[e]
  rw(occs:=eO) [show(n::(t.a n).a.flatMap (PP t T))=[n]++(t.a n).a.flatMap (PP t T) from rfl,Wh,←ng];exact j
 ·rw(occs:=eO) [M,←xz,Dm (UK f.b) L,a]
theorem PV{l:List Int}:l.filter (λU=>eb)=l:=by
 induction l with
 |nil=>rfl
 |cons a r D=>rw[xt rfl,D]
theorem U4{B:Ss}{V:List Int}{N:Nat}(f:FW F V []):mi (λt F=>tW.q d t F) (λt F=>B.c d t F) (N+1) t F=d9 (.a,t,F):=Dl (I7 (X:=[]) f.b)
theorem JR(h:Un t T)(M:t.b.length≤1000){B:Ss}{p:Int->Bool}(i:∀{n F k l},n∈t.b->FW F k (l++[n])->k.length≤100000->l.length+(t.a n).a.length<100000->
   ∃A,FW A (k++[n].filter p) (l++(t.a n).a.reverse)∧B.c d t F=d9 (.a,t,A)) {n:Int} (W:n∈t.b):
  gP ((Ss.a (.a 65 (.z .b)) (.a (.a 67 (.z (.a (.a 53) .b))) (.a (.w tW B) (.a (.u 65) .b)))).c d t (fh [66,53] [.b .c,.a n]))=d9 (.c eb (eF ((PP t T n).filter p)),t):=by
 have C:=oU h W;obtain⟨N,j⟩ :∃N,10000=(N+1)+(PP t T n).length:=⟨9999-(PP t T n).length,by lia⟩;refine eR (UU (d:=d) h i W (N+1) (eL (eL (fh [66,53] [.b .c,.a n]) 65 (.c eb [])) 67 (.c eb (eF [n]))) [] [] ⟨rfl,rfl,rfl⟩ (by show 0+_≤_;lia) (by show 0+_≤_;lia)) λA f g=>?_;rw[U4 f,←j] at g;have:f7 d t (fh [66,53] [.b .c,.a n]) (Ss.a (.a 65 (.z .b)) (.a (.a 67 (.z (.a (.a 53) .b))) (.a (.w tW B) (.a (.u 65) .b)))) (.b (.c eb (eF ((PP t T n).filter p)))) t A:=
  eG (fO rfl rfl) (eG (fO rfl rfl) (eG g (iq (yc f.c rfl))))
 rw[this];rfl
theorem xj(h:Un t T)(M:t.b.length≤1000){n:Int}(W:n∈t.b){k:Nat}:gF Q (k+1) 19 [.b .c,.a n] t=d9 (.c eb (eF (PP t T n)),t):=by
 rw[iB (B:=[66,53]) (b:=BS) (by decide) rfl rfl];have:=JR (d:=dd Q k) (B:=FP) (p:=λU=>eb) h M (λW f K I=>U7 W f K I) W;rw[PV] at this;exact this
theorem zt(h:Un t T)(M:t.b.length≤1000)(z:∀n∈t.b,(t.a n).b=0->(t.a n).a=[]){n:Int}(W:n∈t.b){k:Nat}:gF Q (k+1) 17 [.b .c,.a n] t=d9 (.c eb (eF ((PP t T n).filter (nP t))),t):=by
 rw[iB (B:=[66,53]) (b:=BR) (by decide) rfl rfl];exact JR (d:=dd Q k) (B:=FK) (p:=nP t) h M (λW f K I=>Q2 W f K I (z _ W)) W
noncomputable def r1{L:Type}(d:L)(g:Int->L):List eT->L
 |[.a c]=>g c
 |_=>d
noncomputable def r2{L:Type}(d:L)(g:Int->Int->L):List eT->L
 |[.a c,.a x]=>g c x
 |_=>d
theorem IV:∀J:List eD,pC t t J=true:=λJ=>iC.2 λv U=>decide_eq_true (by(clear U;cases v)<;>first|exact⟨rfl,rfl⟩ |trivial)
def pB(t:eB)(k:Nat)(J:List eD):Option (List (List eT)):=(oq t J).bind (qw k)
theorem Pp{u:eB->Bool}{g:List eT->Fr}{L:eB->Fr->Option (Bool×eB)}{a:eB->Fr->Option (eD×eB)}{p:List eT->Bool}{f:List eT->eT}(b:u t=eb):
  ∀(W:List (List eT)) h,(∀r∈W,L t (g r)=d9 (p r,t))->(∀r∈W,p r=eb->a t (g r)=d9 (.b (f r),t))->sK u g L a W t h=d9 (h++(W.filter p).map f,t):=by
 intro W
 induction W with
 |nil=>intro h U U;show(if _ then _ else _)=_;rw[if_pos b,DC,uH,mJ]
 |cons r W D=>
  intro h K I;have q:=K r (gp ..);have D:=λh=>D h (λx Z=>K x (gC _ Z)) (λx Z=>I x (gC _ Z));show(if _ then _ else _)=_;rw[if_pos b,q];cases J:p r with
  |false=>rw[Kg (by rw[J];exact At)];exact D h
  |true=>
   rw[xt J,gj];show(a t (g r)).bind _=_;rw[I r (gp ..) J];show sK u g L a W t (h++[f r])=_;rw(occs:=eO) [D,ng];rfl
theorem A2{T:eW}{N:List Nat}{L:iF}{a:Es}{Y:List (Nat×fX)}{W:List (List eT)}(p:List eT->Bool)(f:List eT->eT)(h:L.c d t F=d9 (J,t))(g:pB t L.g J=d9 W)(C:W.length≤100000)
  (z:∀r∈W,a.d d t (iS Y F N r)=d9 (p r,t)) (n:∀r∈W,p r=eb->Ev d t (iS Y F N r) T (.b (f r)) t):
  Ev d t F (.B T N L a Y) (.c eb ((W.filter p).map f)) t:=by
 show(L.c d t F).bind _=_;rw[h];show(oq t J).bind _=_;unfold pB at g;cases q:oq t J with
 |none=>rw[q] at g;exact nS g
 |some M=>
  rw[q] at g;show(qw L.g M).bind _=_;rw[show qw L.g M=d9 W from g];show(if _ then _ else _)=_;rw[if_pos C,Pp (p:=p) (f:=f) (IV J) W [] z n];rfl
theorem pT{T:eW}{N:List Nat}{L:iF}{Y:List (Nat×fX)}{W:List (List eT)}(f:List eT->eT)(h:L.c d t F=d9 (J,t))(g:pB t L.g J=d9 W)(C:W.length≤100000)
  (n:∀r∈W,Ev d t (iS Y F N r) T (.b (f r)) t):Ev d t F (.B T N L .b Y) (.c eb (W.map f)) t:=by
 have:=A2 (d:=d) (a:=.b) (λU=>eb) f h g C (λU U=>rfl) (λr R U=>n r R);rwa [show W.filter (λU=>eb)=W from Wi.2 λU U=>rfl] at this
theorem lK(h:Ev d t F e v E):(iF.a e).c d t F=d9 ([v],E):=by show(e.q d t F).map _=_;rw[h];rfl
theorem yh(y:d.a=eb)(h:Ev d t F O v E)(g:Ev d E F m u S):(iF.b O m).c d t F=d9 ([v,u],S):=by
 show(if _ then _ else _)=_;rw[if_pos y];show(O.q d t F).bind _=_;rw[h];show(m.q d E F).map _=_;rw[g];rfl
theorem kO{z:List eT}(h:ia t v=d9 z):pB t 0 [v]=d9 (z.map λx=>[x]):=by
 show(uL ((ia t v).bind _) _)=_;rw[h];rfl
theorem zM{z q:List eT}(h:ia t v=d9 z)(g:ia t u=d9 q)(C:z.length=q.length):pB t 1 [v,u]=d9 ((z.zip q).map λp=>[p.1,p.2]):=by
 show(uL ((ia t v).bind _) _)=_;rw[h];show(uL (kF _ ((ia t u).bind _)) _)=_;rw[g];show(if _ then _ else _)=_;rw[if_pos ⟨rfl,C⟩]
section
variable{M:eB->Fr->Bool}{N:List Nat}{k:eB->Fr->Option (Fl×eB×Fr)}{r:List eT}{W:List (List eT)}
theorem nM(h:M t F=eb):j7 M N k [] t F=d9 (.a,t,F):=if_pos h
theorem my(h:M t F=eb)(g:k t (fV F N r)=d9 (.a,E,K)):j7 M N k (r::W) t F=j7 M N k W E K:=by
 show(if _ then _ else _)=_;rw[if_pos h,g];rfl
end
abbrev lQ(L:iF)(J:List eD)(E:eB)(F:Fr):eB->Fr->Bool:=λD A=>pC E D J&&L.d.all λe=>mY F A e
theorem mO{L:iF}{N:List Nat}{b:Ss}{W:List (List eT)}{f:Fl}(h:L.c d t F=d9 (J,E))(g:pB E L.g J=d9 W)
  (a:L.d.all (λe=>e.P.all λi=>!((N++b.f).contains i))=eb) (c:(L.d.zip J).all (λp=>mI F p.1 p.2)=eb)
  (R:j7 (lQ L J E F) N (λt F=>b.c d t F) W E F=d9 (f,S,H)):Ex d t F (.j N L b) f S H:=by
 show(L.c d t F).bind _=_;rw[h];show(oq E J).bind _=_;unfold pB at g;cases q:oq E J with
 |none=>rw[q] at g;exact nS g
 |some M=>
  rw[q] at g;show(qw L.g M).bind _=_;rw[show qw L.g M=d9 W from g];show(if _ then _ else _)=_;rw[if_pos ⟨a,c⟩];exact R
theorem u7{x:Nat}{P:List (Int×eT)}{k:Int}{y:eT}(h:Ev d t F O (.b y) E)(g:Ev d E F m (.a k) S)(Z:F x=d9 (.g eb P))(C:P.length≤100000):
  Ex d t F (.n x m O) .a S (eL F x (.g eb (qt P k y))):=by
 show(O.q d t F).bind _=_;rw[h];show(m.q d E F).bind _=_;rw[g];show s9 F S x (.a k) (.b y)=_;unfold s9;rw[Z];show((if _ then _ else _)<|>_)=_;rw[if_pos C];rfl
theorem QY(P:List (Int×eT))(k m:Int)(y:eT):(qt P k y).lookup m=if m=k then d9 y else P.lookup m:=by
 unfold qt;by_cases q:P.any (λp=>p.1=k)=eb
 ·rw[if_pos q]
  induction P with
  |nil=>exact nB q
  |cons a r D=>
   obtain⟨a,b⟩ :=a;rw[gj];by_cases M:a=k
   ·clear q
    subst M;rw[if_pos rfl];by_cases Y:m=a
    ·clear D
     subst Y;rw[if_pos rfl,iw,show(m==m)=eb from beq_self_eq_true m]
    ·rw[if_neg Y,iw,iw,show(m==a)=em from beq_false_of_ne Y]
     show DN m (r.map _)=DN m r;by_cases R:r.any (λp=>p.1=a)=eb
     ·rw[D R,if_neg Y]
     ·have:r.map (λp=>if p.1=a then(p.1,y) else p)=r:=by
       refine(kf λp J=>?_).trans (Km _);refine if_neg λe=>R (Ay.2 (eu p J (decide_eq_true e)))
      rw[this]
   ·rw[if_neg M]
    have R:r.any (λp=>p.1=k)=true:=by
     rw[Aw,decide_eq_false M,VZ] at q;exact q
    by_cases Y:m=a
    ·clear q
     subst Y;rw[if_neg M,iw,iw,show(m==m)=eb from beq_self_eq_true m]
    ·rw[iw,iw,show(m==a)=em from beq_false_of_ne Y];exact D R
 ·rw[if_neg q]
  induction P with
  |nil=>
   rw[AD,iw];by_cases Y:m=k
   ·rw[if_pos Y,Y,show(k==k)=eb from beq_self_eq_true k]
   ·rw[if_neg Y,show(m==k)=em from beq_false_of_ne Y]
  |cons a r D=>
   obtain⟨a,b⟩ :=a;rw[Aw] at q;have M:a≠k:=λe=>q (by rw[decide_eq_true e];rfl);have R:¬r.any (λp=>p.1=k)=true:=λe=>q (by rw[e,pG]);rw[Kc,iw,iw,D R];by_cases Y:m=a
   ·clear q
    subst Y;rw[show(m==m)=eb from beq_self_eq_true m];exact(if_neg M).symm
   ·rw[show(m==a)=em from beq_false_of_ne Y]
theorem SM(P:List (Int×eT))(k:Int)(y:eT):(qt P k y).length≤P.length+1:=by
 unfold qt;split
 ·rw[fC];lia
 ·rw[il];exact ig _
theorem v9(h:t.g=7):t.n=[.j,.a t.c,.a t.l,.a 3,.a 2,.a t.d,.a t.i]:=by unfold eB.n;rw[h];rfl
theorem ji{f:Nat}(h:F 66=d9 (.b .c))(y:([.j,.a t.c,.a t.l,.a 3,.a 2,.a t.d,.a t.i]:List eD)[f]? =d9 v)(N:t.g=7):Ev d t F (.c (.a 66) (16+f)) v t:=by
 refine gv (fg h) ?_;show(if 16≤16+f then t.n[16+f-16]? else eh)=_;rw[if_pos (xA ..),Kw,v9 N,y]
theorem iG{n:Int}(N:t.g=7)(h:F 66=d9 (.b .c))(g:Ev d t F e (.a n) t)(W:n∈t.b):Ev d t F (.n (.c (.a 66) 16) e) (.b (.d n)) t:=
 jh (ji (f:=0) h rfl N) g (by show(if _ then _ else _)=_;exact if_pos W)
noncomputable def fA(s:Int):Int:=if s=2 then 0 else 1
noncomputable def ko(a:Int):Int:=if a=0 then 3 else 2
theorem t8{k:Nat}{s:Int}:gF Q (k+1) 15 [.a s] t=d9 (.a (fA s),t):=by
 rw[iB (B:=[54]) (b:=vD) (by decide) rfl rfl];by_cases q:s=2
 ·rw(occs:=eO) [fA,if_pos q,q];rfl
 ·have:f7 (dd Q k) t (fh [54] [.a s]) vD (.b (.a 1)) t (fh [54] [.a s]):=iq (i7 (lS (decide_eq_false q▸gG rfl rfl rfl) rfl) rfl)
  show gP (vD.c _ _ (fh [54] [.a s]))=_;rw(occs:=eO) [this,fA,if_neg q];rfl
theorem Uh{k:Nat}{a:Int}:gF Q (k+1) 16 [.a a] t=d9 (.a (if a=0 then 2 else 1),t):=by
 rw[iB (B:=[56]) (b:=vP) (by decide) rfl rfl];by_cases q:a=0
 ·rw[if_pos q,q];rfl
 ·have:f7 (dd Q k) t (fh [56] [.a a]) vP (.b (.a 1)) t (fh [56] [.a a]):=iq (i7 (lS (decide_eq_false q▸gG rfl rfl rfl) rfl) rfl)
  show gP (vP.c _ _ (fh [56] [.a a]))=_;rw[this,if_neg q];rfl
theorem Hu{k:Nat}{a:Int}(N:t.g=7):gF Q (k+1) 1033 [.b .c,.a a] t=d9 (.a (ko a),t):=by
 rw[iB (B:=[50,56]) (b:=si) (by decide) rfl rfl];have W:qk t 19 (.b .c)=d9 (.a 3):=by show t.n[3]? =_;rw[v9 N];rfl
 have P:qk t 20 (.b .c)=d9 (.a 2):=by show t.n[4]? =_;rw[v9 N];rfl
 by_cases q:a=0
 ·have:f7 (dd Q k) t (fh [50,56] [.b .c,.a a]) si (.b (.a 3)) t _:=iq (i7 (lT (decide_eq_true q▸gG (fg rfl) rfl rfl) (gv rfl W)) rfl)
  show gP (si.c _ _ (fh [50,56] [.b .c,.a a]))=_;rw(occs:=eO) [this,ko,if_pos q];rfl
 ·have:f7 (dd Q k) t (fh [50,56] [.b .c,.a a]) si (.b (.a 2)) t _:=iq (i7 (lS (decide_eq_false q▸gG (fg rfl) rfl rfl) (gv rfl P)) rfl)
  show gP (si.c _ _ (fh [50,56] [.b .c,.a a]))=_;rw(occs:=eO) [this,ko,if_neg q];rfl
structure Ok(t:eB)(rk:Int->Nat):Prop extends l:Un t rk where
 f:t.g=7
 j:t.b.length≤60
 i:∀n∈t.b,(t.a n).b=0↔(t.a n).a=[]
noncomputable def lf(t:eB)(a:Int):Nat->Int->Int
 |0,_=>0
 |k+1,n=>if(t.a n).b=0 then ko a else if fA (t.a n).b=a then((t.a n).a.map (lf t a k)).sum else kM ((t.a n).a.map (lf t a k))
def LL(t:eB)(b:Int->Nat)(a n:Int):Int:=lf t a (b n+1) n
theorem QR{a:Int}(h:Sh t T):∀k Z n,n∈t.b->T n<k->T n<Z->lf t a k n=lf t a Z n:=by
 intro k
 induction k with
 |zero=>intro Z n U q U;exact absurd q (pI _)
 |succ k D=>
  intro Z n W q O;cases Z with
  |zero=>exact absurd O (pI _)
  |succ Z=>
   show(if _ then _ else if _ then Kt _ else kM _)=if _ then _ else if _ then Kt _ else kM _;rw[kf λc X=>D Z c (h.d n W c X).1 (by have:=(h.d n W c X).2;lia) (by have:=(h.d n W c X).2;lia)]
theorem lW{a:Int}(h:Sh t T){n:Int}(W:n∈t.b):LL t T a n=if(t.a n).b=0 then ko a else if fA (t.a n).b=a then((t.a n).a.map (LL t T a)).sum else kM ((t.a n).a.map (LL t T a)):=by
 show(if _ then _ else if _ then Kt _ else kM _)=_;rw[kf λc X=>QR h (T n) (T c+1) c (h.d n W c X).1 (h.d n W c X).2 (uJ _)];rfl
def Cl(t:eB):List Int->Prop
 |[]=>True
 |n::r=>(∀c∈(t.a n).a,c∈r)∧Cl t r
theorem Cl.f:∀{l k:List Int},Cl t l->Cl t k->Cl t (l++k)
 |[],_,_,h=>h
 |n::r,k,L,h=>fe L λa b=>⟨λc X=>DQ _ (a c X),b.f h⟩
theorem Lg{l:List Int}(h:∀c∈l,Cl t (PP t T c)):Cl t (l.flatMap (PP t T)):=by
 induction l with
 |nil=>trivial
 |cons c r D=>rw[kY];exact(h c (gp ..)).f (D λx Z=>h x (gC _ Z))
theorem Ft(h:Sh t T){n:Int}(W:n∈t.b):Cl t (PP t T n):=by
 refine h.M (P:=λn=>Cl t (PP t T n)) ?_ W;intro n W D;rw[lw h W];exact⟨λc X=>qB.2 (eu c X (lX h (h.d n W c X).1)),Lg D⟩
structure DW(F:Fr)(o:Option eD)(x:Nat)(g:Int->eT)(l:List Int)(n:Int):Prop where
 b:F 66=d9 (.b .c)
 a:F 56=o
 c:F 53=d9 (.a n)
 d:∃kvs,F x=d9 (.g eb kvs)∧kvs.length≤l.length∧∀m∈l,kvs.lookup m=d9 (g m)
theorem Gr{o:Option eD}{D:Int}{x:Nat}{g:Int->eT}{B:Ss}{L:iF}{J:List eD}{O:Fr}{N:Nat}(q:∀F,lQ L J t O t F=eb)
  (i:∀{n l F},n∈t.b->(∀c∈(t.a n).a,c∈l)->l.length≤1000->DW F o x g l D->∃k,DW k o x g (n::l) D∧B.c d t (eL F N (.a n))=d9 (.a,t,k)):
  ∀(l:List Int),Cl t l->(∀W∈l,W∈t.b)->l.length≤1000->∀(f:List (List eT)) F,DW F o x g [] D->
   ∃k,DW k o x g l D∧j7 (lQ L J t O) [N] (λt F=>B.c d t F) ((eF l.reverse).map (λy=>[y])++f) t F=j7 (lQ L J t O) [N] (λt F=>B.c d t F) f t k:=by
 intro G
 induction G with
 |nil=>
  intro U U U f F h;exact(eu F h rfl)
 |cons n r e=>
  intro Z M C f F h;refine fe Z λc X=>?_;have C:r.length+1≤1000:=C;refine eR (e X (λW b=>M W (gC _ b)) (by lia) ([.a n]::f) F h) λK Y a=>?_;refine eR (i (M n (gp ..)) c (by lia) Y) λH j T=>?_;refine(eu H j ?_);rw(occs:=eO) [n9,←oJ,lb,ng];show j7 _ _ _ (_++([.a n]::f)) t F=_;rw[a];exact my (q K) T
noncomputable abbrev B5:List (Nat×fX):=[(48,ey),(73,ey),(65,gb)]
abbrev B7:eW:=.B (.n (.a 65) (.a 73)) [73] (.a (.c (.a 68) 3)) .b B5
theorem Hd{l:List Int}{f:Int->Int}:l5 (l.map λc=>eT.a (f c))=d9 (l.map f):=by
 have:(l.map λc=>eT.a (f c))=eF (l.map f):=(gJ (g:=eT.a) (f:=f)).symm;rw[this,nO]
theorem Qu{o:Option eD}{D n:Int}{l:List Int}{g:Int->eT}(p:DW F o 65 g l D)(K:F 68=d9 (.b (.d n)))(X:∀c∈(t.a n).a,c∈l)(C:(t.a n).a.length≤100000):
  Ev d t F B7 (.c eb ((t.a n).a.map g)) t:=by
 refine f5 p.d λP z w Y=>?_;have:=pT (d:=d) (t:=t) (F:=F) (T:=.n (.a 65) (.a 73)) (N:=[73]) (L:=.a (.c (.a 68) 3)) (Y:=B5) (W:=(eF (t.a n).a).map λx=>[x])
  (r1 .e λc=>g c) (lK (gv (fg K) rfl)) (kO jK) (by rw[fC,gB];exact C) ?_
 ·rw[gJ,gJ] at this;exact this
 ·intro r R
  (refine fP R λy B O=>?_;(clear R;obtain rfl:=O))
  (refine fP B λc Z m=>?_;(clear B;obtain rfl:=m))
  have L:iS B5 F [73] [.a c] 65=d9 (.g em P):=congrArg (kF eD.e) z;refine jh (fg L) rfl ?_;show(P.lookup c).map eD.b=_;rw[Y c (X c Z)];rfl
theorem uY{o:Option eD}{D n:Int}{x:Nat}{l:List Int}{g:Int->eT}{P:List (Int×eT)}(N:F 66=d9 (.b .c))(J:F 56=o)(a:F 53=d9 (.a D))(Z:F x=d9 (.g eb (qt P n (g n))))
  (C:P.length≤l.length) (Y:∀f∈l,P.lookup f=d9 (g f)):DW F o x g (n::l) D:=
 ⟨N,J,a,_,Z,im (SM ..) (DX C),λf h=>by
  rw(occs:=eO) [QY];by_cases q:f=n
  ·rw(occs:=eO) [if_pos q,q]
  ·rw(occs:=eO) [if_neg q];rcases gy.1 h with e|h
   ·exact absurd e q
   ·exact Y f h⟩
abbrev FJ:Ss:=.a (.a 68 (.n (.c (.a 66) 16) (.a 72))) (.a (.c (.h fZ (.c (.a 68) 1) (.w 10)) (.a (.n 65 (.a 72) (.v (.a 66) 33 (.a (.a 56) .b))) .b) (.a (.c (.h fZ (.j 15 (.a (.c (.a 68) 1) .b)) (.a 56)) (.a (.n 65 (.a 72) (.x 1 B7)) .b) (.a (.n 65 (.a 72) (.x 2 B7)) .b)) .b)) .b)
theorem yE{n a:Int}{k:Nat}(K:F 68=d9 (.b (.d n)))(J:F 56=d9 (.a a)):Ev (dd Q (k+1)) t F (.h fZ (.j 15 (.a (.c (.a 68) 1) .b)) (.a 56)) (.d (eU (fA (t.a n).b=a))) t:=
 gG (gI (eV (gv (fg K) rfl) fJ) t8) (fg J) rfl
theorem QZ{a D n:Int}{l:List Int}{k:Nat}(h:Ok t T)(W:n∈t.b)(X:∀c∈(t.a n).a,c∈l)(C:l.length≤1000)(p:DW F (d9 (.a a)) 65 (λf=>.a (LL t T a f)) l D):
  ∃A,DW A (d9 (.a a)) 65 (λf=>.a (LL t T a f)) (n::l) D∧FJ.c (dd eb (k+1)) t (eL F 72 (.a n))=d9 (.a,t,A):=by
 refine f5 p.d λP z w Y=>?_;have E:=lx h.l W;have:=h.j;have e:=lW (a:=a) h.e W;have I:Ex (dd eb (k+1)) t (eL F 72 (.a n)) (.a 68 (.n (.c (.a 66) 16) (.a 72))) .a t (eL (eL F 72 (.a n)) 68 (.b (.d n))):=fO (iG h.f p.b rfl W) rfl;have S:DW (eL (eL F 72 (.a n)) 68 (.b (.d n))) (d9 (.a a)) 65 (λf=>.a (LL t T a f)) l D:=⟨p.b,p.a,p.c,p.d⟩;have N:=Qu (d:=dd eb (k+1)) (t:=t) (n:=n) S rfl X (by lia);by_cases q:(t.a n).b=0
 ·rw[if_pos q] at e
  refine(eu _ ?_ (eG I (eG (jj (decide_eq_true q▸mq rfl) (eG (u7 (y:=.a (ko a)) (iL (fg p.b) (eV (fg p.a) fJ) rfl (Hu h.f)) (fg (v:=.a n) rfl) z (by lia)) fp)) fp)));exact uY p.b p.a p.c (by show d9 _=d9 _;rw[e]) w Y
 ·rw[if_neg q] at e
  have G:(t.a n).a≠[]:=λr=>q ((h.i n W).2 r);by_cases o:fA (t.a n).b=a
  ·rw[if_pos o] at e
   refine(eu _ ?_ (eG I (eG (gU (decide_eq_false q▸mq rfl) (eG (jj (decide_eq_true o▸yE rfl p.a) (eG (u7 (y:=.a (((t.a n).a.map (LL t T a)).sum)) (jM N ?_) (fg (v:=.a n) rfl) z (by lia)) fp)) fp)) fp)))
   ·exact uY p.b p.a p.c (by show d9 _=d9 _;rw[e]) w Y
   ·show((l5 _).bind _)=_
    rw[Hd];rfl
  ·rw[if_neg o] at e
   refine(eu _ ?_ (eG I (eG (gU (decide_eq_false q▸mq rfl) (eG (gU (decide_eq_false o▸yE rfl p.a) (eG (u7 (y:=.a (kM ((t.a n).a.map (LL t T a)))) (jM N ?_) (fg (v:=.a n) rfl) z (by lia)) fp)) fp)) fp)))
   ·exact uY p.b p.a p.c (by show d9 _=d9 _;rw[e]) w Y
   ·show((l5 _).bind _)=_
    rw[Hd];show(if _ then _ else _)=_;rw[if_pos ⟨rfl,λr=>G (nj.1 r)⟩]
theorem zr(h:Ok t T){n a:Int}(W:n∈t.b){k:Nat}:gF eb (k+2) 22 [.b .c,.a n,.a a] t=d9 (.a (LL t T a n),t):=by
 have C:=oU h.l W;have:=h.j;have Z:=xj (Q:=eb) h.l (by lia) W (k:=k);rw[iB (B:=[66,53,56]) (b:=vJ) (by decide) rfl rfl];have j:(iF.a (.H (.j 19 (.a (.a 66) (.a (.a 53) .b))))).c (dd eb (k+1)) t (eL (fh [66,53,56] [.b .c,.a n,.a a]) 65 (.g eb []))=d9 ([.c eb (eF (PP t T n).reverse)],t):=
  lK (Dk▸A4 (gI rfl Z) rfl (by rw[gB];lia))
 refine eR (Gr (d:=dd eb (k+1)) (t:=t) (o:=d9 (.a a)) (D:=n) (x:=65) (g:=λm=>.a (LL t T a m)) (B:=FJ) (L:=.a (.H (.j 19 (.a (.a 66) (.a (.a 53) .b))))) (J:=[.c eb (eF (PP t T n).reverse)])
  (O:=eL (fh [66,53,56] [.b .c,.a n,.a a]) 65 (.g eb [])) (N:=72) (λU=>rfl) (λW X C p=>QZ h W X C p) (PP t T n) (Ft h.e W) (j5 h.e W) (by lia) []
  (eL (fh [66,53,56] [.b .c,.a n,.a a]) 65 (.g eb [])) ⟨rfl,rfl,rfl,[],rfl,ig _,λU h=>absurd h iI⟩) λA f g=>?_
 refine f5 f.d λP z U Y=>?_;rw[mJ,nM rfl] at g;have:f7 (dd eb (k+1)) t (fh [66,53,56] [.b .c,.a n,.a a]) vJ (.b (.a (LL t T a n))) t A:=
  eG (fO (v:=.g eb []) rfl rfl) (eG (mO j (kO rfl) rfl rfl g) (iq (i7 (jh (fg z) (fg f.c) (by show(P.lookup n).map eD.b=_;rw[Y n (lX h.e W)];rfl)) rfl)))
 show gP (vJ.c _ _ (fh [66,53,56] [.b .c,.a n,.a a]))=_;rw[this];rfl
noncomputable def jz(W M:List Int):List Int:=if W.sum=0 then iJ M.length 1 else W
noncomputable def mG(W M:List Int):Int:=if W.sum=0 then M.length else W.sum
def nV(m:Int)(W M:List Int):List Int:=((jz W M).zip M).map λp=>p.2+((m-M.sum)*p.1).fdiv (mG W M)
noncomputable def vX(r:Int)(l:List Int):List Int:=l.zipIdx.map λp=>p.1+(if(p.2:Int)<r then 1 else 0)
def j'(m:Int)(W M:List Int):List Int:=vX (m-(nV m W M).sum) (nV m W M)
theorem oQ{m:List Nat}{as:List eT}{g:Bool}(y:d.a=eb)(h:Ev d t F e (.b (.f as)) E)(C:as.length=m.length):Ex d t F (.l g m e) .a E (if g then fV F m.reverse as.reverse else fV F m as):=by
 show(e.q d t F).bind _=_;rw[h];show(if _ then _ else _)=_;rw[if_pos ⟨y,C⟩]
theorem rh{o:Bool}{l:List Int}:oZ eb t 1 (.c o (eF l))=d9 (.a l.sum):=by
 show((jC t (.c o (eF l))).bind _)=_;rw[sL];rfl
theorem sD{v:eD}{z:List eT}(h:ia t v=d9 z)(X:zu t v=(ia t v).map qz)(C:z.length≤100000):oZ Q t 0 v=d9 (.a z.length):=by
 show((zu t v).bind _)=_;rw[X,h];show(if _ then _ else _)=_;rw[if_pos C]
theorem XE{x y:Int}:mS t fZ (.a x) (.a y)=d9 (eU (x=y)):=rfl
theorem S7{z:List eT}(h:ia t v=d9 z):pB t 2 [v]=d9 (z.zipIdx.map λp=>[.a p.2,p.1]):=by
 show(uL ((ia t v).bind _) _)=_;rw[h];rfl
theorem MK(y:d.a=eb)(h:Ev d t F e v E):(iF.h e).c d t F=d9 ([v],E):=by
 show(if _ then _ else _)=_;rw[if_pos y];show(e.q d t F).map _=_;rw[h];rfl
theorem pF:∀(a b:List Int),(eF a).zip (eF b)=(a.zip b).map λp=>(eT.a p.1,eT.a p.2)
 |[],_=>rfl
 |_::_,[]=>rfl
 |a::r,b::s=>by show _::(eF r).zip (eF s)=_::_;rw[pF r s];rfl
theorem uk{x y:Int}(Z:rC x)(B:rC y):ri jb (.a x) (.a y)=d9 (.a (x*y)):=by
 show(((if _ then _ else _:Option Int).map eD.a)<|>_)=_;rw[if_pos ⟨Z,B⟩];rfl
theorem yR{x y:Int}(B:y≠0)(Z:iZ y):ri pN (.a x) (.a y)=d9 (.a (x.fdiv y)):=by
 show(((if _ then _ else _:Option Int).map eD.a)<|>_)=_;rw[if_pos ⟨B,Z⟩];rfl
theorem z9{x:Int}(h:iZ x):rC x:=by unfold iZ at h;unfold rC;lia
noncomputable abbrev yY:List (Nat×fX):=[(48,ey),(82,ey),(72,ey),(79,gb)]
noncomputable abbrev v7:List (Nat×fX):=[(48,ey),(81,ey),(80,ey),(77,gb),(78,gb)]
abbrev Gs:eW:=.B (.p io (.a 72) (.C (.h lj (.a 82) (.a 79)) (.d 1) (.d 0))) [82,72] (.h (.a 65)) .b yY
abbrev Gu:eW:=.B (.p io (.a 80) (.p pN (.p jb (.a 77) (.a 81)) (.a 78))) [81,80] (.b (.a 75) (.a 76)) .b v7
theorem J6:∀(l:List Int) (k:Nat),(eF l).zipIdx k=(l.zipIdx k).map λp=>(eT.a p.1,p.2):=by
 intro G
 induction G with
 |nil=>
  intro U;exact rfl
 |cons a r D=>
  intro k;show _::(eF r).zipIdx (k+1)=_::_;rw[D (k+1)]
theorem Pd{l:List Int}{r:Int}(y:d.a=eb)(J:F 65=d9 (.c eb (eF l)))(K:F 79=d9 (.a r))(C:l.length≤100000):Ev d t F Gs (.c eb (eF (vX r l))) t:=by
 have:=pT (d:=d) (t:=t) (F:=F) (T:=.p io (.a 72) (.C (.h lj (.a 82) (.a 79)) (.d 1) (.d 0))) (N:=[82,72]) (L:=.h (.a 65)) (Y:=yY) (W:=(eF l).zipIdx.map λp=>[.a p.2,p.1])
  (r2 .e λk x=>.a (x+if k<r then 1 else 0)) (MK y (fg J)) (S7 rfl) (by rw[fC,Kk,gB];exact C) ?_
 ·rw[J6,gJ,gJ] at this
  rw(occs:=eO) [vX,eF,gJ];exact this
 ·intro q G
  rw[J6,gJ] at G
  (refine CC G λx k U O=>?_;(clear G;obtain rfl:=O))
  have R:iS yY F [82,72] [.a k,.a x] 79=d9 (.a r):=congrArg (kF eD.e) K;show Ev d t (iS yY F [82,72] [.a k,.a x]) _ (.b (.a (x+if(k:Int)<r then 1 else 0))) t;refine hZ (u:=.a (if(k:Int)<r then 1 else 0)) rfl ?_ rfl;by_cases c:(k:Int)<r
  ·rw[if_pos c];exact lT (decide_eq_true c▸gG (fg (v:=.a k) rfl) (fg R) rfl) rfl
  ·rw[if_neg c];exact lS (decide_eq_false c▸gG (fg (v:=.a k) rfl) (fg R) rfl) rfl
theorem P6{W M:List Int}{a n:Int}{w u:Bool}(b:d.a=eb)(J:F 75=d9 (.c w (eF W)))(N:F 76=d9 (.c u (eF M)))(P:F 77=d9 (.a a))(K:F 78=d9 (.a n))(C:W.length=M.length)(j:M.length≤100000)
  (Y:iZ a) (c:iZ n) (D:n≠0) (E:∀x∈W,iZ x):Ev d t F Gu (.c eb (eF ((W.zip M).map λp=>p.2+(a*p.1).fdiv n))) t:=by
 have:=pT (d:=d) (t:=t) (F:=F) (T:=.p io (.a 80) (.p pN (.p jb (.a 77) (.a 81)) (.a 78))) (N:=[81,80]) (L:=.b (.a 75) (.a 76)) (Y:=v7) (W:=((eF W).zip (eF M)).map λp=>[p.1,p.2])
  (r2 .e λx y=>.a (y+(a*x).fdiv n)) (yh b (fg J) (fg N)) (zM rfl rfl (by rw[gB,gB];exact C)) (by rw[fC,kZ,gB,gB];lia) ?_
 ·rw[pF,gJ,gJ] at this
  rw(occs:=eO) [eF,gJ];exact this
 ·intro q G
  rw[pF,gJ] at G
  (refine CC G λx y O m=>?_;(clear G;obtain rfl:=m))
  have Z:=E x (rG O).1;have R:iS v7 F [81,80] [.a x,.a y] 77=d9 (.a a):=congrArg (kF eD.e) P;have I:iS v7 F [81,80] [.a x,.a y] 78=d9 (.a n):=congrArg (kF eD.e) K;show Ev d t (iS v7 F [81,80] [.a x,.a y]) _ (.b (.a (y+(a*x).fdiv n))) t;exact hZ (fg (v:=.a y) rfl) (hZ (hZ (fg R) rfl (uk (z9 Y) (z9 Z))) (fg I) (yR D c)) rfl
theorem Uc{k:Nat}{a:Int}{W M:List Int}(C:W.length=M.length)(j:M.length≤100)(G:M≠[])(Y:iZ (a-M.sum))(S:iZ W.sum)(E:∀x∈W,iZ x):
  gF eb (k+1) 23 [.a a,.c em (eF W),.c em (eF M)] t=d9 (.c eb (eF (j' a W M)),t):=by
 rw[iB (B:=[74,75,76]) (b:=sC) (by decide) rfl rfl];have w:(M.length:Int)≠0:=λe=>G (oK.1 (V6 e));have T:∀F:Fr,F 76=d9 (.c em (eF M))->Ev (dd eb k) t F (.x 0 (.a 76)) (.a M.length) t:=λF h=>by
  have:=jM (d:=dd eb k) (t:=t) (fg h) (sD (Q:=eb) (z:=eF M) rfl rfl (by rw[gB];lia));rwa [gB] at this
 have I:Ex (dd eb k) t (fh [74,75,76] [.a a,.c em (eF W),.c em (eF M)]) (.l em [77,78] (.A (.a (.p gS (.a 74) (.x 1 (.a 76))) (.a (.x 1 (.a 75)) .b)))) .a t
   (eL (eL (fh [74,75,76] [.a a,.c em (eF W),.c em (eF M)]) 77 (.a (a-M.sum))) 78 (.a W.sum)):=
  oQ (as:=[.a (a-M.sum),.a W.sum]) rfl (kg (eV (hZ (u:=.a M.sum) (fg rfl) (jM rfl rh) rfl) (eV (jM rfl rh) fJ)) rfl (iO rfl)) rfl
 have R:∀F:Fr,∀o,F 74=d9 (.a a)->F 75=d9 (.c o (eF (jz W M)))->F 76=d9 (.c em (eF M))->F 77=d9 (.a (a-M.sum))->F 78=d9 (.a (mG W M))->(jz W M).length=M.length->iZ (mG W M)->mG W M≠0->(∀x∈jz W M,iZ x)->
   ∃b,f7 (dd eb k) t F (.a (.a 65 Gu) (.a (.a 79 (.p gS (.a 74) (.x 1 (.a 65)))) (.a (.g Gs) .b))) (.b (.c eb (eF (j' a W M)))) t b:=by
  intro F o y J N P K D V X L;refine⟨_,eG (fO (P6 rfl J N P K D (by lia) Y V X L) rfl) (eG (fO (v:=.a (a-(nV a W M).sum)) (hZ (u:=.a (nV a W M).sum) (fg y) (jM rfl rh) rfl) rfl) (iq (i7 (Pd rfl rfl rfl ?_) rfl)))⟩;rw(occs:=eO) [nV,fC,kZ];lia
 have c:∀F:Fr,F 78=d9 (.a W.sum)->Ev (dd eb k) t F (.h fZ (.a 78) (.d 0)) (.d (eU (W.sum=0))) t:=λF h=>gG (fg h) (v:=.a W.sum) rfl rfl;by_cases q:W.sum=0
 ·have O:jz W M=iJ M.length 1:=if_pos q
  have m:mG W M=M.length:=if_pos q;have f:eF (iJ M.length 1)=iJ M.length (eT.a 1):=Wu;refine fL (R (eL (eL (eL (eL (fh [74,75,76] [.a a,.c em (eF W),.c em (eF M)]) 77 (.a (a-M.sum))) 78 (.a W.sum)) 75 (.c eb (eF (iJ M.length 1)))) 78 (.a M.length)) eb rfl
   (by rw[O];rfl) rfl rfl (by rw[m];rfl) (by rw[O,xv]) (by rw[m];unfold iZ;lia) (by rw[m];exact w) (by rw[O];intro x Z;rw[(Kq.1 Z).2];decide)) λb g=>?_
  have d:Ev (dd eb k) t (eL (eL (fh [74,75,76] [.a a,.c em (eF W),.c em (eF M)]) 77 (.a (a-M.sum))) 78 (.a W.sum)) (.p jb (.z (.a (.d 1) .b)) (.x 0 (.a 76))) (.c eb (eF (iJ M.length 1))) t:=by
   refine hZ (v:=.c eb [.a 1]) rfl (T _ rfl) ?_;show(eh<|>(if _ then _ else _))=_;rw[if_pos ⟨rfl,by lia,by lia⟩,f];rfl
  have:f7 (dd eb k) t (fh [74,75,76] [.a a,.c em (eF W),.c em (eF M)]) sC (.b (.c eb (eF (j' a W M)))) t b:=
   eG I (eG (jj (decide_eq_true q▸c _ rfl) (eG (fO d rfl) (eG (fO (T _ rfl) rfl) fp))) g)
  show gP (sC.c _ _ (fh [74,75,76] [.a a,.c em (eF W),.c em (eF M)]))=_;rw[this];rfl
 ·have O:jz W M=W:=if_neg q
  have m:mG W M=W.sum:=if_neg q;refine fL (R (eL (eL (fh [74,75,76] [.a a,.c em (eF W),.c em (eF M)]) 77 (.a (a-M.sum))) 78 (.a W.sum)) em rfl
   (by rw[O];rfl) rfl rfl (by rw[m];rfl) (by rw[O];exact C) (by rw[m];exact S) (by rw[m];exact q) (by rw[O];exact E)) λb g=>?_
  have:f7 (dd eb k) t (fh [74,75,76] [.a a,.c em (eF W),.c em (eF M)]) sC (.b (.c eb (eF (j' a W M)))) t b:=
   eG I (eG (gU (decide_eq_false q▸c _ rfl) fp) g)
  show gP (sC.c _ _ (fh [74,75,76] [.a a,.c em (eF W),.c em (eF M)]))=_;rw[this];rfl
noncomputable def nJ:Int->Nat->List Int
 |_,0=>[]
 |r,n+1=>(if 0<r then 1 else 0)::nJ (r-1) n
theorem yN:∀(r:Int) n,(nJ r n).length=n
 |_,0=>rfl
 |r,n+1=>congrArg Nat.succ (yN (r-1) n)
theorem Gb:∀(r:Int) n,r≤0->nJ r n=iJ n 0
 |_,0,_=>rfl
 |r,n+1,h=>by
  show(if 0<r then 1 else 0)::nJ (r-1) n=_;rw[if_neg (by lia),Gb (r-1) n (by lia)];rfl
theorem BV:∀(k n:Nat),k≤n->nJ k n=iJ k 1++iJ (n-k) 0
 |0,n,_=>Gb 0 n (ja 0)
 |k+1,0,h=>absurd h (WQ _)
 |k+1,n+1,h=>by
  show(if 0<((k+1:Nat):Int) then 1 else 0)::nJ (((k+1:Nat):Int)-1) n=_;rw[if_pos (by lia),show((k+1:Nat):Int)-1=k by lia,BV k n (by lia),Nat.succ_sub_succ];rfl
theorem w6:∀(k:Nat) (x:Int),(iJ k x).sum=k*x:=by
 intro G
 induction G with
 |zero=>
  intro x;exact(V7 x).symm
 |succ k D=>
  intro x;rw[Ks,kr,D x,show((k+1:Nat):Int)=k+1 from rfl,xq,Dy,Int.add_comm]
theorem wZ(a b:List Int):(a++b).sum=a.sum+b.sum:=by
 induction a with
 |nil=>exact(Int.zero_add _).symm
 |cons x r D=>rw[Kc,kr,kr,D];lia
theorem Pa{k n:Nat}(h:k≤n):(nJ k n).sum=k:=by rw[BV k n h,wZ,w6,w6];lia
theorem Pe:∀(l:List Int) (r:Int) (k:Nat),((l.zipIdx k).map λp=>p.1+(if(p.2:Int)<r then 1 else 0))=uI (·+·) l (nJ (r-k) l.length):=by
 intro G
 induction G with
 |nil=>
  intro U U;exact rfl
 |cons a l D=>
  intro r k;show(a+(if(k:Int)<r then 1 else 0))::((l.zipIdx (k+1)).map λp=>p.1+(if(p.2:Int)<r then 1 else 0))=(a+if 0<r-k then 1 else 0)::uI (·+·) l (nJ (r-k-1) l.length);rw[D r (k+1),show r-k-1=r-((k+1:Nat):Int) by lia];by_cases h:(k:Int)<r
  ·rw[if_pos h,if_pos (by lia)]
  ·rw[if_neg h,if_neg (by lia)]
theorem Pc(r:Int)(l:List Int):vX r l=uI (·+·) l (nJ r l.length):=by
 have:=Pe l r 0;rwa [show r-((0:Nat):Int)=r by lia] at this
theorem I0:∀(a b:List Int),a.length=b.length->(uI (·+·) a b).sum=a.sum+b.sum
 |[],[],_=>rfl
 |[],_::_,h=>by exact nZ h
 |_::_,[],h=>by exact rz h
 |a::r,b::s,h=>by
  rw[List.zipWith_cons_cons,kr,kr,kr,I0 r s (ny h)];lia
theorem GL{R N:Int}(r:0≤R)(j:0<N):∀(W M:List Int),W.length=M.length->(∀x∈W,0≤x)->
  M.sum*N≤((W.zip M).map λp=>p.2+(R*p.1).fdiv N).sum*N∧((W.zip M).map λp=>p.2+(R*p.1).fdiv N).sum*N≤M.sum*N+R*W.sum∧M.sum*N+R*W.sum≤((W.zip M).map λp=>p.2+(R*p.1).fdiv N).sum*N+M.length*N
 |[],[],_,_=>by show(0:Int)*N≤0*N∧0*N≤0*N+R*0∧0*N+R*0≤0*N+((0:Nat):Int)*N;lia
 |[],_::_,h,_=>by exact nZ h
 |_::_,[],h,_=>by exact rz h
 |a::W,l::M,h,p=>by
  have D:=GL r j W M (ny h) λx Z=>p x (gC _ Z);have b:=p a (gp ..);rw[xy,gj,kr,kr,kr];have e:(R*a).fdiv N=(R*a)/N:=V2 _ (xr j);have w:(R*a)/N*N≤R*a:=Int.ediv_mul_le _ (Int.ne_of_gt j);have o:R*a<((R*a)/N+1)*N:=Int.lt_ediv_add_one_mul_self _ j;have u:0≤(R*a)/N*N:=Dx (V1 (Dx r b) (xr j)) (xr j);rw[e];generalize ((W.zip M).map λp=>p.2+(R*p.1).fdiv N).sum=S at D ⊢;generalize (R*a)/N=Q at w o u ⊢;rw[xq,Dy] at o;rw[show(((l::M).length:Nat):Int)=(M.length:Int)+1 from rfl];simp only[xq,Int.mul_add,Dy];generalize S*N=s at D ⊢;generalize Q*N=q at w o u ⊢;generalize R*a=z at w o ⊢;generalize R*W.sum=rw at D ⊢;generalize M.sum*N=L at D ⊢;generalize (M.length:Int)*N=P at D ⊢;lia
theorem wW{W M:List Int}(h:W.length=M.length):(jz W M).length=M.length:=by
 unfold jz;split
 ·exact xv
 ·exact h
theorem IL{W M:List Int}:(jz W M).sum=mG W M:=by
 unfold jz mG;split
 ·rw[w6];lia
 ·rfl
theorem w5:∀{l:List Int},(∀x∈l,0≤x)->0≤l.sum:=by
 intro G
 induction G with
 |nil=>
  intro U;exact ja 0
 |cons a r D=>
  intro h;have:=D λx Z=>h x (gC _ Z);have:=h a (gp ..);rw[kr];lia
theorem IK{W M:List Int}(h:∀x∈W,0≤x):∀x∈jz W M,0≤x:=by
 unfold jz;split
 ·intro x Z;rw[(Kq.1 Z).2];decide
 ·exact h
theorem C4{W M:List Int}(h:∀x∈W,0≤x)(G:M≠[]):0<mG W M:=by
 have:=w5 h;have:0<M.length:=DL.2 G;unfold mG;split<;>lia
theorem C3{m:Int}{W M:List Int}(h:W.length=M.length):(nV m W M).length=M.length:=by
 rw(occs:=eO) [nV,fC,kZ,wW h,DV]
theorem S3{m:Int}{W M:List Int}(h:W.length=M.length)(E:∀x∈W,0≤x)(G:M≠[])(Y:M.sum≤m):∃k:Nat,m-(nV m W M).sum=k∧k≤M.length:=by
 have l:=C4 E G;refine gY (GL (R:=m-M.sum) (by omega) l (jz W M) M (wW h) (IK E)) λU w o=>?_;rw[IL,←xq] at w o;have w:=V3 w l;rw[←xq] at o;have o:=V3 o l;refine(eu ((m-(nV m W M).sum).toNat) ?_ ?_)<;>unfold nV<;>omega
theorem C5{m:Int}{W M:List Int}(h:W.length=M.length)(E:∀x∈W,0≤x)(G:M≠[])(Y:M.sum≤m):
  ∃k:Nat,m-(nV m W M).sum=k∧k≤M.length∧j' m W M=uI (·+·) (nV m W M) (nJ k M.length):=by
 refine eR (S3 h E G Y) λk e l=>?_;refine(fQ k e l ?_);rw(occs:=eO) [j',Pc,e,C3 h]
theorem C6{m:Int}{W M:List Int}(h:W.length=M.length):(j' m W M).length=M.length:=by
 rw(occs:=eO) [j',vX,fC,Kk,C3 h]
theorem C7{m:Int}{W M:List Int}(h:W.length=M.length)(E:∀x∈W,0≤x)(G:M≠[])(Y:M.sum≤m):(j' m W M).sum=m:=by
 refine f5 (C5 h E G Y) λk e l g=>?_;rw[g,I0 _ _ (by rw[C3 h,yN]),Pa l];lia
theorem Ga:∀(r:Int) n,∀x∈nJ r n,0≤x
 |_,0,x,h=>absurd h iI
 |r,n+1,x,h=>by
  rcases gy.1 h with e|h
  ·rw[e];split<;>decide
  ·exact Ga _ n x h
theorem P8{R N:Int}(r:0≤R)(j:0<N):∀(W M b:List Int),W.length=M.length->b.length=M.length->(∀x∈W,0≤x)->(∀x∈b,0≤x)->
  ∀p∈M.zip (uI (·+·) ((W.zip M).map λp=>p.2+(R*p.1).fdiv N) b),p.1≤p.2:=by
 intro W
 induction W with
 |nil=>intro M b U U U U p h;exact absurd h (by rw[List.zip_nil_left,uH,List.zipWith_nil_left,List.zip_nil_right];exact iI)
 |cons a W D=>
  intro M b K I g y;cases M with
  |nil=>exact rz K
  |cons l M=>
   cases b with
   |nil=>exact nZ I
   |cons c b=>
    intro p J;rcases gy.1 J with e|J
    ·have u:0≤(R*a).fdiv N:=by
      rw[V2 _ (xr j)];exact V1 (Dx r (g a (gp ..))) (xr j)
     have:=y c (gp ..);rw[e];show l≤l+(R*a).fdiv N+c;omega
    ·exact D M b (ny K) (ny I) (λx Z=>g x (gC _ Z)) (λx Z=>y x (gC _ Z)) p J
theorem Ub{m:Int}{W M:List Int}(h:W.length=M.length)(E:∀x∈W,0≤x)(G:M≠[])(Y:M.sum≤m):∀p∈M.zip (j' m W M),p.1≤p.2:=by
 refine f5 (C5 h E G Y) λk e l g=>?_;rw[g];exact P8 (by lia) (C4 E G) (jz W M) M _ (wW h) (yN ..) (IK E) (Ga _ _)
theorem PU{R N:Int}:∀(W M b:List Int),W.length=M.length->b.length=M.length->
  ((uI (·+·) ((W.zip M).map λp=>p.2+(R*p.1).fdiv N) b).zip (M.zip W)).map (λp=>p.1-p.2.1-(R*p.2.2).fdiv N)=b:=by
 intro W
 induction W with
 |nil=>
  intro M b K I;rw[oK.mp K.symm] at I ⊢;rw[oK.mp I];rfl
 |cons a W D=>
  intro M b K I;cases M with
  |nil=>exact rz K
  |cons l M=>
   cases b with
   |nil=>exact nZ I
   |cons c b=>
    show(l+(R*a).fdiv N+c-l-(R*a).fdiv N)::_=c::b
    congr 1
    ·lia
    ·exact D M b (ny K) (ny I)
theorem Ua{m:Int}{W M:List Int}(h:W.length=M.length)(E:∀x∈W,0≤x)(G:M≠[])(Y:M.sum≤m):
  ∃k:Nat,k≤M.length∧((j' m W M).zip (M.zip (jz W M))).map (λp=>p.1-p.2.1-((m-M.sum)*p.2.2).fdiv (mG W M))=iJ k 1++iJ (M.length-k) 0:=by
 refine f5 (C5 h E G Y) λk e l g=>?_;refine(eu k l ?_);rw[g,←BV k _ l];exact PU (jz W M) M _ (wW h) (yN ..)
abbrev tp(l:List Int):eT:=.f (eF l)
abbrev i9(l:List (List Int)):List eT:=l.map tp
theorem Ij:∀l:List Int,∃r,kN (eF l)=d9 r:=by
 intro G
 induction G with
 |nil=>
  exact⟨_,rfl⟩
 |cons a r D=>
  refine fL (D) λx h=>?_;exact⟨mn a::x,by show(kN (eF r)).map _=_;rw[h];rfl⟩
theorem Ii:∀l:List (List Int),∃r,kN (i9 l)=d9 r:=by
 intro G
 induction G with
 |nil=>
  exact⟨_,rfl⟩
 |cons a r D=>
  refine fL (D) λx h=>?_;refine fL (Ij a) λy g=>?_;exact⟨xP y::x,by show((kN (eF a)).map _).bind _=_;rw[g];show(kN (i9 r)).map _=_;rw[h];rfl⟩
theorem Rn{o:Bool}:∀l:List (List Int),mS t gd (.c o (i9 l)) (.c eb [])=d9 (!eU (l=[])):=by
 intro G
 induction G with
 |nil=>
  exact rfl
 |cons a r D=>
  refine fL (Ii (a::r)) λx h=>?_;obtain⟨y,g⟩ :∃y,x=xP y::(x.tail):=by
   refine fL (Ii r) λz I=>?_;refine fL (Ij a) λy g=>?_;have:kN (i9 (a::r))=d9 (xP y::z):=by show((kN (eF a)).map _).bind _=_;rw[g];show(kN (i9 r)).map _=_;rw[I];rfl
   rw[h] at this;(clear h;obtain rfl:=eX this);exact⟨y,rfl⟩
  show((yU (((d9 (i9 (a::r))).bind kN).map ty) (d9 (ty []))):Option Bool).map _=_;show((yU ((kN (i9 (a::r))).map ty) (d9 (ty []))):Option Bool).map _=_;rw[h,g];show((if _ then _ else _:Option Bool)).map _=_;rw[if_pos (im (WP _ _) (by decide))];rfl
theorem De{l:List (List Int)}(h:F 67=d9 (.c eb (i9 l))):Ev d t F tW (.d (!eU (l=[]))) t:=gG (fg h) rfl (Rn l)
theorem I6{l:List (List Int)}{x:List Int}(h:F 67=d9 (.c eb (i9 (l++[x])))):Ev d t F tW (.d eb) t:=by
 have:=De (d:=d) (t:=t) h;rwa [decide_eq_false (by intro e;exact absurd (congrArg qz e) (by rw[il];exact Kz _))] at this
theorem EG{m:List Nat}{x:Nat}{l:List (List Int)}{y:List Int}(a:d.a=eb)(h:F x=d9 (.c eb (i9 (l++[y]))))(C:y.length=m.length)(j:l.length<100000):
  Ex d t F (.z m x) .a t (fV (eL F x (.c eb (i9 l))) m (eF y)):=by
 have e:i9 (l++[y])=i9 l++[tp y]:=lb;show(jE F x).bind _=_;rw[qr h,e];show((i9 l++[tp y]).getLast?).bind _=_;rw[Wn];show(if _ then _ else _)=_;rw[if_pos ⟨a,by rw[gB];exact C,by rw[il,fC];exact j⟩,Kd]
theorem GO{P:eB->Fr->Bool}{N:List Nat}{B:eB->Fr->Option (Fl×eB×Fr)}{I:Fr->List (List Int)->Prop}{f:List eT->List Int}(S:∀F,P t F=eb):
  ∀(W:List (List eT)) F l,I F l->l.length+W.length≤100000->(∀r∈W,∀F l,I F l->l.length≤100000->∃k,I k (l++[f r])∧B t (fV F N r)=d9 (.a,t,k))->
   ∃k,I k (l++W.map f)∧j7 P N B W t F=d9 (.a,t,k):=by
 intro G
 induction G with
 |nil=>
  intro F l h U U;exact(eu F (by rw[uH,mJ];exact h) (nM (S F)))
 |cons r W D=>
  intro F l h C j;rw[lF] at C;refine eR (j r (gp ..) F l h (by lia)) λK c L=>?_;refine eR (D K _ c (by rw[il];show l.length+1+_≤_;lia) (λx Z=>j x (gC _ Z))) λH a b=>?_;refine(eu H ?_ ((my (S F) L).trans b));rw[ng] at a;exact a
theorem zS{L:iF}{O:Fr}(h:L.d.all (λe=>e.P.isNone)=eb)(F:Fr):lQ L J t O t F=true:=by
 show(pC t t J&&_)=eb;rw[IV,Bool.true_and];refine iC.2 λe n=>?_;have:=iC.1 h e n;unfold mY;cases q:e.P with
 |none=>rfl
 |some i=>rw[q] at this;exact nB this
noncomputable def sz(t:eB)(a m:Int):Int:=if a=0 then(t.a m).d else(t.a m).e
noncomputable def hW(a s:Int)(w:gE):gE:=if a=0 then{ w with d:=s } else{ w with e:=s }
def f8(t:eB)(a:Int)(z:Int->Int):eB:={ t with a:=λm=>hW a (z m) (t.a m) }
theorem nU{a s:Int}{w:gE}:(hW a s w).a=w.a:=by unfold hW;split<;>rfl
theorem mZ{a s:Int}{w:gE}:(hW a s w).b=w.b:=by unfold hW;split<;>rfl
theorem CX{a s:Int}{w:gE}:(hW a s w).c=w.c:=by unfold hW;split<;>rfl
theorem rD{a:Int}{z:Int->Int}{m:Int}:sz (f8 t a z) a m=z m:=by
 show(if a=0 then(hW a (z m) (t.a m)).d else(hW a (z m) (t.a m)).e)=_;unfold hW;by_cases h:a=0
 ·rw[if_pos h,if_pos h]
 ·rw[if_neg h,if_neg h]
theorem SV{a:Int}:f8 t a (sz t a)=t:=by
 have:(λm=>hW a (sz t a m) (t.a m))=t.a:=by
  funext m;unfold hW sz;by_cases h:a=0
  ·rw[if_pos h,if_pos h]
  ·rw[if_neg h,if_neg h]
 show{ t with a:=λm=>hW a (sz t a m) (t.a m) }=t;rw[this]
noncomputable def kP(z:Int->Int)(n s:Int):Int->Int:=λm=>if m=n then s else z m
theorem T4{a s r:Int}{w:gE}:hW a s (hW a r w)=hW a s w:=by unfold hW;by_cases h:a=0<;>simp only[h,if_true,if_false]
theorem SW{a n s:Int}{z:Int->Int}:(f8 t a z).f n (hW a s ((f8 t a z).a n))=f8 t a (kP z n s):=by
 have:(λm=>if m=n then hW a s ((f8 t a z).a n) else(f8 t a z).a m)=λm=>hW a (kP z n s m) (t.a m):=by
  funext m
  unfold kP;by_cases h:m=n
  ·rw[if_pos h,if_pos h,h];exact T4
  ·rw[if_neg h,if_neg h];rfl
 show{ f8 t a z with a:=λm=>if m=n then hW a s ((f8 t a z).a n) else(f8 t a z).a m }=_;rw[this];rfl
theorem Ok.af{a:Int}{z:Int->Int}(h:Ok t T):Ok (f8 t a z) T where
 d n W c k:=h.d n W c (nU▸k)
 k n W c k:=CX.trans (h.k n W c (nU▸k))
 o n W:=by show((hW a (z n) (t.a n)).a).Nodup;rw[nU];exact h.o n W
 f:=h.f
 j:=h.j
 i n W:=by show(hW a (z n) (t.a n)).b=0↔(hW a (z n) (t.a n)).a=[];rw[nU,mZ];exact h.i n W
theorem QS{a b:Int}{z:Int->Int}:∀k n,lf (f8 t a z) b k n=lf t b k n:=by
 intro G
 induction G with
 |zero=>
  intro U;exact rfl
 |succ k D=>
  intro n;show(if(hW a (z n) (t.a n)).b=0 then _ else if fA (hW a (z n) (t.a n)).b=b then(pH _ (hW a (z n) (t.a n)).a).sum else kM (pH _ (hW a (z n) (t.a n)).a))=_;rw[nU,mZ,funext (D)];rfl
theorem qW{a b:Int}{z:Int->Int}{n:Int}:LL (f8 t a z) T b n=LL t T b n:=QS _ _
theorem mH{k:Nat}{n a:Int}:gF Q (k+1) 1023 [.b (.d n),.a a] t=d9 (.a (sz t a n),t):=by
 rw[iB (B:=[50,56]) (b:=sr) (by decide) rfl rfl];by_cases q:a=0
 ·have:f7 (dd Q k) t (fh [50,56] [.b (.d n),.a a]) sr (.b (.a (t.a n).d)) t _:=iq (i7 (lT (decide_eq_true q▸gG rfl rfl rfl) rfl) rfl)
  show gP (sr.c _ _ (fh [50,56] [.b (.d n),.a a]))=_;rw(occs:=eO) [this,sz,if_pos q];rfl
 ·have:f7 (dd Q k) t (fh [50,56] [.b (.d n),.a a]) sr (.b (.a (t.a n).e)) t _:=iq (i7 (lS (decide_eq_false q▸gG rfl rfl rfl) rfl) rfl)
  show gP (sr.c _ _ (fh [50,56] [.b (.d n),.a a]))=_;rw(occs:=eO) [this,sz,if_neg q];rfl
theorem nC{o:eW}{f:Nat}(h:Ev d t F e v E)(g:Ev d E F o u S)(q:Internal.wV S f u v=d9 C):Ex d t F (.d o f e) .a C F:=by
 show(e.q d t F).bind _=_;rw[h];show(o.q d E F).bind _=_;rw[g];show(Internal.wV S f u v).map _=_;rw[q];rfl
theorem CZ{k:Nat}{n a s:Int}:gF Q (k+1) 1024 [.b (.d n),.a a,.a s] t=d9 (.b .e,t.f n (hW a s (t.a n))):=by
 rw[iB (B:=[50,56,57]) (b:=sq) (by decide) rfl rfl];by_cases q:a=0
 ·have:f7 (dd Q k) t (fh [50,56,57] [.b (.d n),.a a,.a s]) sq .a (t.f n { t.a n with d:=s }) _:=eG (jj (decide_eq_true q▸gG rfl rfl rfl) (eG (nC rfl rfl rfl) fp)) fp
  show gP (sq.c _ _ (fh [50,56,57] [.b (.d n),.a a,.a s]))=_;rw(occs:=eO) [this,hW,if_pos q];rfl
 ·have:f7 (dd Q k) t (fh [50,56,57] [.b (.d n),.a a,.a s]) sq .a (t.f n { t.a n with e:=s }) _:=eG (gU (decide_eq_false q▸gG rfl rfl rfl) (eG (nC rfl rfl rfl) fp)) fp
  show gP (sq.c _ _ (fh [50,56,57] [.b (.d n),.a a,.a s]))=_;rw(occs:=eO) [this,hW,if_neg q];rfl
theorem Cy:∀(l:List Int),(∀x∈l,0≤x)->0≤kM l∧∀x∈l,x≤kM l
 |[],_=>⟨ja 0,λU h=>absurd h iI⟩
 |[x],h=>⟨h x (gp ..),λy B=>by rw[gR.1 B];exact ja _⟩
 |x::y::r,h=>by
  have D:=Cy (y::r) λz f=>h z (gC _ f);show 0≤max x (kM (y::r))∧∀z∈x::y::r,z≤max x (kM (y::r));refine⟨by lia,λz f=>?_⟩;rcases gy.1 f with e|f
  ·rw[e];lia
  ·have:=D.2 z f;lia
theorem zx{l:List Int}(h:∀x∈l,0≤x):∀x∈l,x≤l.sum:=by
 induction l with
 |nil=>exactλU h=>absurd h iI
 |cons a r D=>
  intro x Z;have:=h a (gp ..);have R:=λy B=>h y (gC _ B);have:=w5 R;rw[kr];rcases gy.1 Z with e|Z
  ·rw[e];lia
  ·have:=D R x Z;lia
theorem IX{l:List Int}{B:Int}(h:∀x∈l,x≤B):l.sum≤l.length*B:=by
 induction l with
 |nil=>show(0:Int)≤((0:Nat):Int)*B;rw[show((0:Nat):Int)=0 from rfl,V7];exact ja 0
 |cons a r D=>
  have:=h a (gp ..);have:=D λy b=>h y (gC _ b);rw(occs:=eO) [kr,lF,show((r.length+1:Nat):Int)=r.length+1 from rfl,xq,Dy];lia
theorem qV{a n:Int}(h:Sh t T)(W:n∈t.b):0≤LL t T a n:=by
 refine h.M (P:=λn=>0≤LL t T a n) ?_ W;intro n W D;rw[lW h W];have z:∀x∈(t.a n).a.map (LL t T a),0≤x:=by intro x Z;(refine fP Z λc X O=>?_;(clear Z;obtain rfl:=O));exact D c X
 split
 ·unfold ko;split<;>decide
 ·split
  ·exact w5 z
  ·exact(Cy _ z).1
theorem Fo{a n c:Int}(h:Ok t T)(W:n∈t.b)(X:c∈(t.a n).a):LL t T a c≤LL t T a n:=by
 have z:∀x∈(t.a n).a.map (LL t T a),0≤x:=by intro x Z;(refine fP Z λc X m=>?_;(clear Z;obtain rfl:=m));exact qV h.e (h.d n W c X).1
 have Y:LL t T a c∈(t.a n).a.map (LL t T a):=jY X;rw[lW (n:=n) h.e W,if_neg (λq=>by have:=(h.i n W).1 q;rw[this] at X;cases X)]
 split
 ·exact zx z _ Y
 ·exact(Cy _ z).2 _ Y
def sR(t:eB)(b:Int->Nat)(a m s:Int):List (List Int):=
 if(t.a m).b=0 then[] else if fA (t.a m).b=a then((t.a m).a.zip (j' s ((t.a m).a.map λc=>sz t a c-LL t b a c) ((t.a m).a.map (LL t b a)))).map (λp=>[p.1,p.2]) else(t.a m).a.map λc=>[c,s]
structure FS(a:Int)(F:Fr)(l:List (List Int)):Prop where
 d:F 66=d9 (.b .c)
 c:F 56=d9 (.a a)
 f:F 67=d9 (.c eb (i9 l))
structure I5(a m s:Int)(F:Fr)(l:List (List Int)):Prop extends g:FS a F l where
 b:F 68=d9 (.b (.d m))
 e:F 83=d9 (.a s)
noncomputable abbrev Ab:List (Nat×fX):=[(48,ey),(73,ey),(22,eY),(56,gb),(66,gb)]
noncomputable abbrev Ac:List (Nat×fX):=[(48,ey),(73,ey),(80,ey),(56,gb),(66,gb)]
abbrev Gw:eW:=.B (.j 22 (.a (.a 66) (.a (.a 73) (.a (.a 56) .b)))) [73] (.a (.c (.a 68) 3)) .b Ab
abbrev GA:eW:=.B (.p gS (.v (.n (.c (.a 66) 16) (.a 73)) 23 (.a (.a 56) .b)) (.a 80)) [73,80] (.b (.c (.a 68) 3) (.a 76)) .b Ac
noncomputable abbrev yI(j:Nat):Ss:=.a (.m 67 (.A (.a (.a 73) (.a (.a j) .b)))) .b
abbrev S8:js:=.j [73,85] (.b (.c (.a 68) 3) (.j 23 (.a (.a 83) (.a (.a 84) (.a (.a 76) .b))))) (yI 85)
abbrev S9:js:=.j [73] (.a (.c (.a 68) 3)) (yI 83)
abbrev Iw:js:=.c (.h gd (.c (.a 68) 1) (.w 10)) (.a (.c (.h fZ (.j 15 (.a (.c (.a 68) 1) .b)) (.a 56)) (.a (.a 76 Gw) (.a (.a 84 GA) (.a S8 .b))) (.a S9 .b)) .b) .b
abbrev FN:Ss:=.a (.z [72,83] 67) (.a (.a 68 (.n (.c (.a 66) 16) (.a 72))) (.a Iw (.a (.h (.v (.a 68) 24 (.a (.a 56) (.a (.a 83) .b)))) .b)))
theorem Dg{l:List (List Int)}{y:List Int}:i9 l++[tp y]=i9 (l++[y]):=by rw(occs:=eO) [i9,i9,lb];rfl
theorem QK{a m s:Int}{l:List (List Int)}{k:Nat}(h:Ok t T)(Y:m∈t.b)(f:I5 a m s F l):Ev (dd eb (k+2)) t F Gw (.c eb (eF ((t.a m).a.map (LL t T a)))) t:=by
 have E:=lx h.l Y;have:=h.j;have:=pT (d:=dd eb (k+2)) (t:=t) (F:=F) (T:=.j 22 (.a (.a 66) (.a (.a 73) (.a (.a 56) .b)))) (N:=[73]) (L:=.a (.c (.a 68) 3)) (Y:=Ab) (W:=(eF (t.a m).a).map λx=>[x])
  (r1 .e λc=>.a (LL t T a c)) (lK (gv (fg f.b) rfl)) (kO jK) (by rw[fC,gB];lia) ?_
 ·rw(occs:=eO) [gJ,gJ] at this;rw(occs:=eO) [eF,gJ];exact this
 ·intro r R
  (refine fP R λy B X=>?_;(clear R;obtain rfl:=X))
  (refine fP B λc b M=>?_;obtain rfl:=M)
  have J:iS Ab F [73] [.a c] 66=d9 (.b .c):=congrArg (kF eD.e) f.d;have U:iS Ab F [73] [.a c] 56=d9 (.a a):=congrArg (kF eD.e) f.c;exact gI (eV (fg J) (eV (fg (v:=.a c) rfl) (eV (fg U) fJ))) (zr h (h.d m Y c b).1)
theorem Ao{L j:Type}{l:List L}{f:L->j}:l.zip (l.map f)=l.map λc=>(c,f c):=by
 induction l with
 |nil=>rfl
 |cons a r D=>rw[gj,xy,D];rfl
theorem Uo{a m s:Int}{l:List (List Int)}{k:Nat}(h:Ok t T)(Y:m∈t.b)(f:I5 a m s F l)(Z:F 76=d9 (.c eb (eF ((t.a m).a.map (LL t T a))))):
  Ev (dd eb (k+2)) t F GA (.c eb (eF ((t.a m).a.map λc=>sz t a c-LL t T a c))) t:=by
 have E:=lx h.l Y;have:=h.j;have:=pT (d:=dd eb (k+2)) (t:=t) (F:=F) (T:=.p gS (.v (.n (.c (.a 66) 16) (.a 73)) 23 (.a (.a 56) .b)) (.a 80)) (N:=[73,80]) (L:=.b (.c (.a 68) 3) (.a 76)) (Y:=Ac) (W:=((eF (t.a m).a).zip (eF ((t.a m).a.map (LL t T a)))).map λp=>[p.1,p.2])
  (r2 .e λc x=>.a (sz t a c-x)) (yh rfl (gv (fg f.b) rfl) (fg Z)) (zM jK rfl (by rw[gB,gB,fC])) (by rw[fC,kZ,gB];lia) ?_
 ·rw(occs:=eO) [pF,Ao,gJ,gJ,gJ] at this;rw(occs:=eO) [eF,gJ];exact this
 ·intro r R
  rw[pF,Ao,gJ,gJ] at R
  (refine fP R λc X P=>?_;(clear R;obtain rfl:=P))
  have J:iS Ac F [73,80] [.a c,.a (LL t T a c)] 66=d9 (.b .c):=congrArg (kF eD.e) f.d;have U:iS Ac F [73,80] [.a c,.a (LL t T a c)] 56=d9 (.a a):=congrArg (kF eD.e) f.c;exact hZ (iL (iG h.f J (fg (v:=.a c) rfl) (h.d m Y c X).1) (eV (fg U) fJ) rfl mH) (fg (v:=.a (LL t T a c)) rfl) rfl
theorem Ux{a m s:Int}{l:List (List Int)}{k:Nat}(h:Ok t T)(Y:m∈t.b)(f:I5 a m s F l)(C:l.length≤1000)(w:LL t T a m≤s)(S:s≤8000)(n:∀c∈(t.a m).a,LL t T a c≤sz t a c∧sz t a c≤8000):
  ∃A,I5 a m s A (l++sR t T a m s)∧Ex (dd eb (k+2)) t F Iw .a t A:=by
 have E:=lx h.l Y;have:=h.j;have j:=qV (a:=a) h.e Y;have O:Ev (dd eb (k+2)) t F (.h gd (.c (.a 68) 1) (.w 10)) (.d (!eU ((t.a m).b=0))) t:=gG (gv (fg f.b) rfl) rfl rfl;have i:(t.a m).b=0->Ev (dd eb (k+2)) t F (.h gd (.c (.a 68) 1) (.w 10)) (.d em) t:=λq=>by rw[decide_eq_true q] at O;exact O
 have J:¬(t.a m).b=0->Ev (dd eb (k+2)) t F (.h gd (.c (.a 68) 1) (.w 10)) (.d eb) t:=λq=>by rw[decide_eq_false q] at O;exact O
 have e:=lW (a:=a) h.e Y;by_cases q:(t.a m).b=0
 ·refine(eu F ?_ (gU (i q) fp))
  rw(occs:=eO) [sR,if_pos q,mJ];exact f
 ·have G:(t.a m).a≠[]:=λr=>q ((h.i m Y).2 r)
  rw[if_neg q] at e;by_cases o:fA (t.a m).b=a
  ·rw[if_pos o] at e
   have D:=QK (k:=k) h Y f;have V:=Uo (k:=k) (F:=eL F 76 (.c eb (eF ((t.a m).a.map (LL t T a))))) h Y ⟨⟨f.d,f.c,f.f⟩,f.b,f.e⟩ rfl;have z:=C6 (m:=s) (W:=(t.a m).a.map λc=>sz t a c-LL t T a c) (M:=(t.a m).a.map (LL t T a)) (by rw[fC,fC]);rw[fC] at z;have K:∀x∈(t.a m).a.map (λc=>sz t a c-LL t T a c),0≤x∧x≤8000:=by
    intro x Z;(refine fP Z λc X B=>?_;(clear Z;obtain rfl:=B));have:=n c X;have:=qV (a:=a) h.e (h.d m Y c X).1;lia
   have v:=IX λx Z=>(K x Z).2;have Q:=w5 λx Z=>(K x Z).1;rw[fC] at v;have u:=Uc (t:=t) (k:=k+1) (a:=s) (W:=(t.a m).a.map λc=>sz t a c-LL t T a c) (M:=(t.a m).a.map (LL t T a)) (by rw[fC,fC]) (by rw[fC];lia)
    (λr=>G (nj.1 r)) (by rw[←e];unfold iZ;lia) (by unfold iZ;lia) (λx Z=>by have:=K x Z;unfold iZ;lia)
   obtain⟨A,L,g⟩ :=GO (t:=t) (P:=lQ (.b (.c (.a 68) 3) (.j 23 (.a (.a 83) (.a (.a 84) (.a (.a 76) .b))))) [.f m t.h,.c eb (eF (j' s ((t.a m).a.map λc=>sz t a c-LL t T a c) ((t.a m).a.map (LL t T a))))] t
     (eL (eL F 76 (.c eb (eF ((t.a m).a.map (LL t T a))))) 84 (.c eb (eF ((t.a m).a.map λc=>sz t a c-LL t T a c)))))
    (N:=[73,85]) (B:=λt F=>(yI 85).c (dd eb (k+2)) t F) (I:=I5 a m s) (f:=r2 [] λc p=>[c,p]) (zS rfl)
    (((eF (t.a m).a).zip (eF (j' s ((t.a m).a.map λc=>sz t a c-LL t T a c) ((t.a m).a.map (LL t T a))))).map λp=>[p.1,p.2])
    (eL (eL F 76 (.c eb (eF ((t.a m).a.map (LL t T a))))) 84 (.c eb (eF ((t.a m).a.map λc=>sz t a c-LL t T a c)))) l ⟨⟨f.d,f.c,f.f⟩,f.b,f.e⟩
    (by rw[fC,kZ,gB];lia)
    (λr R F l f C=>by
     rw[pF,gJ] at R
     (refine CC R λc p U b=>?_;(clear R;obtain rfl:=b))
     exact(eu (eL (fV F [73,85] [.a c,.a p]) 67 (.c eb (i9 (l++[[c,p]])))) ⟨⟨f.d,f.c,rfl⟩,f.b,f.e⟩ (Dg▸eG (qM (y:=tp [c,p]) (kg (eV (fg (v:=.a c) rfl) (eV (fg (v:=.a p) rfl) fJ)) rfl (iO rfl)) f.f (by rw[fC];exact C)) fp)))
   refine(eu A ?_ (jj (J q) (eG (jj (decide_eq_true o▸yE f.b f.c) (eG (fO D rfl) (eG (fO V rfl) (eG (mO (yh rfl (gv (fg f.b) rfl)
    (gI (eV (fg f.e) (eV (fg rfl) (eV (fg rfl) fJ))) u)) (zM jK rfl (by rw[gB,gB,z])) rfl rfl g) fp)))) fp)))
   rw[pF,gJ,gJ] at L;rw(occs:=eO) [sR,if_neg q,if_pos o];exact L
  ·obtain⟨A,L,g⟩ :=GO (t:=t) (P:=lQ (.a (.c (.a 68) 3)) [.f m t.h] t F)
    (N:=[73]) (B:=λt F=>(yI 83).c (dd eb (k+2)) t F) (I:=I5 a m s) (f:=r1 [] λc=>[c,s]) (zS rfl)
    ((eF (t.a m).a).map λx=>[x]) F l f (by rw[fC,gB];lia)
    (λr R F l f C=>by
     rw[gJ] at R
     (refine fP R λc U d=>?_;(clear R;obtain rfl:=d))
     exact(eu (eL (fV F [73] [.a c]) 67 (.c eb (i9 (l++[[c,s]])))) ⟨⟨f.d,f.c,rfl⟩,f.b,f.e⟩ (Dg▸eG (qM (y:=tp [c,s]) (kg (eV (fg (v:=.a c) rfl) (eV (fg (v:=.a s) f.e) fJ)) rfl (iO rfl)) f.f (by rw[fC];exact C)) fp)))
   refine(eu A ?_ (jj (J q) (eG (gU (decide_eq_false o▸yE f.b f.c) (eG (mO (lK (gv (fg f.b) rfl)) (kO jK) rfl rfl g) fp)) fp)));rw[gJ,gJ] at L;rw(occs:=eO) [sR,if_neg q,if_neg o];exact L
theorem Uy{a m s:Int}{l:List (List Int)}{k:Nat}(h:Ok t T)(Y:m∈t.b)(f:FS a F (l++[[m,s]]))(C:l.length≤1000)(w:LL t T a m≤s)(S:s≤8000)(b:∀c∈(t.a m).a,LL t T a c≤sz t a c∧sz t a c≤8000):
  ∃A,FS a A (l++sR t T a m s)∧FN.c (dd eb (k+2)) t F=d9 (.a,t.f m (hW a s (t.a m)),A):=by
 refine eR (Ux (k:=k) (F:=eL (fV (eL F 67 (.c eb (i9 l))) [72,83] [.a m,.a s]) 68 (.b (.d m))) (l:=l) h Y ⟨⟨f.d,f.c,rfl⟩,rfl,rfl⟩ C w S b) λA L g=>?_;exact(eu A L.g (eG (EG rfl f.f rfl (by lia)) (eG (fO (iG h.f f.d (fg (v:=.a m) rfl) Y) rfl) (eG g (eG (j0 (iL (fg L.b) (eV (fg L.c) (eV (fg L.e) fJ)) rfl CZ)) fp)))))
def Dn(t:eB)(b:Int->Nat)(a:Int)(z V:Int->Int)(x:Int):Prop:=(t.a x).b≠0->
 if fA (t.a x).b=a then(t.a x).a.map V=j' (V x) ((t.a x).a.map λc=>z c-LL t b a c) ((t.a x).a.map (LL t b a)) else∀c∈(t.a x).a,V c=V x
theorem Dn.h{z V y Z:Int->Int}{x:Int}(b:Dn t T a z V x)(K:∀c∈(t.a x).a,y c=z c)(I:∀c∈(t.a x).a,Z c=V c)(g:Z x=V x):Dn t T a y Z x:=by
 intro S;have:=b S;by_cases q:fA (t.a x).b=a
 ·rw[if_pos q] at this ⊢
  rw[kf I,this,g,kf (f:=λc=>y c-LL t T a c) (g:=λc=>z c-LL t T a c) λc X=>by rw[K c X]]
 ·rw[if_neg q] at this ⊢
  intro c X;rw[I c X,this c X,g]
abbrev uz(k N:Nat)(t:eB)(F:Fr):=mi (λt F=>tW.q (dd eb (k+2)) t F) (λt F=>FN.c (dd eb (k+2)) t F) N t F
structure yx(t:eB)(rk:Int->Nat)(a S:Int)(z z':Int->Int)(l:List Int):Prop where
 b:∀x,(∀c∈l,x∉PP t rk c)->z' x=z x
 d:∀c∈l,∀x∈PP t rk c,LL t rk a x≤z' x∧z' x≤S∧Dn t rk a z z' x
theorem zv(l:List Int):l.length≤(l.flatMap (PP t T)).length:=by
 induction l with
 |nil=>exact ig _
 |cons c r D=>have:=Fu t T c;rw[kY,il,lF];lia
theorem Qw{b s:Int}{z:Int->Int}(h:Ok t T)(Y:b∈t.b)(w:LL t T a b≤s)(f:∀c∈(t.a b).a,LL t T a c≤z c):
  ∃q:List (Int×Int),sR (f8 t a z) T a b s=q.map (λp=>[p.1,p.2])∧q.map kG=(t.a b).a∧(∀p∈q,LL t T a p.1≤p.2∧p.2≤s)∧
   ((t.a b).b≠0->if fA (t.a b).b=a then q.map DY=j' s ((t.a b).a.map λc=>z c-LL t T a c) ((t.a b).a.map (LL t T a)) else∀p∈q,p.2=s):=by
 unfold sR;have O:((f8 t a z).a b).a=(t.a b).a:=nU;have m:((f8 t a z).a b).b=(t.a b).b:=mZ;rw[O,m];have e:=lW (a:=a) h.e Y;by_cases q:(t.a b).b=0
 ·rw[if_pos q]
  refine(lO ([]) rfl (by rw[(h.i b Y).1 q];rfl) (λU h=>absurd h iI) (λr=>absurd q r))
 ·have G:(t.a b).a≠[]:=λr=>q ((h.i b Y).2 r)
  rw[if_neg q] at e ⊢;by_cases o:fA (t.a b).b=a
  ·rw[if_pos o] at e ⊢
   have j:((t.a b).a.map λc=>sz (f8 t a z) a c-LL (f8 t a z) T a c)=(t.a b).a.map λc=>z c-LL t T a c:=kf λc U=>by rw[rD,qW]
   have C:(t.a b).a.map (LL (f8 t a z) T a)=(t.a b).a.map (LL t T a):=kf λc U=>qW;rw[j,C];have D:((t.a b).a.map λc=>z c-LL t T a c).length=((t.a b).a.map (LL t T a)).length:=by rw[fC,fC]
   have K:∀x∈(t.a b).a.map (λc=>z c-LL t T a c),0≤x:=by
    intro x Z;(refine fP Z λc g O=>?_;(clear Z;obtain rfl:=O));have:=f c g;omega
   have I:(t.a b).a.map (LL t T a)≠[]:=λr=>G (nj.1 r);have W:=Ub (m:=s) D K I (by omega);have k:=C7 (m:=s) D K I (by omega);have P:=C6 (m:=s) D;rw[fC] at P;have d:∀x∈j' s ((t.a b).a.map λc=>z c-LL t T a c) ((t.a b).a.map (LL t T a)),0≤x:=by
    intro x Z;obtain⟨i,R,rfl⟩ :=Ko.1 Z;have M:i<(t.a b).a.length:=by rw[←P];exact R
    have L:i<((t.a b).a.map (LL t T a)).length:=by rw[fC];exact M
    have f:i<(((t.a b).a.map (LL t T a)).zip (j' s ((t.a b).a.map λc=>z c-LL t T a c) ((t.a b).a.map (LL t T a)))).length:=by rw[kZ];omega
    have:=W _ (uG f);rw[DH] at this;have y:0≤((t.a b).a.map (LL t T a))[i]:=by rw[Wm];exact qV h.e (h.d b Y _ (uG M)).1
    exact jX y this
   refine(lO ((t.a b).a.zip (j' s ((t.a b).a.map λc=>z c-LL t T a c) ((t.a b).a.map (LL t T a)))) rfl (DP (by omega)) ?_ (λU=>by rw[if_pos o];exact List.map_snd_zip (by omega)));intro p J;obtain⟨i,R,rfl⟩ :=Ko.1 J;rw[kZ] at R;have M:i<(t.a b).a.length:=by omega
   have L:i<((t.a b).a.map (LL t T a)).length:=by rw[fC];exact M
   have f:i<(((t.a b).a.map (LL t T a)).zip (j' s ((t.a b).a.map λc=>z c-LL t T a c) ((t.a b).a.map (LL t T a)))).length:=by rw[kZ];omega
   have:=W _ (uG f);rw[DH,Wm] at this;rw[DH];have F:=zx d _ (uG (n:=i) (by omega));rw[k] at F;exact⟨this,F⟩
  ·rw[if_neg o]
   refine(lO ((t.a b).a.map λc=>(c,s)) (by rw[gJ];rfl) (by rw[gJ];exact Km _) ?_ (λU=>by rw[if_neg o];intro p J;(refine fP J λc U m=>?_;(clear J;obtain rfl:=m));rfl));intro p J
   (refine fP J λc g X=>?_;(clear J;obtain rfl:=X))
   have:=Fo (a:=a) h Y g;exact⟨jX this w,ja _⟩
theorem Uz(h:Ok t T){k:Nat}{n:Int}(W:n∈t.b):∀(s:Int) (N:Nat) (z:Int->Int) F l,FS a F (l++[[n,s]])->l.length+(PP t T n).length≤1000->LL t T a n≤s->s≤8000->(∀x∈PP t T n,LL t T a x≤z x∧z x≤8000)->
  ∃V A,FS a A l∧V n=s∧yx t T a s z V [n]∧uz k (N+(PP t T n).length) (f8 t a z) F=uz k N (f8 t a V) A:=by
 refine h.e.M (P:=λn=>∀(s:Int) (N:Nat) (z:Int->Int) F l,FS a F (l++[[n,s]])->l.length+(PP t T n).length≤1000->LL t T a n≤s->s≤8000->(∀x∈PP t T n,LL t T a x≤z x∧z x≤8000)->
  ∃V A,FS a A l∧V n=s∧yx t T a s z V [n]∧uz k (N+(PP t T n).length) (f8 t a z) F=uz k N (f8 t a V) A) ?_ W
 intro n W D s N z F l f C w S hz;have e:PP t T n=_:=lw h.e W;have M:(PP t T n).length=((t.a n).a.flatMap (PP t T)).length+1:=by rw[e];rfl
 have l0:=zv (t:=t) (T:=T) (t.a n).a;have hk:∀c∈(t.a n).a,c∈PP t T n:=λc X=>by rw[e];exact gC _ (qB.2 (eu c X (lX h.e (h.d n W c X).1)))
 refine eR (Uy (k:=k) (t:=f8 t a z) h.af W f (by lia) (by rw[qW];exact w) S (λc X=>by rw[qW,rD];exact hz c (hk c (nU▸X)))) λK Y L=>?_;rw[SW] at L;refine nR (Qw (z:=z) h W w (λc X=>(hz c (hk c X)).1)) λq q1 o q3 q4=>?_;rw[q1] at Y
 --aq au,aq av aw first
 have aj:∀(r:List (Int×Int)),(r.map kG).Nodup->(∀p∈r,p.1∈(t.a n).a∧LL t T a p.1≤p.2∧p.2≤s)->∀(N:Nat) (z:Int->Int) F l,FS a F (l++(r.map λp=>[p.1,p.2]).reverse)->l.length+((r.map kG).flatMap (PP t T)).length≤1000->
   (∀p∈r,∀x∈PP t T p.1,LL t T a x≤z x∧z x≤8000)->
   ∃V A,FS a A l∧(∀p∈r,V p.1=p.2)∧yx t T a s z V (r.map kG)∧uz k (N+((r.map kG).flatMap (PP t T)).length) (f8 t a z) F=uz k N (f8 t a V) A:=by
  intro r
  induction r with
  |nil=>intro _ _ N z F l f _ _;exact(kK z F (by rw[uH,DT,mJ] at f;exact f) (λU h=>absurd h iI) ⟨λU U=>rfl,λU h=>absurd h iI⟩ rfl)
  |cons p r Q=>
   intro E J N z F l f C hz;rw[gj,kE] at E;refine gY (J p (gp ..)) λi p1 p2=>?_;rw[gj,n9,←ng] at f;rw[gj,kY,il] at C ⊢;have:=zv (t:=t) (T:=T) (r.map kG);rw[fC] at this;have ag:∀v∈r,∀x,x∈PP t T p.1->x∉PP t T v.1:=λv R=>yz h.l W i (J v (gC _ R)).1 (λe=>E.1 (e▸jY R));refine jD (D p.1 i p.2 (N+((r.map kG).flatMap (PP t T)).length) z F (l++(r.map λp=>[p.1,p.2]).reverse) f (by rw[il,n6,fC];lia) p1 (by lia) (hz p (gp ..))) λB K Y O o1 L=>?_;have ak:∀v∈r,∀x∈PP t T v.1,B x=z x:=λv R x Z=>o1.b x λc X=>by
    rw[gR.1 X];exactλaf=>ag v R x af Z
   refine jD (Q E.2 (λv R=>J v (gC _ R)) N B K l Y (by lia) (λv R x Z=>by rw[ak v R x Z];exact hz v (gC _ R) x Z)) λP H j m u g2=>?_;have aa:∀x∈PP t T p.1,P x=B x:=λx Z=>u.b x λc X=>by
    (refine fP X λv R e4=>?_;(clear X;obtain rfl:=e4));exact ag v R x Z
   refine(kK P H j ?_ ⟨?_,?_⟩ ?_)
   ·intro v R
    rcases gy.1 R with e|R
    ·rw[e,aa _ (lX h.e (h.d n W _ i).1),O]
    ·exact m v R
   ·intro x Z
    rw[u.b x λc X=>Z c (gC _ X),o1.b x λc X=>Z c (by rw[gR.1 X];exact gp ..)]
   ·intro c X x Z
    rcases gy.1 X with e|X
    ·clear X
     subst e;refine gY (o1.d p.1 (gp ..) x Z) λd y b3=>?_;have G:=λc X=>pY h.e (h.d n W _ i).1 Z (c:=c) X;rw[aa x Z];exact⟨d,by lia,b3.h (λU U=>rfl) (λc X=>aa c (G c X)) (aa x Z)⟩
    ·refine gY (u.d c X x Z) λd y b3=>?_
     (refine fP X λv R e5=>?_;(clear X;clear X;obtain rfl:=e5))
     have G:=λc X=>pY h.e (h.d n W _ (J v (gC _ R)).1).1 Z (c:=c) X;exact⟨d,y,b3.h (λc X=>(ak v R c (G c X)).symm) (λU U=>rfl) rfl⟩
   ·rw(occs:=eO) [Kv (PP t T p.1).length,←xz];exact L.trans g2
 have g:q.reverse.map kG=(t.a n).a.reverse:=by rw[nq,o]
 have ac:((t.a n).a.reverse.flatMap (PP t T)).length=((t.a n).a.flatMap (PP t T)).length:=by
  have:∀l:List Int,(l.reverse.flatMap (PP t T)).length=(l.flatMap (PP t T)).length:=by
   intro l;induction l with
   |nil=>rfl
   |cons c r D=>rw[n9,Wk,il,D,kY,il,kY,DF,il];show _+(_+0)=_;lia
  exact this _
 have b:∀c∈(t.a n).a,n∉PP t T c:=λc X hm=>by
  have:=(h.d n W c X).2;rcases tX h.e (h.d n W c X).1 _ hm with e|q
  ·rw[e] at this;exact absurd this (lg _)
  ·lia
 refine jD (aj q.reverse (by rw[g];exact(WA _).nodup_iff.2 (h.o n W)) (λp J=>by
   have J:=lH.1 J;exact⟨o▸jY J,q3 p J⟩) N (kP z n s) K l (by rw[nq,WB];exact Y) (by rw[g,ac];lia) (λp J x Z=>by
   have i:p.1∈(t.a n).a:=o▸jY (lH.1 J);have:x≠n:=λe=>b p.1 i (e▸Z);rw(occs:=eO) [kP,if_neg this];exact hz x (by rw[e];exact gC _ (qB.2 (eu _ i Z))))) λP H j m u g2=>?_
 rw[g] at u g2;rw[ac] at g2;have I:P n=s:=by
  rw[u.b n λc X=>b c (lH.1 X)];exact if_pos rfl
 have ek:∀c∈(t.a n).a,c≠n:=λc X e=>b c X (e▸lX h.e (h.d n W c X).1);refine(kK P H j I ⟨?_,?_⟩ ?_)
 ·intro x Z
  have Z:=Z n (gp ..);rw[e] at Z;rw[u.b x λc X af=>Z (gC _ (qB.2 (eu c (lH.1 X) af)))];exact if_neg (show x≠n fromλe=>Z (e▸gp ..))
 ·intro c X x Z
  rw[gR.1 X,e] at Z;rcases gy.1 Z with e|Z
  ·clear W D f C hz M l0 hk L q1 aj g ac b u g2 ek X Z
   subst e;refine⟨by rw[I];exact w,by rw[I];exact ja _,λS=>?_⟩;have:=q4 S;by_cases c:fA (t.a x).b=a
   ·rw[if_pos c] at this ⊢
    rw[I,←this,←o,gJ];exact kf λp J=>m p (lH.2 J)
   ·rw[if_neg c] at this ⊢
    intro c X;rw[←o] at X
    (refine fP X λp J e6=>?_;(clear X;obtain rfl:=e6))
    rw[m p (lH.2 J),this p J,I]
  ·refine ry Z λc' ae Z=>?_
   refine gY (u.d c' (lH.2 ae) x Z) λd y b3=>?_;exact⟨d,y,b3.h (λc X=>(if_neg (show c≠n fromλe=>b c' ae (e▸pY h.e (h.d n W _ ae).1 Z X))).symm) (λU U=>rfl) rfl⟩
 ·rw(occs:=eO) [M,←xz]
  exact(Dm (I6 f.f) L).trans g2
theorem IG(h:Ok t T){n s:Int}(W:n∈t.b)(w:LL t T a n≤s)(S:s≤8000)(b:∀x∈PP t T n,LL t T a x≤sz t a x∧sz t a x≤8000){k:Nat}:
  ∃V,gF eb (k+3) 24 [.b .c,.a n,.a a,.a s] t=d9 (.b .e,f8 t a V)∧V n=s∧yx t T a s (sz t a) V [n]:=by
 have C:=oU h.l W;have:=h.j;rw[iB (B:=[66,53,56,57]) (b:=vO) (by decide) rfl rfl];obtain⟨N,j⟩ :∃N,10000=(N+1)+(PP t T n).length:=⟨9999-(PP t T n).length,by lia⟩;refine jD (Uz (k:=k) h W s (N+1) (sz t a) (eL (fh [66,53,56,57] [.b .c,.a n,.a a,.a s]) 67 (.c eb (i9 [[n,s]]))) [] ⟨rfl,rfl,rfl⟩ (by show 0+_≤_;lia) w S b) λV A f I o g=>?_;rw[SV,←j] at g;have g:=g.trans (Dl (De (l:=[]) f.f));have:f7 (dd eb (k+2)) t (fh [66,53,56,57] [.b .c,.a n,.a a,.a s]) vO .a (f8 t a V) A:=
  eG (fO (qL (eV (v:=.b (tp [n,s])) (kg (eV (fg (v:=.a n) rfl) (eV (fg (v:=.a s) rfl) fJ)) rfl (iO rfl)) fJ) rfl (iO rfl)) rfl) (eG g fp)
 refine(fQ V ?_ I o);show gP (vO.c _ _ (fh [66,53,56,57] [.b .c,.a n,.a a,.a s]))=_;rw[this];rfl
theorem u6{i:Nat}{B:List Nat}{as:List eT}{n:Int}(y:d.a=eb)(h:Ev d t F e (.b (.f as)) E)(g:F i=d9 (.b (.d n)))(q:rB E n B as=d9 S):Ex d t F (.s i B e) .a S F:=by
 show(e.q d t F).bind _=_;rw[h];show(qx F i).bind _=_;rw[show qx F i=d9 n by unfold qx;rw[g];rfl];show(if _ then _ else _)=_;rw[if_pos y,q];rfl
noncomputable def gz(t:eB)(P:Int->Int×Int):eB:={ t with a:=λm=>{ t.a m with g:=(P m).1,h:=(P m).2 } }
noncomputable def xf(P:Int->Int×Int)(n:Int)(l:Int×Int):Int->Int×Int:=λm=>if m=n then l else P m
theorem SU{P:Int->Int×Int}{n:Int}{l:Int×Int}:(gz t P).f n { (gz t P).a n with g:=l.1,h:=l.2 }=gz t (xf P n l):=by
 have:(λm=>if m=n then{ (gz t P).a n with g:=l.1,h:=l.2 } else(gz t P).a m)=λm=>{ t.a m with g:=(xf P n l m).1,h:=(xf P n l m).2 }:=by
  funext m
  unfold xf;by_cases h:m=n
  ·rw[if_pos h,if_pos h,h];rfl
  ·rw[if_neg h,if_neg h];rfl
 show{ gz t P with a:=λm=>if m=n then{ (gz t P).a n with g:=l.1,h:=l.2 } else(gz t P).a m }=_;rw[this];rfl
theorem ST:gz t (λf=>((t.a f).g,(t.a f).h))=t:=rfl
theorem Ok.ab{P:Int->Int×Int}(h:Ok t T):Ok (gz t P) T:=⟨⟨⟨h.d⟩,h.k,h.o⟩,h.f,h.j,h.i⟩
def nW(t:eB)(s:Int)(l:Int×Int)(c:Int):Int×Int:=if fA s=0 then(l.1+(t.a c).d,l.2) else(l.1,l.2+(t.a c).e)
noncomputable def l6(t:eB)(s:Int):Int×Int->List Int->List (Int×Int×Int)
 |_,[]=>[]
 |l,c::r=>(c,l)::l6 t s (nW t s l c) r
noncomputable abbrev wk(p:Int×Int×Int):List Int:=[p.1,p.2.1,p.2.2]
theorem Cn{s:Int}:∀(l:Int×Int) (W:List Int),(l6 t s l W).map kG=W
 |_,[]=>rfl
 |l,c::r=>by show c::_=_;rw[Cn _ r]
structure oV(F:Fr)(l:List (List Int)):Prop where
 a:F 66=d9 (.b .c)
 b:F 67=d9 (.c eb (i9 l))
structure vm(m:Int)(l2:Int×Int)(F:Fr)(l:List (List Int)):Prop extends f:oV F l where
 c:F 68=d9 (.b (.d m))
 d:F 86=d9 (.a l2.1)
 e:F 87=d9 (.a l2.2)
noncomputable abbrev BN:Ss:=.a (.m 67 (.A (.a (.a 73) (.a (.a 86) (.a (.a 87) .b))))) (.a (.c (.h fZ (.j 15 (.a (.c (.a 68) 1) .b)) (.w 13)) (.a (.a 86 (.p io (.a 86) (.c (.n (.c (.a 66) 16) (.a 73)) 6))) .b) (.a (.a 87 (.p io (.a 87) (.c (.n (.c (.a 66) 16) (.a 73)) 7))) .b)) .b)
abbrev FM:Ss:=.a (.z [53,86,87] 67) (.a (.a 68 (.n (.c (.a 66) 16) (.a 53))) (.a (.s 68 [4,5] (.A (.a (.a 86) (.a (.a 87) .b)))) (.a (.j [73] (.a (.c (.a 68) 3)) BN) .b)))
theorem Qt{m c:Int}{V:Int×Int}{l:List (List Int)}{k:Nat}(N:t.g=7)(X:c∈t.b)(f:vm m V F l)(C:l.length≤100000):
  ∃A,vm m (nW t (t.a m).b V c) A (l++[[c,V.1,V.2]])∧BN.c (dd eb (k+1)) t (fV F [73] [.a c])=d9 (.a,t,A):=by
 have R:Ex (dd eb (k+1)) t (fV F [73] [.a c]) (.m 67 (.A (.a (.a 73) (.a (.a 86) (.a (.a 87) .b))))) .a t (eL (fV F [73] [.a c]) 67 (.c eb (i9 (l++[[c,V.1,V.2]])))):=
  Dg▸qM (y:=tp [c,V.1,V.2]) (kg (eV (fg (v:=.a c) rfl) (eV (fg (v:=.a V.1) f.d) (eV (fg (v:=.a V.2) f.e) fJ))) rfl (iO rfl)) f.b (by rw[fC];exact C)
 have O:Ev (dd eb (k+1)) t (eL (fV F [73] [.a c]) 67 (.c eb (i9 (l++[[c,V.1,V.2]])))) (.h fZ (.j 15 (.a (.c (.a 68) 1) .b)) (.w 13)) (.d (eU (fA (t.a m).b=0))) t:=
  gG (gI (eV (gv (fg f.c) rfl) fJ) t8) rfl rfl
 by_cases q:fA (t.a m).b=0
 ·rw(occs:=eO) [decide_eq_true q] at O
  refine(eu _ ?_ (eG R (eG (jj O (eG (fO (v:=.a (V.1+(t.a c).d)) (hZ (fg f.d) (gv (iG N f.a (fg (v:=.a c) rfl) X) rfl) rfl) rfl) fp)) fp)));rw(occs:=eO) [nW,if_pos q];exact⟨⟨f.a,rfl⟩,f.c,rfl,f.e⟩
 ·rw(occs:=eO) [decide_eq_false q] at O
  refine(eu _ ?_ (eG R (eG (gU O (eG (fO (v:=.a (V.2+(t.a c).e)) (hZ (fg f.e) (gv (iG N f.a (fg (v:=.a c) rfl) X) rfl) rfl) rfl) fp)) fp)));rw(occs:=eO) [nW,if_neg q];exact⟨⟨f.a,rfl⟩,f.c,f.d,rfl⟩
theorem Qx{m:Int}{k:Nat}{P:eB->Fr->Bool}(N:t.g=7)(S:∀F,P t F=eb):∀(W:List Int) (h:Int×Int) F l,(∀c∈W,c∈t.b)->vm m h F l->l.length+W.length≤100000->
  ∃A l3,vm m l3 A (l++(l6 t (t.a m).b h W).map wk)∧j7 P [73] (λt F=>BN.c (dd eb (k+1)) t F) ((eF W).map λx=>[x]) t F=d9 (.a,t,A):=by
 intro G
 induction G with
 |nil=>
  intro h F l U f U;exact(ib F h (by show vm m h F (l++[]);rw[mJ];exact f) (nM (S F)))
 |cons c r D=>
  intro h F l M f C;rw[lF] at C;refine eR (Qt (k:=k) N (M c (gp ..)) f (by lia)) λK Y L=>?_;refine iH (D _ K _ (λx Z=>M x (gC _ Z)) Y (by rw[il];show l.length+1+_≤_;lia)) λH l3 j a=>?_;refine(ib H l3 ?_ ((my (S F) L).trans a));rw[ng] at j;exact j
theorem Ul{m:Int}{V:Int×Int}{l:List (List Int)}{k:Nat}(h:Ok t T)(Y:m∈t.b)(f:oV F (l++[[m,V.1,V.2]]))(C:l.length≤1000):
  ∃A,oV A (l++(l6 t (t.a m).b V (t.a m).a).map wk)∧FM.c (dd eb (k+1)) t F=d9 (.a,t.f m { t.a m with g:=V.1,h:=V.2 },A):=by
 have d:=lx h.l Y;have:=h.j;let E:=t.f m { t.a m with g:=V.1,h:=V.2 };have a:∀x,(E.a x).a=(t.a x).a∧(E.a x).b=(t.a x).b∧(E.a x).d=(t.a x).d∧(E.a x).e=(t.a x).e:=by
  intro x;show((if x=m then _ else _:gE).a)=_∧((if x=m then _ else _:gE).b)=_∧((if x=m then _ else _:gE).d)=_∧((if x=m then _ else _:gE).e)=_;by_cases e:x=m
  ·rw[if_pos e,e];exact⟨rfl,rfl,rfl,rfl⟩
  ·rw[if_neg e];exact⟨rfl,rfl,rfl,rfl⟩
 have U:∀(s:Int) (l:Int×Int) (b:List Int),l6 E s l b=l6 t s l b:=by
  intro s l b
  induction b generalizing l with
  |nil=>rfl
  |cons c r D=>show(c,l)::_=(c,l)::_;rw[D];unfold nW;rw[(a c).2.2.1,(a c).2.2.2]
 refine iH (Qx (t:=E) (k:=k) (m:=m) (P:=lQ (.a (.c (.a 68) 3)) [.f m E.h] E (eL (fV (eL F 67 (.c eb (i9 l))) [53,86,87] [.a m,.a V.1,.a V.2]) 68 (.b (.d m)))) h.f (zS rfl) (E.a m).a V
  (eL (fV (eL F 67 (.c eb (i9 l))) [53,86,87] [.a m,.a V.1,.a V.2]) 68 (.b (.d m))) l (λc X=>(h.d m Y c ((a m).1▸X)).1) ⟨⟨f.a,rfl⟩,rfl,rfl,rfl⟩ (by rw[(a m).1];lia)) λA i L g=>?_
 rw[U,(a m).1,(a m).2.1] at L;refine(eu A L.f (eG (EG rfl f.b rfl (by lia)) (eG (fO (iG h.f f.a (fg (v:=.a m) rfl) Y) rfl) (eG (E:=E) ?_ (eG (mO (lK (gv (fg rfl) rfl)) (kO jK) rfl rfl g) fp)))));have I:Ev (dd eb (k+1)) t (eL (fV (eL F 67 (.c eb (i9 l))) [53,86,87] [.a m,.a V.1,.a V.2]) 68 (.b (.d m))) (.A (.a (.a 86) (.a (.a 87) .b))) (.b (tp [V.1,V.2])) t:=
  kg (eV (fg (v:=.a V.1) rfl) (eV (fg (v:=.a V.2) rfl) fJ)) rfl (iO rfl)
 refine u6 rfl I rfl ?_;have:rB t m [4,5] (eF [V.1,V.2])=d9 E:=by
  show d9 ((t.f m { t.a m with g:=V.1 }).f m { (t.f m { t.a m with g:=V.1 }).a m with h:=V.2 })=d9 E;have O:(t.f m { t.a m with g:=V.1 }).a m={ t.a m with g:=V.1 }:=if_pos rfl;rw[O];show d9 { t with a:=λx=>if x=m then _ else(if x=m then _ else t.a x) }=d9 { t with a:=λx=>if x=m then _ else t.a x }
  congr 2
  funext x
  by_cases e:x=m
  ·rw[if_pos e,if_pos e]
  ·rw[if_neg e,if_neg e,if_neg e]
 exact this
def yA(t:eB)(P:Int->Int×Int)(x:Int):Prop:=∀p∈l6 t (t.a x).b (P x) (t.a x).a,P p.1=p.2
structure yy(t:eB)(rk:Int->Nat)(P P':Int->Int×Int)(l:List Int):Prop where
 a:∀x,(∀c∈l,x∉PP t rk c)->P' x=P x
 b:∀c∈l,∀x∈PP t rk c,yA t P' x
abbrev uy(k N:Nat)(t:eB)(F:Fr):=mi (λt F=>tW.q (dd eb (k+1)) t F) (λt F=>FM.c (dd eb (k+1)) t F) N t F
theorem Hj{s:Int}{p:Int×Int×Int}{l:Int×Int}{W:List Int}(h:p∈l6 t s l W):p.1∈W:=by
 have:=jY (f:=kG) h;rwa [Cn] at this
theorem yA.f{P a:Int->Int×Int}{x:Int}(h:yA t P x)(K:a x=P x)(I:∀c∈(t.a x).a,a c=P c):yA t a x:=by
 intro p J;rw[K] at J;rw[I _ (Hj J)];exact h p J
theorem PY(l:List Int):(l.reverse.flatMap (PP t T)).length=(l.flatMap (PP t T)).length:=by
 induction l with
 |nil=>rfl
 |cons c r D=>rw[n9,Wk,il,D,kY,il,kY,DF,il];show _+(_+0)=_;lia
theorem zB(h:Un t T){n c:Int}(W:n∈t.b)(X:c∈(t.a n).a):n∉PP t T c:=λY=>by
 have:=(h.d n W c X).2;rcases tX h.e (h.d n W c X).1 _ Y with e|q
 ·rw[e] at this;exact absurd this (lg _)
 ·lia
theorem Hk{s:Int}{P:Int->Int×Int}:∀(l:Int×Int) (W:List Int),l6 (gz t P) s l W=l6 t s l W
 |_,[]=>rfl
 |l,c::r=>by show(c,l)::l6 (gz t P) s (nW t s l c) r=_;rw[Hk];rfl
theorem Um(h:Ok t T){k:Nat}{n:Int}(W:n∈t.b):∀(l2:Int×Int) (N:Nat) (aa:Int->Int×Int) F l,oV F (l++[[n,l2.1,l2.2]])->l.length+(PP t T n).length≤1000->
  ∃P' A,oV A l∧P' n=l2∧yy t T aa P' [n]∧uy k (N+(PP t T n).length) (gz t aa) F=uy k N (gz t P') A:=by
 refine h.e.M (P:=λn=>∀(l2:Int×Int) (N:Nat) (aa:Int->Int×Int) F l,oV F (l++[[n,l2.1,l2.2]])->l.length+(PP t T n).length≤1000->
  ∃P' A,oV A l∧P' n=l2∧yy t T aa P' [n]∧uy k (N+(PP t T n).length) (gz t aa) F=uy k N (gz t P') A) ?_ W
 intro n W D l2 N aa F l f C;have e:PP t T n=_:=lw h.e W;have M:(PP t T n).length=((t.a n).a.flatMap (PP t T)).length+1:=by rw[e];rfl
 have y:=zv (t:=t) (T:=T) (t.a n).a;refine eR (Ul (k:=k) (t:=gz t aa) h.ab W f (by lia)) λK Y L=>?_;rw[SU] at L;rw[Hk] at Y;have Y:oV K (l++(l6 t (t.a n).b l2 (t.a n).a).map wk):=Y;have o:=Cn (t:=t) (s:=(t.a n).b) l2 (t.a n).a;have S:∀(r:List (Int×Int×Int)),(r.map kG).Nodup->(∀p∈r,p.1∈(t.a n).a)->∀(N:Nat) (aa:Int->Int×Int) F l,oV F (l++(r.map wk).reverse)->l.length+((r.map kG).flatMap (PP t T)).length≤1000->
   ∃P' A,oV A l∧(∀p∈r,P' p.1=p.2)∧yy t T aa P' (r.map kG)∧uy k (N+((r.map kG).flatMap (PP t T)).length) (gz t aa) F=uy k N (gz t P') A:=by
  intro r
  induction r with
  |nil=>intro _ _ N aa F l f _;exact(kK aa F (by rw[uH,DT,mJ] at f;exact f) (λU h=>absurd h iI) ⟨λU U=>rfl,λU h=>absurd h iI⟩ rfl)
  |cons p r Q=>
   intro E J N aa F l f C;rw[gj,kE] at E;have i:=J p (gp ..);rw[gj,n9,←ng] at f;rw[gj,kY,il] at C ⊢;have:=zv (t:=t) (T:=T) (r.map kG);rw[fC] at this;have P:∀v∈r,∀x,x∈PP t T p.1->x∉PP t T v.1:=λv R=>yz h.l W i (J v (gC _ R)) (λe=>E.1 (e▸jY R));refine jD (D p.1 i p.2 (N+((r.map kG).flatMap (PP t T)).length) aa F (l++(r.map wk).reverse) f (by rw[il,n6,fC];lia)) λz K Y O w L=>?_;refine jD (Q E.2 (λv R=>J v (gC _ R)) N z K l Y (by lia)) λs H j m u a=>?_;have B:∀x∈PP t T p.1,s x=z x:=λx Z=>u.a x λc X=>by
    (refine fP X λv R O=>?_;(clear X;obtain rfl:=O));exact P v R x Z
   refine(kK s H j ?_ ⟨?_,?_⟩ ?_)
   ·intro v R
    rcases gy.1 R with e|R
    ·rw[e,B _ (lX h.e (h.d n W _ i).1),O]
    ·exact m v R
   ·intro x Z
    rw[u.a x λc X=>Z c (gC _ X),w.a x λc X=>Z c (by rw[gR.1 X];exact gp ..)]
   ·intro c X x Z
    rcases gy.1 X with e|X
    ·clear X
     subst e;have G:=λc X=>pY h.e (h.d n W _ i).1 Z (c:=c) X;exact(w.b p.1 (gp ..) x Z).f (B x Z) (λc X=>B c (G c X))
    ·exact u.b c X x Z
   ·rw(occs:=eO) [Kv (PP t T p.1).length,←xz];exact L.trans a
 have g:(l6 t (t.a n).b l2 (t.a n).a).reverse.map kG=(t.a n).a.reverse:=by rw[nq,o]
 have q:=PY (t:=t) (T:=T) (t.a n).a;refine jD (S (l6 t (t.a n).b l2 (t.a n).a).reverse (by rw[g];exact(WA _).nodup_iff.2 (h.o n W)) (λp J=>Hj (lH.1 J)) N (xf aa n l2) K l
  (by rw[nq,WB];exact Y) (by rw[g,q];lia)) λs H j m u a=>?_
 rw[g] at u a;rw[q] at a;have I:s n=l2:=by
  rw[u.a n λc X=>zB h.l W (lH.1 X)];exact if_pos rfl
 refine(kK s H j I ⟨?_,?_⟩ ?_)
 ·intro x Z
  have Z:=Z n (gp ..);rw[e] at Z;rw[u.a x λc X d=>Z (gC _ (qB.2 (eu c (lH.1 X) d)))];exact if_neg (show x≠n fromλe=>Z (e▸gp ..))
 ·intro c X x Z
  rw[gR.1 X,e] at Z;rcases gy.1 Z with e|Z
  ·clear W D f C M y Y L o S g q u a X Z;clear Y
   subst e;intro p J;rw[I] at J;exact m p (lH.2 J)
  ·refine ry Z λb V Z=>?_
   exact u.b b (lH.2 V) x Z
 ·rw(occs:=eO) [M,←xz]
  exact(Dm (I6 f.b) L).trans a
theorem T7(h:Ok t T)(R:t.d∈t.b){k:Nat}:
  ∃M,gF eb (k+2) 25 [.b .c] t=d9 (.b .e,gz t M)∧M t.d=(0,0)∧yy t T (λl=>((t.a l).g,(t.a l).h)) M [t.d]:=by
 have C:=oU h.l R;have:=h.j;rw[iB (B:=[66]) (b:=vN) (by decide) rfl rfl];obtain⟨N,j⟩ :∃N,10000=(N+1)+(PP t T t.d).length:=⟨9999-(PP t T t.d).length,by lia⟩;refine jD (Um (k:=k) h R (0,0) (N+1) (λl=>((t.a l).g,(t.a l).h)) (eL (fh [66] [.b .c]) 67 (.c eb (i9 [[t.d,0,0]]))) [] ⟨rfl,rfl⟩ (by show 0+_≤_;lia)) λa A f I o g=>?_;rw[ST,←j] at g;have g:=g.trans (Dl (De (l:=[]) f.b));have:f7 (dd eb (k+1)) t (fh [66] [.b .c]) vN .a (gz t a) A:=
  eG (fO (qL (eV (v:=.b (tp [t.d,0,0])) (kg (eV (ji (f:=5) (v:=.a t.d) rfl rfl h.f) (eV (v:=.a 0) rfl rfl)) rfl (iO rfl)) fJ) rfl (iO rfl)) rfl) (eG g fp)
 refine(fQ a ?_ I o);show gP (vN.c _ _ (fh [66] [.b .c]))=_;rw[this];rfl
theorem PO{x y:Bool}:mS t fZ (.d x) (.d y)=d9 (x==y):=by cases x<;>cases y<;>rfl
theorem Rl{x y:Bool}:mS t gd (.d x) (.d y)=d9 (!(x==y)):=by cases x<;>cases y<;>rfl
def BB(t:eB):Prop:=∀n∈t.b,(t.a n).b=0∨(t.a n).b=1∨(t.a n).b=2
theorem FA{s:Int}(S:s=1∨s=2)(M:a=0∨a=1):(eU (s=1)==eU (a=1))=eU (fA s=a):=by
 rcases S with rfl|rfl<;>rcases M with rfl|rfl<;>rfl
noncomputable abbrev Aa:List (Nat×fX):=[(48,ey),(73,ey),(40,eY),(56,gb),(66,gb)]
abbrev B8:eW:=.B (.j 40 (.a (.a 66) (.a (.a 73) (.a (.a 56) .b)))) [73] (.a (.c (.a 72) 3)) .b Aa
noncomputable abbrev PL:eW:=.h fZ (.h fZ (.c (.a 72) 1) (.w 11)) (.h fZ (.a 56) (.w 14))
theorem Ht{n:Int}{k:Nat}(h:Ok t T)(W:n∈t.b)(N:F 66=d9 (.b .c))(J:F 56=d9 (.a a))(P:F 72=d9 (.b (.d n)))(D:∀c∈(t.a n).a,gF eb k 40 [.b .c,.a c,.a a] t=d9 (.a (LL t T a c),t)):
  Ev (dd eb k) t F B8 (.c eb (eF ((t.a n).a.map (LL t T a)))) t:=by
 have E:=lx h.l W;have:=h.j;have:=pT (d:=dd eb k) (t:=t) (F:=F) (T:=.j 40 (.a (.a 66) (.a (.a 73) (.a (.a 56) .b)))) (N:=[73]) (L:=.a (.c (.a 72) 3)) (Y:=Aa) (W:=(eF (t.a n).a).map λx=>[x])
  (r1 .e λc=>.a (LL t T a c)) (lK (gv (fg P) rfl)) (kO jK) (by rw[fC,gB];lia) ?_
 ·rw(occs:=eO) [gJ,gJ] at this;rw(occs:=eO) [eF,gJ];exact this
 ·intro r R
  (refine fP R λy B O=>?_;(clear R;obtain rfl:=O))
  (refine fP B λc X m=>?_;(clear B;obtain rfl:=m))
  have b:iS Aa F [73] [.a c] 66=d9 (.b .c):=congrArg (kF eD.e) N;have U:iS Aa F [73] [.a c] 56=d9 (.a a):=congrArg (kF eD.e) J;exact gI (eV (fg b) (eV rfl (eV (fg U) fJ))) (D c X)
theorem Hp(h:Ok t T)(S:BB t)(M:a=0∨a=1){n:Int}(W:n∈t.b):∀k,T n<k->gF eb k 40 [.b .c,.a n,.a a] t=d9 (.a (LL t T a n),t):=by
 refine h.e.M (P:=λn=>∀k,T n<k->gF eb k 40 [.b .c,.a n,.a a] t=d9 (.a (LL t T a n),t)) ?_ W;intro n W D k z;cases k with
 |zero=>exact absurd z (pI _)
 |succ k=>
  rw[iB (B:=[66,53,56]) (b:=sy) (by decide) rfl rfl];have I:Ex (dd eb k) t (fh [66,53,56] [.b .c,.a n,.a a]) (.a 72 (.n (.c (.a 66) 16) (.a 53))) .a t (eL (fh [66,53,56] [.b .c,.a n,.a a]) 72 (.b (.d n))):=fO (iG h.f rfl rfl W) rfl;have e:=lW (a:=a) h.e W;by_cases q:(t.a n).b=0
  ·rw[if_pos q] at e
   have:f7 (dd eb k) t (fh [66,53,56] [.b .c,.a n,.a a]) sy (.b (.a (ko a))) t _:=
    eG I (iq (jj (decide_eq_true q▸mq rfl) (iq (i7 (jh (v:=.c eb [.a 3,.a 2]) (u:=.a a) rfl rfl (by(clear D I e;rcases M with rfl|rfl)<;>rfl)) rfl))))
   show gP (sy.c _ _ (fh [66,53,56] [.b .c,.a n,.a a]))=_;rw[this,e];rfl
  ·rw[if_neg q] at e
   have G:(t.a n).a≠[]:=λr=>q ((h.i n W).2 r);have L:=Ht (k:=k) (F:=eL (fh [66,53,56] [.b .c,.a n,.a a]) 72 (.b (.d n))) h W rfl rfl rfl (λc X=>D c X k (by have:=(h.d n W c X).2;lia));have o:Ev (dd eb k) t (eL (eL (fh [66,53,56] [.b .c,.a n,.a a]) 72 (.b (.d n))) 65 (.c eb (eF ((t.a n).a.map (LL t T a))))) PL (.d (eU (fA (t.a n).b=a))) t:=by
    rw[←FA ((S n W).resolve_left q) M];exact gG (v:=.d (eU ((t.a n).b=1))) (u:=.d (eU (a=1))) rfl rfl PO
   have:∃A,f7 (dd eb k) t (fh [66,53,56] [.b .c,.a n,.a a]) sy (.b (.a (LL t T a n))) t A:=by
    by_cases c:fA (t.a n).b=a
    ·rw[decide_eq_true c] at o
     rw[if_pos c] at e;exact⟨_,eG I (eG (gU (decide_eq_false q▸mq rfl) fp) (eG (fO L rfl) (iq (i7 (lT o (jM rfl (e▸rh))) rfl))))⟩
    ·rw[decide_eq_false c] at o
     rw[if_neg c] at e;refine⟨_,eG I (eG (gU (decide_eq_false q▸mq rfl) fp) (eG (fO L rfl) (iq (i7 (lS o (jM rfl ?_)) rfl))))⟩;show((jC t (.c em (eF ((t.a n).a.map (LL t T a))))).bind _)=_;rw[sL,e];show(if _ then _ else _)=_;rw[if_pos ⟨rfl,λr=>G (nj.1 r)⟩]
   refine fL this λA g=>?_;show gP (sy.c _ _ (fh [66,53,56] [.b .c,.a n,.a a]))=_;rw[g];rfl
noncomputable def pl(t:eB)(a m:Int):Int:=if a=0 then(t.a m).g else(t.a m).h
theorem wL{k:Nat}{n a:Int}:gF Q (k+1) 1025 [.b (.d n),.a a] t=d9 (.a (pl t a n),t):=by
 rw[iB (B:=[50,56]) (b:=sj) (by decide) rfl rfl];by_cases q:a=0
 ·have:f7 (dd Q k) t (fh [50,56] [.b (.d n),.a a]) sj (.b (.a (t.a n).g)) t _:=iq (i7 (lT (decide_eq_true q▸gG (fg rfl) rfl rfl) (gv (fg rfl) rfl)) rfl)
  show gP (sj.c _ _ (fh [50,56] [.b (.d n),.a a]))=_;rw(occs:=eO) [this,pl,if_pos q];rfl
 ·have:f7 (dd Q k) t (fh [50,56] [.b (.d n),.a a]) sj (.b (.a (t.a n).h)) t _:=iq (i7 (lS (decide_eq_false q▸gG (fg rfl) rfl rfl) (gv (fg rfl) rfl)) rfl)
  show gP (sj.c _ _ (fh [50,56] [.b (.d n),.a a]))=_;rw(occs:=eO) [this,pl,if_neg q];rfl
def Sq(t:eB)(a:Int):Int->List Int->Int->Prop
 |p,[],q=>p=q
 |p,c::r,q=>pl t a c=p∧Sq t a (p+sz t a c) r q
structure Oq(t:eB)(n:Int):Prop where
 d:2≤(t.a n).a.length
 b:∀c∈(t.a n).a,c∈t.b∧(t.a c).c=n∧(t.a c).b≠(t.a n).b∧sz t (1-fA (t.a n).b) c=sz t (1-fA (t.a n).b) n∧pl t (1-fA (t.a n).b) c=pl t (1-fA (t.a n).b) n
 a:Sq t (fA (t.a n).b) (pl t (fA (t.a n).b) n) (t.a n).a (pl t (fA (t.a n).b) n+sz t (fA (t.a n).b) n)
structure Bu(t:eB)(n:Int):Prop where
 a:(t.a n).b=0->(t.a n).a=[]∧3≤(t.a n).d∧2≤(t.a n).e
 b:(t.a n).b≠0->Oq t n
theorem fu{n:Int}(h:F i=d9 (.a n)):Ev d t F (.a i) (.a n) t:=fg h
theorem i4{n:Int}(h:F i=d9 (.b (.d n))):Ev d t F (.a i) (.b (.d n)) t:=fg h
theorem pU{w:Es}(h:w.h d t F=d9 (em,E)):Ev d t F (.D jw w) (.d em) E:=by show(w.h d t F).map _=_;rw[h];rfl
theorem EF{w:Es}(h:w.h d t F=d9 (eb,E)):Ev d t F (.D jw w) (.d eb) E:=by show(w.h d t F).map _=_;rw[h];rfl
theorem jR{w:Es}{b:Bool}(h:Ev d t F e (.d em) E)(g:w.h d E F=d9 (b,S)):(Es.a e w).h d t F=d9 (b,S):=by show(e.q d t F).bind _=_;rw[h];exact g
theorem FC{w:Es}(h:Ev d t F e (.d eb) E):(Es.a e w).h d t F=d9 (eb,E):=by show(e.q d t F).bind _=_;rw[h];rfl
theorem lU{x y:Int}(h:Ev d t F O (.a x) E)(g:Ev d E F m (.a y) S)(q:x=y):Ev d t F (.h gd O m) (.d em) S:=
 gG h g (by show d9 (!eU (x=y))=_;rw[decide_eq_true q];rfl)
theorem A3{x y:Int}(h:Ev d t F O (.a x) E)(g:Ev d E F m (.a y) S)(q:¬x<y):Ev d t F (.h lj O m) (.d em) S:=
 gG h g (by show d9 (eU (x<y))=_;rw[decide_eq_false q])
theorem oj{x y:Int}(h:Ev d t F O (.a x) E)(g:Ev d E F m (.a y) S)(q:¬x=y):Ev d t F (.h fZ O m) (.d em) S:=
 gG h g (by show d9 (eU (x=y))=_;rw[decide_eq_false q])
theorem nA{x y:Int}(h:Ev d t F O (.a x) E)(g:Ev d E F m (.a y) S)(q:x=y):Ev d t F (.h fZ O m) (.d eb) S:=
 gG h g (by show d9 (eU (x=y))=_;rw[decide_eq_true q])
theorem EB{n:Int}(N:t.g=7)(h:F 66=d9 (.b .c))(g:Ev d t F e (.a n) t)(W:n∈t.b):Ev d t F (.L (.c (.a 66) 16) e) (.b (.d n)) t:=by
 show(eW.q d _ t F).bind _=_;rw[ji (f:=0) (v:=.j) h rfl N];show(e.q d t F).bind _=_;rw[g];show d9 (eD.b (if n∈t.b then .d n else .e),t)=_;rw[if_pos W]
structure WS(n a p:Int)(F:Fr):Prop where
 e:F 66=d9 (.b .c)
 c:F 68=d9 (.b (.d n))
 f:F 53=d9 (.a n)
 b:F 56=d9 (.a a)
 d:F 82=d9 (.a p)
noncomputable abbrev FQ:Ss:=.a (.a 72 (.L (.c (.a 66) 16) (.a 73))) (.a (.c (.D jw (.a (.h .Is (.a 72) (.F)) (.a (.h gd (.c (.a 72) 2) (.a 53)) (.a (.h fZ (.c (.a 72) 1) (.c (.a 68) 1)) .b)))) (.a (.g (.G "child")) .b) .b) (.a (.c (.D jw (.a (.h gd (.v (.a 72) 25 (.a (.a 56) .b)) (.a 82)) (.a (.h gd (.v (.a 72) 25 (.a (.p gS (.d 1) (.a 56)) .b)) (.v (.a 68) 25 (.a (.p gS (.d 1) (.a 56)) .b))) .b))) (.a (.g (.G "place")) .b) .b) (.a (.c (.h gd (.v (.a 72) 23 (.a (.p gS (.d 1) (.a 56)) .b)) (.v (.a 68) 23 (.a (.p gS (.d 1) (.a 56)) .b))) (.a (.g (.G "size")) .b) .b) (.a (.a 82 (.p io (.a 82) (.v (.a 72) 23 (.a (.a 56) .b)))) .b))))
theorem U9{n a p c:Int}{k:Nat}(N:t.g=7)(f:WS n a p F)(X:c∈t.b)(K:(t.a c).c=n)(I:(t.a c).b≠(t.a n).b)(g:sz t (1-a) c=sz t (1-a) n)(y:pl t (1-a) c=pl t (1-a) n)(J:pl t a c=p):
  ∃A,WS n a (p+sz t a c) A∧FQ.c (dd eb (k+1)) t (fV F [73] [.a c])=d9 (.a,t,A):=by
 have Z:∀F:Fr,F 56=d9 (.a a)->lV (dd eb (k+1)) t F (.a (.p gS (.d 1) (.a 56)) .b) [.a (1-a)] t:=λF h=>eV (hZ (v:=.a 1) (u:=.a a) rfl (fu h) rfl) fJ;refine(eu (eL (eL (fV F [73] [.a c]) 72 (.b (.d c))) 82 (.a (p+sz t a c))) ⟨f.e,f.c,f.f,f.b,rfl⟩ (eG (fO (EB N f.e (fg (v:=.a c) rfl) X) rfl)
  (eG (gU (pU (jR (gG (i4 (n:=c) rfl) (u:=.b .e) rfl rfl) (jR (lU (gv (i4 (n:=c) rfl) rfl) (fu f.f) K) (jR (oj (gv (i4 (n:=c) rfl) rfl) (gv (i4 f.c) rfl) I) rfl)))) fp)
  (eG (gU (pU (jR (lU (iL (i4 (n:=c) rfl) (eV (fu f.b) fJ) rfl wL) (fu f.d) J)
   (jR (lU (iL (i4 (n:=c) rfl) (Z _ f.b) rfl wL) (iL (i4 f.c) (Z _ f.b) rfl wL) y) rfl))) fp)
  (eG (gU (lU (iL (i4 (n:=c) rfl) (Z _ f.b) rfl mH) (iL (i4 f.c) (Z _ f.b) rfl mH) g) fp)
  (eG (fO (hZ (v:=.a p) (u:=.a (sz t a c)) (fu f.d) (iL (i4 (n:=c) rfl) (eV (fu f.b) fJ) rfl mH) rfl) rfl) fp))))))
theorem U8{n a q:Int}{k:Nat}{P:eB->Fr->Bool}(N:t.g=7)(S:∀F,P t F=eb):∀(W:List Int) (p:Int) F,Sq t a p W q->WS n a p F->
  (∀c∈W,c∈t.b∧(t.a c).c=n∧(t.a c).b≠(t.a n).b∧sz t (1-a) c=sz t (1-a) n∧pl t (1-a) c=pl t (1-a) n)->
  ∃A,WS n a q A∧j7 P [73] (λt F=>FQ.c (dd eb (k+1)) t F) ((eF W).map λx=>[x]) t F=d9 (.a,t,A):=by
 intro G
 induction G with
 |nil=>
  intro p F s f U;exact(eu F ((show p=q from s)▸f) (nM (S F)))
 |cons c r D=>
  rintro p F ⟨e,i⟩ f h;refine md (h c (gp ..)) λw d I g y=>?_;refine eR (U9 (k:=k) N f w d I g y e) λK Y L=>?_;refine eR (D _ K i Y λx Z=>h x (gC _ Z)) λH j b=>?_;exact(eu H j ((my (S F) L).trans b))
theorem U6{n:Int}{k:Nat}(N:t.g=7)(W:n∈t.b)(C:(t.a n).a.length≤1000)(g:Bu t n):gF eb (k+2) 27 [.b .c,.a n] t=d9 (.b .e,t):=by
 rw[iB (B:=[66,53]) (b:=vS) (by decide) rfl rfl];have I:Ex (dd eb (k+1)) t (fh [66,53] [.b .c,.a n]) (.a 68 (.n (.c (.a 66) 16) (.a 53))) .a t (eL (fh [66,53] [.b .c,.a n]) 68 (.b (.d n))):=fO (iG N rfl (fg (v:=.a n) rfl) W) rfl;have:∃A,f7 (dd eb (k+1)) t (fh [66,53] [.b .c,.a n]) vS (.b (.b .e)) t A:=by
  by_cases q:(t.a n).b=0
  ·refine gY (g.a q) λc T d=>?_
   refine⟨_,eG I (iq (jj (decide_eq_true q▸mq rfl) (eG (gU (gG (v:=.f n t.h) (u:=.c eb []) (gv (fg rfl) rfl) (qL fJ rfl (by decide)) ?_) fp) (eG (gU (pU (jR
    (A3 (gv (fg rfl) rfl) (ji (f:=3) (v:=.a 3) rfl rfl N) (by lia)) (jR (A3 (gv (fg rfl) rfl) (ji (f:=4) (v:=.a 2) rfl rfl N) (by lia)) rfl))) fp) (iq (i7 (v:=.b .e) rfl rfl))))))⟩
   show(((jC t (.f n t.h)).bind λa=>(jC t (.c eb [])).map λb=>eU (a=b))<|>_).map _=_;have:jC t (.f n t.h)=d9 (t.a n).a:=by show(ia t (.f n t.h)).bind _=_;rw[jK];exact nO _
   rw[this,c];rfl
  ·have g:=g.b q
   refine eR (U8 (t:=t) (k:=k) (n:=n) (a:=fA (t.a n).b) (P:=lQ (.a (.c (.a 68) 3)) [.f n t.h] t (eL (eL (eL (fh [66,53] [.b .c,.a n]) 68 (.b (.d n))) 82 (.a (pl t (fA (t.a n).b) n))) 56 (.a (fA (t.a n).b)))) N (zS rfl) _ _
    (eL (eL (eL (fh [66,53] [.b .c,.a n]) 68 (.b (.d n))) 82 (.a (pl t (fA (t.a n).b) n))) 56 (.a (fA (t.a n).b))) g.a ⟨rfl,rfl,rfl,rfl,rfl⟩ g.b) λA L r=>?_
   have i:∀F:Fr,F 68=d9 (.b (.d n))->Ev (dd eb (k+1)) t F (.j 15 (.a (.c (.a 68) 1) .b)) (.a (fA (t.a n).b)) t:=λF h=>gI (eV (gv (fg h) rfl) fJ) t8;have P:Ev (dd eb (k+1)) t (eL (fh [66,53] [.b .c,.a n]) 68 (.b (.d n))) (.x 0 (.c (.a 68) 3)) (.a ((t.a n).a.length:Nat)) t:=by
    have:=jM (d:=dd eb (k+1)) (t:=t) (F:=eL (fh [66,53] [.b .c,.a n]) 68 (.b (.d n))) (e:=.c (.a 68) 3) (v:=.f n t.h) (gv (fg rfl) rfl) (sD (Q:=eb) jK rfl (by rw[gB];lia));rwa [gB] at this
   have Z:=g.d;refine⟨A,eG I (eG (gU (decide_eq_false q▸mq rfl) fp) (eG (gU (A3 P (y:=2) rfl (by lia)) fp) (eG (oQ (as:=[.a (fA (t.a n).b),.a (pl t (fA (t.a n).b) n)]) rfl
    (kg (eV (i _ rfl) (eV (iL (fg rfl) (eV (i _ rfl) fJ) rfl wL) fJ)) rfl (iO rfl)) rfl) (eG (mO (lK (gv (fg rfl) rfl)) (kO jK) rfl rfl r)
    (iq (i7 (lT (nA (fu L.d) (hZ (v:=.a (pl t (fA (t.a n).b) n)) (u:=.a (sz t (fA (t.a n).b) n)) (iL (i4 L.c) (eV (fu L.b) fJ) rfl wL) (iL (i4 L.c) (eV (fu L.b) fJ) rfl mH) rfl) rfl) (v:=.b .e) rfl) rfl))))))⟩
 refine fL this λA r=>?_;show gP (vS.c _ _ (fh [66,53] [.b .c,.a n]))=_;rw[r];rfl
noncomputable abbrev uA(X:List Int):List Int:=X.mergeSort λa b=>eU (a≤b)
theorem Ug{l m:List Int}(C:l.Nodup)(Y:m.Nodup)(h:∀x,x∈l↔x∈m):uA l=uA m:=by
 have Z:∀l:List Int,(uA l).Pairwise (·≤·):=λl=>
  (Wy (le:=λa b:Int=>eU (a≤b)) (λa b c K I=>by have K:=of_decide_eq_true K;have I:=of_decide_eq_true I;exact decide_eq_true (by lia))
   (λa b=>by show(eU (a≤b)||eU (b≤a))=eb;rw[J9];exact(V4 a b).imp decide_eq_true decide_eq_true) l).imp λh=>of_decide_eq_true h
 exact V9 (le:=(·≤·)) (λa b U U=>Kb) (Z l) (Z m) ((AC l _).trans (((List.perm_ext_iff_of_nodup C Y).2 h).trans (AC m _).symm))
theorem ip(h:F i=d9 (.b .c)):Ev d t F (.a i) (.b .c) t:=fg h
theorem CG{l m:List Int}{o X:Bool}(h:l=m):mS t gd (.c o (eF l)) (.c X (eF m))=d9 false:=by
 show(((jC t (.c o (eF l))).bind λa=>(jC t (.c X (eF m))).map λb=>eU (a=b))<|>_).map _=_;rw[sL,sL,h];show d9 (!eU (m=m))=_;rw[decide_eq_true rfl];rfl
theorem Ui{o:Bool}{l:List Int}(h:l.length<64):oZ eb t 3 (.c o (eF l))=d9 (.c eb (eF (uA l))):=by
 show((jC t (.c o (eF l))).bind _)=_;rw[sL];exact if_pos h
theorem IN(h:t.b.length<64):oZ eb t 3 .j=d9 (.c eb (eF (uA t.b))):=if_pos h
structure yB(F:Fr)(l:List Int):Prop where
 a:F 66=d9 (.b .c)
 b:F 65=d9 (.c eb (eF l))
noncomputable abbrev FO:Ss:=.a (.a 89 (.j 27 (.a (.a 66) (.a (.a 53) .b)))) (.a (.c (.h uM (.a 89) (.F)) (.a (.g (.A (.a (.a 53) (.a (.a 89) .b)))) .b) .b) .b)
theorem UP{l:List Int}{k:Nat}{P:eB->Fr->Bool}(S:∀F,yB F l->P t F=eb):∀(W:List Int) F,yB F l->(∀c∈W,gF eb (k+2) 27 [.b .c,.a c] t=d9 (.b .e,t))->
  ∃A,yB A l∧j7 P [53] (λt F=>FO.c (dd eb (k+2)) t F) ((eF W).map λx=>[x]) t F=d9 (.a,t,A):=by
 intro G
 induction G with
 |nil=>
  intro F f U;exact(eu F f (nM (S F f)))
 |cons c r D=>
  intro F f h;refine eR (D (eL (fV F [53] [.a c]) 89 (.b .e)) ⟨f.a,f.b⟩ λx Z=>h x (gC _ Z)) λH j a=>?_;have I:f7 (dd eb (k+2)) t (fV F [53] [.a c]) FO .a t (eL (fV F [53] [.a c]) 89 (.b .e)):=
   eG (fO (gI (eV (ip f.a) rfl) (h c (gp ..))) rfl) (eG (gU rfl fp) fp)
  exact(eu H j ((my (S F f) I).trans a))
theorem UT(h:Ok t T)(R:t.d∈t.b)(d:(t.a t.d).c=0)(y:(t.a t.d).g=0)(I:(t.a t.d).h=0)(O:∀n∈t.b,n∈PP t T t.d)(E:t.b.Nodup)(Y:∀n∈t.b,Bu t n)
  (S:t.i∈t.b) (C:(t.a t.i).b=0) {k:Nat}:gF eb (k+3) 28 [.b .c] t=d9 (.b .e,t):=by
 have e:=oU h.l R;have:=h.j;have Z:=xj (Q:=eb) h.l (by lia) R (k:=k+1);have b:=zt (Q:=eb) h.l (by lia) (λn W=>(h.i n W).1) R (k:=k+1);rw[iB (B:=[66]) (b:=vR) (by decide) rfl rfl];have o:∀F:Fr,F 66=d9 (.b .c)->Ev (dd eb (k+2)) t F (.c (.a 66) 21) (.a t.d) t:=λF N=>ji (f:=5) (v:=.a t.d) N rfl h.f;let K:Fr:=eL (eL (fh [66] [.b .c]) 88 (.b (.d t.d))) 65 (.c eb (eF (PP t T t.d)));have G:∀F,yB F (PP t T t.d)->lQ (.a (.a 65)) [.c em (eF (PP t T t.d))] t K t F=true:=λF f=>by
  have w:iY K 65=d9 (PP t T t.d):=by unfold iY;rw[qr (F:=K) (z:=eF (PP t T t.d)) rfl];exact nO _
  have u:iY F 65=d9 (PP t T t.d):=by unfold iY;rw[qr f.b];exact nO _
  show(_&&(mY K F (.a 65)&&eb))=eb;have:mY K F (.a 65)=true:=by
   show(!(iY K 65).isSome||eU (iY F 65=iY K 65))=eb;rw[w,u,decide_eq_true rfl,pG]
  rw[this];rfl
 refine eR (UP (t:=t) (k:=k) (l:=PP t T t.d) G (PP t T t.d) K ⟨rfl,rfl⟩ λc X=>by
  have X:=j5 h.e R c X;have:=lx h.l X;exact U6 h.f X (by lia) (Y c X)) λA L r=>?_
 have a:((iF.a (.a 65)).d.zip [eD.c em (eF (PP t T t.d))]).all (λp=>mI K p.1 p.2)=true:=by
  show(mI K (.a 65) _&&eb)=eb;have w:iY K 65=d9 (PP t T t.d):=by unfold iY;rw[qr (F:=K) (z:=eF (PP t T t.d)) rfl];exact nO _
  have:mI K (.a 65) (.c em (eF (PP t T t.d)))=true:=by
   show(!(jE K 65).isSome||(iY K 65).isSome)=eb;rw[w,show(d9 (PP t T t.d)).isSome=eb from rfl,pG]
  rw[this];rfl
 have:f7 (dd eb (k+2)) t (fh [66] [.b .c]) vR (.b (.b .e)) t A:=by
  refine eG (fO (EB h.f rfl (o _ rfl) R) rfl) (eG (gU (pU (jR rfl (jR (lU rfl (y:=0) rfl d) (jR (lU rfl (y:=0) rfl y)
   (jR (lU rfl (y:=0) rfl I) rfl))))) fp) (eG (fO (gI (eV rfl (eV (o _ rfl) fJ)) Z) rfl) (eG (mO rfl (kO rfl) rfl a r)
   (eG (gU (gG (jM (fg L.b) (Ui (by lia))) (jM (ji (f:=0) (v:=.j) L.a rfl h.f) (IN (by lia))) (CG (Ug (Bz h.l R) E λx=>⟨λq=>j5 h.e R x q,O x⟩))) fp)
   (iq (i7 (lT (gG (ji (f:=6) (v:=.a t.i) L.a rfl h.f) (gI (eV (ip L.a) (eV (o _ L.a) fJ)) b) ?_) (v:=.b .e) rfl) rfl))))))
  show(jC t (.c eb (eF ((PP t T t.d).filter (nP t))))).map _=_;rw[sL];show d9 (eU (t.i∈(PP t T t.d).filter (nP t)))=d9 eb;rw[decide_eq_true (lG.2 ⟨O _ S,decide_eq_true C⟩)]
 show gP (vR.c _ _ (fh [66] [.b .c]))=_;rw[this];rfl
noncomputable def nd(t:eB):Nat->Int->eT
 |0,_=>.e
 |k+1,n=>if(t.a n).b=0 then .f [.a n,.a (t.a n).d,.a (t.a n).e,.f [.a (t.a n).i,.a (t.a n).j,.a (t.a n).m,.a (t.a n).k],.g em,.a (t.a n).f,.f [],.f []]
   else .f [.a n,.a (t.a n).b,.a (t.a n).d,.a (t.a n).e,.f ((t.a n).a.map (nd t k))]
def ND(t:eB)(a:Int->Nat)(n:Int):eT:=nd t (a n+1) n
theorem Rj(h:Sh t T):∀k Z n,n∈t.b->T n<k->T n<Z->nd t k n=nd t Z n:=by
 intro k
 induction k with
 |zero=>intro Z n U q U;exact absurd q (pI _)
 |succ k D=>
  intro Z n W q O;cases Z with
  |zero=>exact absurd O (pI _)
  |succ Z=>
   show(if _ then _ else eT.f [_,_,_,_,.f _])=if _ then _ else eT.f [_,_,_,_,.f _];rw[kf λc X=>D Z c (h.d n W c X).1 (by have:=(h.d n W c X).2;lia) (by have:=(h.d n W c X).2;lia)]
theorem Fq(h:Sh t T){n:Int}(W:n∈t.b):ND t T n=if(t.a n).b=0 then .f [.a n,.a (t.a n).d,.a (t.a n).e,.f [.a (t.a n).i,.a (t.a n).j,.a (t.a n).m,.a (t.a n).k],.g em,.a (t.a n).f,.f [],.f []]
   else .f [.a n,.a (t.a n).b,.a (t.a n).d,.a (t.a n).e,.f ((t.a n).a.map (ND t T))]:=by
 show(if _ then _ else eT.f [_,_,_,_,.f _])=_;rw[kf λc X=>Rj h (T n) (T c+1) c (h.d n W c X).1 (h.d n W c X).2 (uJ _)];rfl
noncomputable abbrev B6:List (Nat×fX):=[(48,ey),(73,ey),(90,gb)]
abbrev Gv:eW:=.B (.n (.a 90) (.a 73)) [73] (.a (.c (.a 68) 3)) .b B6
theorem Qv{o:Option eD}{D n:Int}{l:List Int}{g:Int->eT}(p:DW F o 90 g l D)(K:F 68=d9 (.b (.d n)))(X:∀c∈(t.a n).a,c∈l)(C:(t.a n).a.length≤100000):
  Ev d t F Gv (.c eb ((t.a n).a.map g)) t:=by
 refine f5 p.d λP z w Y=>?_;have:=pT (d:=d) (t:=t) (F:=F) (T:=.n (.a 90) (.a 73)) (N:=[73]) (L:=.a (.c (.a 68) 3)) (Y:=B6) (W:=(eF (t.a n).a).map λx=>[x])
  (r1 .e λc=>g c) (lK (gv (fg K) rfl)) (kO jK) (by rw[fC,gB];exact C) ?_
 ·rw[gJ,gJ] at this;exact this
 ·intro r R
  (refine fP R λy B O=>?_;(clear R;obtain rfl:=O))
  (refine fP B λc Z m=>?_;(clear B;obtain rfl:=m))
  have J:iS B6 F [73] [.a c] 90=d9 (.g em P):=congrArg (kF eD.e) z;refine jh (fg J) rfl ?_;show(P.lookup c).map eD.b=_;rw[Y c (X c Z)];rfl
theorem O1{v:eD}{z:List eT}(h:ia t v=d9 z)(C:z.length≤100000):oZ Q t 5 v=d9 (.b (.f z)):=by
 show((ia t v).bind _)=_;rw[h];exact if_pos C
abbrev FL:Ss:=.a (.a 68 (.n (.c (.a 66) 16) (.a 72))) (.a (.c (.h fZ (.c (.a 68) 1) (.w 10)) (.a (.n 90 (.a 72) (.A (.a (.a 72) (.a (.c (.a 68) 6) (.a (.c (.a 68) 7) (.a (.v (.a 68) 26 .b) (.a (.c (.a 68) 12) (.a (.c (.a 68) 13) (.a (.x 5 (.c (.a 68) 14)) (.a (.x 5 (.c (.a 68) 15)) .b)))))))))) .b) (.a (.a 91 (.x 5 Gv)) (.a (.n 90 (.a 72) (.A (.a (.a 72) (.a (.c (.a 68) 1) (.a (.c (.a 68) 6) (.a (.c (.a 68) 7) (.a (.a 91) .b))))))) .b))) .b)
theorem Rk{D n:Int}{l:List Int}{k:Nat}(h:Ok t T)(W:n∈t.b)(X:∀c∈(t.a n).a,c∈l)(C:l.length≤1000)(p:DW F eh 90 (ND t T) l D):
  ∃A,DW A eh 90 (ND t T) (n::l) D∧FL.c (dd Q (k+1)) t (eL F 72 (.a n))=d9 (.a,t,A):=by
 refine f5 p.d λP z w Y=>?_;have E:=lx h.l W;have:=h.j;have e:=Fq h.e W;have I:Ex (dd Q (k+1)) t (eL F 72 (.a n)) (.a 68 (.n (.c (.a 66) 16) (.a 72))) .a t (eL (eL F 72 (.a n)) 68 (.b (.d n))):=fO (iG h.f p.b rfl W) rfl;have S:DW (eL (eL F 72 (.a n)) 68 (.b (.d n))) eh 90 (ND t T) l D:=⟨p.b,p.a,p.c,p.d⟩;by_cases q:(t.a n).b=0
 ·rw[if_pos q] at e
  refine(eu _ ?_ (eG I (eG (jj (decide_eq_true q▸mq rfl) (eG (u7 (y:=.f [.a n,.a (t.a n).d,.a (t.a n).e,.f [.a (t.a n).i,.a (t.a n).j,.a (t.a n).m,.a (t.a n).k],.g em,.a (t.a n).f,.f [],.f []])
   rfl rfl z (by lia)) fp)) fp)))
  exact uY p.b p.a p.c (by show d9 _=d9 _;rw[e]) w Y
 ·rw[if_neg q] at e
  have N:=Qv (d:=dd Q (k+1)) (t:=t) (n:=n) S rfl X (by lia);refine(eu _ ?_ (eG I (eG (gU (decide_eq_false q▸mq rfl) (eG (fO (jM N (O1 rfl (by rw[fC];lia))) rfl) (eG (u7 (y:=.f [.a n,.a (t.a n).b,.a (t.a n).d,.a (t.a n).e,.f ((t.a n).a.map (ND t T))])
   (kg (eV (fu (n:=n) rfl) (eV (gv (i4 rfl) rfl) (eV (gv (i4 rfl) rfl) (eV (gv (i4 rfl) rfl) (eV (fg (v:=.b (.f ((t.a n).a.map (ND t T)))) rfl) fJ))))) rfl (iO rfl)) (fu (n:=n) rfl) z (by lia)) fp))) fp)))
  exact uY p.b p.a p.c (by show d9 _=d9 _;rw[e]) w Y
theorem Rt(h:Ok t T){n:Int}(W:n∈t.b){k:Nat}:gF Q (k+2) 29 [.b .c,.a n] t=d9 (.b (ND t T n),t):=by
 have C:=oU h.l W;have:=h.j;have Z:=xj (Q:=Q) h.l (by lia) W (k:=k);rw[iB (B:=[66,53]) (b:=vL) (by decide) rfl rfl];have j:(iF.a (.H (.j 19 (.a (.a 66) (.a (.a 53) .b))))).c (dd Q (k+1)) t (eL (fh [66,53] [.b .c,.a n]) 90 (.g eb []))=d9 ([.c eb (eF (PP t T n).reverse)],t):=
  lK (Dk▸A4 (gI rfl Z) rfl (by rw[gB];lia))
 refine eR (Gr (d:=dd Q (k+1)) (t:=t) (o:=eh) (D:=n) (x:=90) (g:=ND t T) (B:=FL) (L:=.a (.H (.j 19 (.a (.a 66) (.a (.a 53) .b))))) (J:=[.c eb (eF (PP t T n).reverse)])
  (O:=eL (fh [66,53] [.b .c,.a n]) 90 (.g eb [])) (N:=72) (λU=>rfl) (λW X C p=>Rk h W X C p) (PP t T n) (Ft h.e W) (j5 h.e W) (by lia) []
  (eL (fh [66,53] [.b .c,.a n]) 90 (.g eb [])) ⟨rfl,rfl,rfl,[],rfl,ig _,λU h=>absurd h iI⟩) λA f g=>?_
 refine f5 f.d λP z U Y=>?_;rw[mJ,nM rfl] at g;have:f7 (dd Q (k+1)) t (fh [66,53] [.b .c,.a n]) vL (.b (.b (ND t T n))) t A:=
  eG (fO (v:=.g eb []) rfl rfl) (eG (mO j (kO rfl) rfl rfl g) (iq (i7 (jh (fg z) (fu f.c) (by show(P.lookup n).map eD.b=_;rw[Y n (lX h.e W)];rfl)) rfl)))
 show gP (vL.c _ _ (fh [66,53] [.b .c,.a n]))=_;rw[this];rfl
def CF(t:eB)(a:Int->Nat):eT:=.f [.f [.a (t.a t.d).d,.a (t.a t.d).e],ND t a t.d,.a t.i]
theorem BZ(h:Ok t T)(R:t.d∈t.b){k:Nat}:gF Q (k+3) 30 [.b .c] t=d9 (.b (CF t T),t):=by
 rw[iB (B:=[66]) (b:=vE) (by decide) rfl rfl];have o:∀F:Fr,F 66=d9 (.b .c)->Ev (dd Q (k+2)) t F (.c (.a 66) 21) (.a t.d) t:=λF N=>ji (f:=5) (v:=.a t.d) N rfl h.f;have:f7 (dd Q (k+2)) t (fh [66] [.b .c]) vE (.b (.b (CF t T))) t _:=
  eG (fO (iG h.f rfl (o _ rfl) R) rfl) (iq (i7 (kg (eV (v:=.b (.f [.a (t.a t.d).d,.a (t.a t.d).e])) rfl
   (eV (gI (eV (ip rfl) (eV (o _ rfl) fJ)) (Rt (Q:=Q) (k:=k) h R)) (eV (ji (f:=6) (v:=.a t.i) rfl rfl h.f) fJ))) rfl (iO rfl)) rfl))
 show gP (vE.c _ _ (fh [66] [.b .c]))=_;rw[this];rfl
theorem Lp{x:Nat}{j:Int}(h:Ev d t F O (.a j) E)(g:Ev d E F m (.a 1) S)(Z:F x=d9 .h):Ex d t F (.n x m O) .a { S with e:=j } F:=by
 show(O.q d t F).bind _=_;rw[h];show(m.q d E F).bind _=_;rw[g];show s9 F S x (.a 1) (.a j)=_;unfold s9;rw[Z];rfl
theorem HE{x y:Int}(B:y≠0):ri .Mod (.a x) (.a y)=d9 (.a (x.fmod y)):=by
 show(((if _ then _ else _:Option Int).map eD.a)<|>_)=_;rw[if_pos B];rfl
theorem PK{m:Int}{k:Nat}(c:0<m)(d:0≤t.e)(K:t.e≤10000)(C:t.k.length≤100):∃r,gF eb (k+1) 39 [.h,.a m] t=d9 (.a r,{ t with e:=t.e+1 })∧0≤r∧r<m:=by
 rw[iB (B:=[98,99]) (b:=su) (by decide) rfl rfl];let F:Fr:=fh [98,99] [.h,.a m];have Y:∀t,Ev (dd eb k) t F (.a 98) .h t:=λt=>fg (v:=.h) rfl;have D:∀t,Ev (dd eb k) t F (.n (.a 98) (.d 1)) (.a t.e) t:=λt=>jh (u:=.a 1) (Y t) rfl rfl;have w:∀t,Ev (dd eb k) t F (.n (.a 98) (.d 0)) .m t:=λt=>jh (u:=.a 0) (Y t) rfl rfl;have b:∀t:eB,t.k.length≤100->Ev (dd eb k) t F (.x 0 (.n (.a 98) (.d 0))) (.a t.k.length) t:=λt z=>jM (w t) (by
  show((d9 t.k.length).bind λn=>if n≤100000 then d9 (eD.a n) else eh)=_;show(if _ then _ else _)=_;rw[if_pos (by lia)])
 have R:∀t,Ev (dd eb k) t F (.a 99) (.a m) t:=λt=>fu rfl;let E:eB:={ t with e:=t.e+1 };have I:Ex (dd eb k) t F (.n 98 (.d 1) (.p io (.n (.a 98) (.d 1)) (.d 1))) .a E F:=Lp rfl rfl rfl;have O:∀x:Int,0≤x.fmod m∧x.fmod m<m:=λx=>⟨Int.fmod_nonneg_of_pos x c,Int.fmod_lt_of_pos x c⟩;by_cases q:t.e+1≤t.k.length
 ·have Z:t.e.toNat<t.k.length:=by lia
  have X:Ev (dd eb k) E F (.n (.n (.a 98) (.d 0)) (.p gS (.n (.a 98) (.d 1)) (.d 1))) (.a t.k[t.e.toNat]) E:=by
   refine jh (u:=.a (t.e+1-1)) (w E) rfl ?_;show(if _ then _ else _)=_;rw[if_pos (by lia),show t.e+1-1=t.e by lia];show(t.k[t.e.toNat]?).map eD.a=_;rw[jF Z];rfl
  have:f7 (dd eb k) t F su (.b (.a ((t.k[t.e.toNat]).fmod m))) E F:=
   eG I (iq (jj (gG (v:=.a (t.e+1)) (u:=.a t.k.length) (D E) (b E C) (by show d9 (eU _)=_;rw[decide_eq_true q])) (iq (i7 (hZ X (R E) (HE (by lia))) rfl))))
  refine(eu ((t.k[t.e.toNat]).fmod m) ?_ (O _));show gP (su.c _ _ F)=_;rw[this];rfl
 ·have s:∀x:Int,0≤x->x≤10001*10001->rC x:=λx U U=>by unfold rC;lia
  have a:0≤(t.e+1)*(t.e+1)∧(t.e+1)*(t.e+1)≤10001*10001:=⟨Dx (by lia) (by lia),Int.mul_le_mul (by lia) (by lia) (by lia) (by lia)⟩;have:f7 (dd eb k) t F su (.b (.a ((((t.e+1)*(t.e+1)*37+23*(t.e+1)+7*t.k.length).fdiv 5).fmod m))) E F:=
   eG I (eG (gU (gG (v:=.a (t.e+1)) (u:=.a t.k.length) (D E) (b E C) (by show d9 (eU _)=_;rw[decide_eq_false q])) fp) (iq (i7 (hZ (hZ (hZ (hZ
    (hZ (hZ (D E) (D E) (uk (s _ (by show 0≤t.e+1;lia) (by show t.e+1≤_;lia)) (s _ (by show 0≤t.e+1;lia) (by show t.e+1≤_;lia)))) (u:=.a 37) rfl (uk (s _ a.1 a.2) (s _ (by decide) (by decide))))
    (hZ (v:=.a 23) rfl (D E) (uk (s _ (by decide) (by decide)) (s _ (by show 0≤t.e+1;lia) (by show t.e+1≤_;lia)))) rfl)
    (hZ (v:=.a 7) rfl (b E C) (uk (s _ (by decide) (by decide)) (s _ (by lia) (by show(t.k.length:Int)≤_;lia)))) rfl) (u:=.a 5) rfl (yR (by decide) (by unfold iZ;decide))) (R E) (HE (by lia))) rfl)))
  refine(eu ((((t.e+1)*(t.e+1)*37+23*(t.e+1)+7*t.k.length).fdiv 5).fmod m) ?_ (O _));show gP (su.c _ _ F)=_;rw[this];rfl
noncomputable def l9(t:eB):Int->List Int->Int
 |f,[]=>f
 |f,n::r=>l9 t (if(t.a f).f<(t.a n).f then n else f) r
theorem HF{f n:Int}{r:List Int}:l9 t f (n::r)=l9 t (if(t.a f).f<(t.a n).f then n else f) r:=rfl
structure MR(F:Fr)(ns:List Int)(f:Int):Prop where
 a:F 66=d9 (.b .c)
 c:F 95=d9 (.c em (eF ns))
 b:F 65=d9 (.a f)
noncomputable abbrev BP:Ss:=.a (.c (.h lh (.c (.n (.c (.a 66) 16) (.a 53)) 13) (.c (.n (.c (.a 66) 16) (.a 65)) 13)) (.a (.a 65 (.a 53)) .b) .b) .b
theorem Rg{X:List Int}{k:Nat}{P:eB->Fr->Bool}(N:t.g=7)(S:∀F f,MR F X f->P t F=eb):∀(W:List Int) F f,MR F X f->f∈t.b->(∀c∈W,c∈t.b)->
  ∃A,MR A X (l9 t f W)∧j7 P [53] (λt F=>BP.c (dd Q k) t F) ((eF W).map λx=>[x]) t F=d9 (.a,t,A):=by
 intro G
 induction G with
 |nil=>
  intro F f m U U;exact(eu F m (nM (S F f m)))
 |cons c r D=>
  intro F f m y h;have b:=h c (gp ..);have R:=λx Z=>h x (gC _ Z);have O:Ev (dd Q k) t (fV F [53] [.a c]) (.h lh (.c (.n (.c (.a 66) 16) (.a 53)) 13) (.c (.n (.c (.a 66) 16) (.a 65)) 13)) (.d (eU ((t.a f).f<(t.a c).f))) t:=
   gG (v:=.a (t.a c).f) (u:=.a (t.a f).f) (gv (iG N m.a rfl b) rfl) (gv (iG N m.a (fu (n:=f) m.b) y) rfl) rfl
  by_cases q:(t.a f).f<(t.a c).f
  ·rw[decide_eq_true q] at O
   have I:f7 (dd Q k) t (fV F [53] [.a c]) BP .a t (eL (fV F [53] [.a c]) 65 (.a c)):=eG (jj O (eG (fO rfl rfl) fp)) fp;obtain⟨H,j,a⟩ :=D (eL (fV F [53] [.a c]) 65 (.a c)) c ⟨m.a,m.c,rfl⟩ b R;exact(eu H (by rw(occs:=eO) [HF,if_pos q];exact j) ((my (S F f m) I).trans a))
  ·rw[decide_eq_false q] at O
   have I:f7 (dd Q k) t (fV F [53] [.a c]) BP .a t (fV F [53] [.a c]):=eG (gU O fp) fp;obtain⟨H,j,a⟩ :=D (fV F [53] [.a c]) f ⟨m.a,m.c,m.b⟩ y R;exact(eu H (by rw(occs:=eO) [HF,if_neg q];exact j) ((my (S F f m) I).trans a))
theorem Rb{n:Int}{r:List Int}{k:Nat}(N:t.g=7)(h:∀c∈n::r,c∈t.b):gF Q (k+1) 36 [.b .c,.c em (eF (n::r))] t=d9 (.a (l9 t n (n::r)),t):=by
 rw[iB (B:=[66,95]) (b:=vK) (by decide) rfl rfl];let K:Fr:=eL (fh [66,95] [.b .c,.c em (eF (n::r))]) 65 (.a n);have G:∀F f,MR F (n::r) f->lQ (.a (.a 95)) [.c em (eF (n::r))] t K t F=true:=λF f m=>rfl;refine eR (Rg (t:=t) (Q:=Q) (k:=k) (X:=n::r) N G (n::r) K n ⟨rfl,rfl,rfl⟩ (h n (gp ..)) h) λA L g=>?_;have:f7 (dd Q k) t (fh [66,95] [.b .c,.c em (eF (n::r))]) vK (.b (.a (l9 t n (n::r)))) t A:=
  eG (fO (v:=.a n) rfl rfl) (eG (mO rfl (kO rfl) rfl rfl g) (iq (yc L.b rfl)))
 show gP (vK.c _ _ (fh [66,95] [.b .c,.c em (eF (n::r))]))=_;rw[this];rfl
theorem pV{o:eW}{f:Nat}{n x:Int}{G:gE}(h:Ev d t F e (.a x) E)(g:Ev d E F o (.b (.d n)) S)(q:(S.a n).l x f=d9 G):Ex d t F (.d o f e) .a (S.f n G) F:=
 nC h g (by
  show((((S.a n).l x f).map (S.f n))<|>_)=_;rw[q];rfl)
theorem EI{x:Int}(h:Ev d t F e (.a x) E)(g:F 66=d9 (.b .c))(N:E.g=7):Ex d t F (.d (.a 66) 21 e) .a { E with d:=x } F:=
 nC h (ip g) (by show d9 { E with d:=x,g:=max E.g 6 }=_;rw[N];show d9 _=d9 _;rw[show max 7 6=7 from rfl,←N])
theorem GZ{n k:Int}(z:k∈(t.a n).a)(C:(t.a n).a.length≤100000)(h:F i=d9 (.f n t.h))(g:F j=d9 (.a k)):Ev d t F (.J (.a i) (.a j)) (.a ((t.a n).a.idxOf k:Nat)) t:=by
 show(eW.q d (.a i) t F).bind _=_;rw[fg (v:=.f n t.h) h];show(ia t (.f n t.h)).bind _=_;rw[jK];show(eW.q d (.a j) t F).bind _=_;rw[fu g];show(jC t (.f n t.h)).bind _=_;have:jC t (.f n t.h)=d9 (t.a n).a:=by show(ia t (.f n t.h)).bind _=_;rw[jK];exact nO _
 rw[this];show(if _ then _ else _)=_;rw[if_pos ⟨z,C⟩]
theorem Ln{x:Nat}{n k y:Int}(h:Ev d t F O (.a y) E)(g:Ev d E F m (.a k) S)(Z:F x=d9 (.f n S.h))(z:0≤k∧k<((S.a n).a.length:Int)∧k<1000000):
  Ex d t F (.n x m O) .a (S.m n ((S.a n).a.set k.toNat y)) F:=by
 show(O.q d t F).bind _=_;rw[h];show(m.q d E F).bind _=_;rw[g];show s9 F S x (.a k) (.a y)=_;unfold s9;rw[Z];show(((if S.h=S.h then d9 n else eh:Option Int).bind _)<|>_)=_;rw[if_pos rfl];show((if _ then _ else _)<|>_)=_;rw[if_pos z];rfl
theorem Iu{z X:Int}{k:Nat}(N:t.g=7)(D:z∈t.b)(W:X∈t.b)(J:(t.a z).c=0):
  gF Q (k+1) 20 [.b .c,.a z,.a X] t=d9 (.b .e,{ t.f X { t.a X with c:=0 } with d:=X }):=by
 rw[iB (B:=[66,69,70]) (b:=rg) (by decide) rfl rfl];let K:Fr:=eL (fh [66,69,70] [.b .c,.a z,.a X]) 55 (.a 0);have:f7 (dd Q k) t (fh [66,69,70] [.b .c,.a z,.a X]) rg .a { t.f X { t.a X with c:=0 } with d:=X } K:=
  eG (fO (v:=.a 0) (J▸gv (iG N rfl rfl D) rfl) rfl) (eG (pV (x:=0) (F:=K) (fu rfl) (iG N rfl rfl W) rfl) (eG (jj (nA (x:=0) (y:=0) rfl rfl rfl) (eG (EI (x:=X) (fu rfl) rfl N) fp)) fp))
 show gP (rg.c _ _ (fh [66,69,70] [.b .c,.a z,.a X]))=_;rw[this];rfl
theorem It{z X p:Int}{k:Nat}(N:t.g=7)(D:z∈t.b)(b:X∈t.b)(J:(t.a z).c=p)(V:p≠0)(L:p∈t.b)(a:z∈(t.a p).a)(C:(t.a p).a.length≤1000):
  gF Q (k+1) 20 [.b .c,.a z,.a X] t=d9 (.b .e,(t.f X { t.a X with c:=p }).m p ((t.a p).a.set ((t.a p).a.idxOf z) X)):=by
 rw[iB (B:=[66,69,70]) (b:=rg) (by decide) rfl rfl];let K:Fr:=eL (fh [66,69,70] [.b .c,.a z,.a X]) 55 (.a p);let E:eB:=t.f X { t.a X with c:=p };have O:(E.a p).a=(t.a p).a:=by
  show(if p=X then _ else _:gE).a=_;by_cases q:p=X
  ·rw[if_pos q,q]
  ·rw[if_neg q]
 let H:Fr:=eL K 71 (.f p E.h);have g:(t.a p).a.idxOf z<(t.a p).a.length:=DJ.2 a;have G:Ev (dd Q k) E H (.J (.a 71) (.a 69)) (.a ((E.a p).a.idxOf z:Nat)) E:=GZ (n:=p) (k:=z) (O▸a) (by rw[O];lia) rfl rfl;have u:Ex (dd Q k) E H (.n 71 (.J (.a 71) (.a 69)) (.a 70)) .a (E.m p ((E.a p).a.set (((E.a p).a.idxOf z:Nat):Int).toNat X)) H:=
  Ln (n:=p) rfl G rfl (by rw[O];lia)
 have:f7 (dd Q k) t (fh [66,69,70] [.b .c,.a z,.a X]) rg .a (E.m p ((E.a p).a.set (((E.a p).a.idxOf z:Nat):Int).toNat X)) H:=
  eG (fO (v:=.a p) (J▸gv (iG N rfl rfl D) rfl) rfl) (eG (pV (x:=p) (F:=K) (fu rfl) (iG N rfl rfl b) rfl) (eG (gU (oj (x:=p) (y:=0) rfl rfl V)
   (eG (fO (v:=.f p E.h) (gv (iG (t:=E) (n:=p) N rfl rfl L) rfl) rfl) (eG u fp))) fp))
 show gP (rg.c _ _ (fh [66,69,70] [.b .c,.a z,.a X]))=_;rw[this,O];rfl
theorem yd{k:Int}(h:Ev d t F e (.a k) E)(g:F 66=d9 (.b .c))(z:k∈E.b)(C:E.b.length≤100000):Ex d t F (.q 66 e) .a { E with b:=E.b.filter λn=>eU (n≠k) } F:=by
 show(e.q d t F).bind _=_;rw[h];show(if _ then _ else _)=_;rw[if_pos ⟨JP g,z,C⟩]
theorem Lm{o:Nat}{n k:Int}(h:Ev d t F e (.a k) E)(g:F o=d9 (.b (.d n)))(N:E.h=t.h)(z:k∈(E.a n).a)(C:(E.a n).a.length≤100000):
  Ex d t F (.C o e) .a (E.m n ((E.a n).a.eraseIdx ((E.a n).a.idxOf k))) F:=by
 show(e.q d t F).bind _=_;rw[h];show(qx F o).bind _=_;rw[show qx F o=d9 n by unfold qx;rw[g];rfl];show(if _ then _ else _)=_;rw[if_pos ⟨N,z,C⟩]
theorem x9{w:Es}{b:Bool}(h:w.d d t F=d9 (b,E)):Ev d t F (.D oM w) (.d b) E:=by show(w.d d t F).map _=_;rw[h];rfl
theorem sg{w:Es}(h:Ev d t F e (.d em) E):(Es.a e w).d d t F=d9 (em,E):=by show(e.q d t F).bind _=_;rw[h];rfl
theorem vp{w:Es}{b:Bool}(h:Ev d t F e (.d eb) E)(g:w.d d E F=d9 (b,S)):(Es.a e w).d d t F=d9 (b,S):=by show(e.q d t F).bind _=_;rw[h];exact g
theorem uZ{x y:Int}(h:Ev d t F O (.a x) E)(g:Ev d E F m (.a y) S)(q:x≠y):Ev d t F (.h gd O m) (.d eb) S:=
 gG h g (by show d9 (!eU (x=y))=_;rw[decide_eq_false q];rfl)
theorem Pk{n a:Int}{k:Nat}(N:t.g=7)(W:n∈t.b)(V:(t.a n).c≠0)(L:(t.a n).c∈t.b)(i:fA (t.a (t.a n).c).b=a):
  gF Q (k+2) 32 [.b .c,.a n,.a a] t=d9 (.a (t.a n).c,t):=by
 rw[iB (B:=[66,53,56]) (b:=rf) (by decide) rfl rfl];let K:Fr:=eL (fh [66,53,56] [.b .c,.a n,.a a]) 68 (.b (.d n));have d:Ev (dd Q (k+1)) t K (.c (.a 68) 2) (.a (t.a n).c) t:=gv (i4 (n:=n) rfl) rfl;have:f7 (dd Q (k+1)) t (fh [66,53,56] [.b .c,.a n,.a a]) rf (.b (.a (t.a n).c)) t K:=
  eG (fO (iG N rfl (fu (n:=n) rfl) W) rfl) (iq (jj (x9 (vp (uZ (y:=0) d rfl V) (vp (nA (gI (eV (gv (iG N rfl d L) rfl) fJ) t8) (fu (n:=a) rfl) i) rfl))) (iq (i7 d rfl))))
 show gP (rf.c _ _ (fh [66,53,56] [.b .c,.a n,.a a]))=_;rw[this];rfl
def mE(t:eB)(s p:Int):eB:={ t.f (t.c+1) ⟨s,p,[],0,0,0,0,0,1,1,0,0⟩ with c:=t.c+1,b:=t.b++[t.c+1] }
theorem Cb{s p:Int}{k:Nat}(C:t.b.length≤100000):gF eb (k+4) 1028 [.b .c,.a s,.a p] t=d9 (.b (.d (t.c+1)),mE t s p):=by
 show(if 1028=1028 then(if eb=eb∧3≤k+3 then yZ [.b .c,.a s,.a p] t else eh) else _)=_;rw[if_pos rfl,if_pos ⟨rfl,WH ..⟩];exact if_pos ⟨rfl,C⟩
theorem EH{o:eW}{n:Int}{X:List Int}(h:Ev d t F e (.c eb (eF X)) E)(g:Ev d E F o (.b (.d n)) S):Ex d t F (.d o 3 e) .a { S.m n X with h:=S.h+1 } F:=
 nC h g (by
  show(eh<|>((l5 (eF X)).map λX=>{ S.m n X with h:=S.h+1 }))=_;rw[nO];rfl)
noncomputable def om(a:Int):Int:=if a=0 then 2 else 1
def sH(t:eB)(n a:Int):gE:=⟨om a,(t.a n).c,[],(t.a n).g,(t.a n).h,(t.a n).d,(t.a n).e,0,1,1,0,0⟩
def nK(t:eB)(n a:Int):eB:=(mE t (om a) (t.a n).c).f (t.c+1) (sH t n a)
def ud(t:eB)(n N:Int):eB:={ (t.f n { t.a n with c:=N }).m N [n] with h:=t.h+1 }
theorem Pl{n a:Int}{k:Nat}(N:t.g=7)(C:t.b.length≤1000)(b:n∈t.b)(j:n≠t.c+1)
  (r:(t.a n).c=0∨((t.a n).c≠0∧(t.a n).c∈t.b∧fA (t.a (t.a n).c).b≠a))
  (R:gF eb (k+4) 20 [.b .c,.a n,.a (t.c+1)] (nK t n a)=d9 (.b .e,S)) (f:S.g=7) (v:S.b=t.b++[t.c+1]):
  gF eb (k+5) 32 [.b .c,.a n,.a a] t=d9 (.a (t.c+1),ud S n (t.c+1)):=by
 rw[iB (B:=[66,53,56]) (b:=rf) (by decide) rfl rfl];let K:Fr:=eL (fh [66,53,56] [.b .c,.a n,.a a]) 68 (.b (.d n));let H:Fr:=eL K 92 (.b (.d (t.c+1)));have d:Ev (dd eb (k+4)) t K (.c (.a 68) 2) (.a (t.a n).c) t:=gv rfl rfl;have Y:Ev (dd eb (k+4)) t K (.D oM (.a (.h gd (.c (.a 68) 2) (.d 0)) (.a (.h fZ (.j 15 (.a (.c (.n (.c (.a 66) 16) (.c (.a 68) 2)) 1) .b)) (.a 56)) .b))) (.d em) t:=by
  rcases r with V|⟨V,L,i⟩
  ·exact x9 (sg (lU (y:=0) d rfl V))
  ·exact x9 (vp (uZ (y:=0) d rfl V) (sg (oj (gI (eV (gv (iG N rfl d L) rfl) fJ) t8) (fu (n:=a) rfl) i)))
 have O:Ev (dd eb (k+4)) t K (.v (.a 66) 28 (.a (.j 16 (.a (.a 56) .b)) (.a (.c (.a 68) 2) .b))) (.b (.d (t.c+1))) (mE t (om a) (t.a n).c):=
  iL rfl (eV (gI rfl (Uh (k:=k+3))) rfl) rfl (Cb (k:=k) (by lia))
 let E:=mE t (om a) (t.a n).c;have Z:E.a n=t.a n:=if_neg j;have o:E.a (t.c+1)=⟨om a,(t.a n).c,[],0,0,0,0,0,1,1,0,0⟩ :=if_pos rfl;have M:Ev (dd eb (k+4)) E H (.A (.a (.c (.a 68) 6) (.a (.c (.a 68) 7) (.a (.c (.a 68) 4) (.a (.c (.a 68) 5) .b))))) (.b (tp [(E.a n).d,(E.a n).e,(E.a n).g,(E.a n).h])) E:=
  kg (J:=[.a (E.a n).d,.a (E.a n).e,.a (E.a n).g,.a (E.a n).h]) rfl rfl (iO rfl)
 have I:∀(t:eB) (n:Int) (w G:gE),(t.f n w).f n G=t.f n G:=λt n w G=>by
  show{ t with a:=λx=>if x=n then G else(if x=n then w else t.a x) }={ t with a:=λx=>if x=n then G else t.a x }
  congr 1;funext x;by_cases e:x=n
  ·rw[if_pos e,if_pos e]
  ·rw[if_neg e,if_neg e,if_neg e]
 have g:∀(t:eB) (n:Int) (w:gE),(t.f n w).a n=w:=λt n w=>if_pos rfl;have s:rB E (t.c+1) [6,7,4,5] (eF [(E.a n).d,(E.a n).e,(E.a n).g,(E.a n).h])=d9 (nK t n a):=by
  rw[Z];show d9 ((((E.f (t.c+1) { E.a (t.c+1) with d:=(t.a n).d }).f (t.c+1) { ((E.f (t.c+1) { E.a (t.c+1) with d:=(t.a n).d }).a (t.c+1)) with e:=(t.a n).e }).f (t.c+1) _).f (t.c+1) _)=_;rw(occs:=eO) [g,I,g,I,g,I,o];rfl
 have:f7 (dd eb (k+4)) t (fh [66,53,56] [.b .c,.a n,.a a]) rf (.b (.a (t.c+1))) (ud S n (t.c+1)) H:=
  eG (fO (iG N rfl rfl b) rfl) (eG (gU Y fp) (eG (fO O rfl) (eG (u6 (n:=t.c+1) rfl M rfl s)
   (eG (j0 (gI rfl R)) (eG (pV (n:=n) (x:=t.c+1) rfl rfl rfl)
   (eG (EH (n:=t.c+1) (X:=[n]) rfl rfl) (iq (i7 rfl rfl))))))))
 show gP (rf.c _ _ (fh [66,53,56] [.b .c,.a n,.a a]))=_;rw[this];rfl
noncomputable def wQ(t:eB)(n:Int):eB:={ t with b:=t.b.filter λm=>eU (m≠n) }
theorem P5(h:Un t T)(M:t.b.length≤1000){n:Int}(W:n∈t.b)(X:(t.a n).a=[]){k:Nat}:gF Q (k+2) 21 [.b .c,.a n] t=d9 (.b .e,wQ t n):=by
 have Z:=xj (Q:=Q) h M W (k:=k);have e:PP t T n=[n]:=by rw[lw h.e W,X];rfl
 rw[e] at Z;rw[iB (B:=[66,53]) (b:=vG) (by decide) rfl rfl];let G:Fr:=fh [66,53] [.b .c,.a n];have d:f7 (dd Q (k+1)) t (fV G [72] [.a n]) (.a (.q 66 (.a 72)) .b) .a (wQ t n) (fV G [72] [.a n]):=eG (yd (k:=n) rfl rfl W (by lia)) fp;have r:j7 (lQ (.a (.j 19 (.a (.a 66) (.a (.a 53) .b)))) [.c eb (eF [n])] t G) [72] (λt F=>(Ss.a (.q 66 (.a 72)) .b).c (dd Q (k+1)) t F) ((eF [n]).map λx=>[x]) t G=d9 (.a,wQ t n,fV G [72] [.a n]):=
  (my rfl d).trans (nM rfl)
 have:f7 (dd Q (k+1)) t G vG .a (wQ t n) (fV G [72] [.a n]):=
  eG (mO (lK (gI rfl Z)) (kO rfl) rfl rfl r) fp
 show gP (vG.c _ _ G)=_;rw[this];rfl
theorem yb{f:Nat}(h:F i=d9 (.b .c))(y:([.j,.a t.c,.a t.l,.a 3,.a 2,.a t.d,.a t.i]:List eD)[f]? =d9 v)(N:t.g=7):Ev d t F (.c (.a i) (16+f)) v t:=by
 refine gv (ip h) ?_;show(if 16≤16+f then t.n[16+f-16]? else eh)=_;rw[if_pos (xA ..),Kw,v9 N,y]
theorem Li{n:Int}(N:t.g=7)(h:F i=d9 (.b .c))(g:Ev d t F e (.a n) t)(W:n∈t.b):Ev d t F (.L (.c (.a i) 16) e) (.b (.d n)) t:=by
 show(eW.q d _ t F).bind _=_;rw[yb (f:=0) (v:=.j) h rfl N];show(e.q d t F).bind _=_;rw[g];show d9 (eD.b (if n∈t.b then .d n else .e),t)=_;rw[if_pos W]
theorem Do{n:Int}{k:Nat}(N:t.g=7)(W:n∈t.b):gF Q (k+1) 1029 [.b .c,.a n] t=d9 (.b (.d n),t):=by
 rw[iB (B:=[50,53]) (b:=vB) (by decide) rfl rfl];have:f7 (dd Q k) t (fh [50,53] [.b .c,.a n]) vB (.b (.b (.d n))) t _:=
  eG (fO (Li N rfl (fu (n:=n) rfl) W) rfl) (eG (gU (gG (v:=.b (.d n)) (u:=.b .e) (i4 rfl) rfl rfl) fp) (iq (yc rfl rfl)))
 show gP (vB.c _ _ (fh [50,53] [.b .c,.a n]))=_;rw[this];rfl
theorem Hs{n:Int}{k:Nat}(N:t.g=7)(W:n∈t.b)(S:(t.a n).b=0):gF Q (k+2) 1030 [.b .c,.a n] t=d9 (.b (.d n),t):=by
 rw[iB (B:=[50,53]) (b:=vy) (by decide) rfl rfl];have:f7 (dd Q (k+1)) t (fh [50,53] [.b .c,.a n]) vy (.b (.b (.d n))) t _:=
  eG (fO (iL (ip rfl) (eV (fu (n:=n) rfl) fJ) rfl (Do (Q:=Q) (k:=k) N W)) rfl) (eG (gU (lU (y:=0) (gv (i4 (n:=n) rfl) rfl) rfl S) fp) (iq (yc rfl rfl)))
 show gP (vy.c _ _ (fh [50,53] [.b .c,.a n]))=_;rw[this];rfl
def kX(t:eB)(n:Int):eB:={ t.f n { t.a n with f:=t.l+1 } with l:=t.l+1 }
theorem JM{n:Int}{k:Nat}(N:t.g=7)(W:n∈t.b):gF Q (k+1) 1031 [.b .c,.a n] t=d9 (.b .e,kX t n):=by
 rw[iB (B:=[50,53]) (b:=vA) (by decide) rfl rfl];let F:Fr:=fh [50,53] [.b .c,.a n];let E:eB:={ t with l:=t.l+1 };have I:Ex (dd Q k) t F (.d (.a 50) 18 (.p io (.c (.a 50) 18) (.d 1))) .a E F:=nC (v:=.a (t.l+1)) (u:=.b .c) (hZ (v:=.a t.l) (u:=.a 1) (yb (f:=2) (v:=.a t.l) rfl rfl N) rfl rfl) rfl rfl;have w:Ex (dd Q k) E F (.d (.n (.c (.a 50) 16) (.a 53)) 13 (.c (.a 50) 18)) .a (kX t n) F:=
  pV (x:=t.l+1) (n:=n) (yb (t:=E) (f:=2) (v:=.a (t.l+1)) rfl rfl N) (jh (u:=.a n) (yb (t:=E) (f:=0) (v:=.j) rfl rfl N) (fu rfl) (by show(if _ then _ else _)=_;exact if_pos W)) rfl
 have:f7 (dd Q k) t F vA .a (kX t n) F:=eG I (eG w fp);show gP (vA.c _ _ F)=_;rw[this];rfl
theorem CY{x:Int}(N:t.g=7):Internal.wV t 22 (.b .c) (.a x)=d9 { t with i:=x }:=by
 show(if 6≤t.g then d9 { t with i:=x,g:=max t.g 7 } else eh)=_;rw[if_pos (by lia)];have:max t.g 7=t.g:=by rw[N];rfl
 rw[this]
theorem TZ{n:Int}{k:Nat}(N:t.g=7)(W:n∈t.b)(S:(t.a n).b=0):gF Q (k+3) 1032 [.b .c,.a n] t=d9 (.b .e,kX { t with i:=n } n):=by
 rw[iB (B:=[50,53]) (b:=vz) (by decide) rfl rfl];let F:Fr:=fh [50,53] [.b .c,.a n];let E:eB:={ t with i:=n };have I:Ex (dd Q (k+2)) t F (.d (.a 50) 22 (.c (.v (.a 50) 30 (.a (.a 53) .b)) 0)) .a E F:=
  nC (v:=.a n) (u:=.b .c) (gv (v:=.b (.d n)) (iL rfl rfl rfl (Hs (Q:=Q) (k:=k) N W S)) rfl) rfl (CY N)
 have w:Ex (dd Q (k+2)) E F (.h (.v (.a 50) 31 (.a (.a 53) .b))) .a (kX E n) F:=
  j0 (iL rfl rfl rfl (JM (t:=E) (Q:=Q) (k:=k+1) N W))
 have:f7 (dd Q (k+2)) t F vz .a (kX E n) F:=eG I (eG w fp);show gP (vz.c _ _ F)=_;rw[this];rfl
abbrev Ax(a:Int):Prop:=a=0∨a=1
def vg(t:eB)(a n:Int):Prop:=(t.a n).b≠0->if fA (t.a n).b=a then((t.a n).a.map (sz t a)).sum=sz t a n else∀c∈(t.a n).a,sz t a c=sz t a n
structure Gc(t:eB)(rk:Int->Nat)(q r:Int):Prop extends y:Ok t rk where
 h:t.d∈t.b
 m:(t.a t.d).c=0
 g:∀n∈t.b,1≤n∧n≤t.c
 C:t.b.Nodup
 D:∀n∈t.b,n≠t.d->(t.a n).c∈t.b∧n∈(t.a (t.a n).c).a
 B:BB t
 v:∀n∈t.b,(t.a n).b≠0->n≠q->2≤(t.a n).a.length
 A:∀n∈t.b,n≠r->∀c∈(t.a n).a,(t.a c).b≠(t.a n).b
 x:∀a,Ax a->∀n∈t.b,(t.a n).b=0->ko a≤sz t a n
 z:∀a,Ax a->sz t a t.d≤100
theorem Gc.N(h:Gc t T q r)(n:Int)(W:n∈t.b)(e:n≠t.d){G:Prop}(k:(t.a n).c∈t.b->n∈(t.a (t.a n).c).a->G):G:=fe (h.D n W e) k
structure Gx(t:eB)(rk:Int->Nat)(q r:Int):Prop extends O:Gc t rk q r where
 u:∀a,Ax a->∀n∈t.b,vg t a n
theorem IY{l:List Int}{f g:Int->Int}(h:∀c∈l,f c≤g c):(l.map f).sum≤(l.map g).sum:=by
 induction l with
 |nil=>exact ja _
 |cons c r D=>
  rw[gj,gj,kr,kr];exact Int.add_le_add (h c (gp ..)) (D λx Z=>h x (gC _ Z))
theorem Cz{B:Int}:∀{l:List Int},l≠[]->(∀x∈l,x≤B)->kM l≤B
 |[],h,_=>absurd rfl h
 |[x],_,h=>h x (gp ..)
 |x::y::r,_,h=>Int.max_le.2 ⟨h x (gp ..),Cz (l:=y::r) (List.cons_ne_nil _ _) λz f=>h z (gC _ f)⟩
theorem Gx.U(h:Gx t T q r)(M:Ax a){n:Int}(W:n∈t.b):LL t T a n≤sz t a n:=by
 refine h.e.M (P:=λn=>LL t T a n≤sz t a n) ?_ W;intro n W D;rw[lW h.e W];by_cases s:(t.a n).b=0
 ·rw[if_pos s];exact h.x a M n W s
 ·rw[if_neg s]
  have f:=h.u a M n W s;by_cases c:fA (t.a n).b=a
  ·rw[if_pos c] at f ⊢;rw[←f];exact IY D
  ·rw[if_neg c] at f ⊢
   refine Cz (λe=>s ((h.i n W).2 (nj.1 e))) λx Z=>?_
   (refine fP Z λc X O=>?_;(clear Z;obtain rfl:=O))
   exact f c X▸D c X
theorem Gx.nn(h:Gx t T q r)(M:Ax a){n:Int}(W:n∈t.b):0≤sz t a n:=jX (qV h.e W) (h.U M W)
theorem Gx.ai(h:Gx t T q r)(M:Ax a){n c:Int}(W:n∈t.b)(X:c∈(t.a n).a):sz t a c≤sz t a n:=by
 have f:=h.u a M n W λs=>by rw[(h.i n W).1 s] at X;cases X
 by_cases s:fA (t.a n).b=a
 ·rw[if_pos s] at f;rw[←f]
  exact zx (λx Z=>by(refine fP Z λy B m=>?_;(clear Z;obtain rfl:=m));exact h.nn M (h.d n W y B).1) _ (jY X)
 ·rw[if_neg s] at f;exact Av (f c X)
theorem S5(T:Int->Nat):∀l:List Int,∃f,∀n∈l,T n<f:=by
 intro G
 induction G with
 |nil=>
  exact⟨0,λU h=>absurd h iI⟩
 |cons n l D=>
  refine fL (D) λf h=>?_;refine⟨f+T n+1,λm Y=>?_⟩;rcases gy.1 Y with e|Y
  ·rw[e];lia
  ·have:=h m Y;lia
theorem Gx.ac(h:Gx t T q r){P:Int->Prop}(w:P t.d)(S:∀n∈t.b,∀c∈(t.a n).a,P n->P c){n:Int}(W:n∈t.b):P n:=by
 refine fL (S5 T t.b) λB i=>?_;have:∀k n,n∈t.b->B≤T n+k->P n:=by
  intro k
  induction k with
  |zero=>intro n W q;exact absurd (i n W) (Kx.2 q)
  |succ k D=>
   intro n W q;by_cases e:n=t.d
   ·rw[e];exact w
   ·refine h.N n W e λu A=>?_
    exact S _ u n A (D _ u (by have:=(h.d _ u n A).2;lia))
 exact this B n W (WH ..)
theorem Gx.W(h:Gx t T q r)(M:Ax a){n:Int}(W:n∈t.b):sz t a n≤100:=
 h.ac (P:=λn=>sz t a n≤100) (h.z a M) (λn W c X q=>jX (h.ai M W X) q) W
theorem Gx.Z(h:Gx t T q r){n:Int}(W:n∈t.b):n∈PP t T t.d:=
 h.ac (P:=λn=>n∈PP t T t.d) (lX h.e h.h) (λn W c X q=>pY h.e h.h q X) W
theorem PX{l:List Int}{f:Int->List Int}{c:Int}(X:c∈l):(f c).length≤(l.flatMap f).length:=by
 induction l with
 |nil=>cases X
 |cons x r D=>
  rw[kY,il];rcases gy.1 X with e|X
  ·rw[e];lia
  ·have:=D X;lia
theorem Gx.aj(h:Gx t T q r):∃T,Gx t T q r∧∀n∈t.b,T n<61:=
 (eu (λn=>(PP t T n).length) ({ h with d:=λn W c X=>⟨(h.d n W c X).1,by
  show _<(PP t T n).length;rw[lw h.e W];exact WN (PX X)⟩ }) (λn W=>WN (im (oU h.l W) h.j)))
theorem Gx.ak(h:Gx t T 0 0)(q r:Int):Gx t T q r:=
 { h with v:=λn W s U=>h.v n W s λe=>by have:=(h.g n W).1;lia,A:=λn W U=>h.A n W λe=>by have:=(h.g n W).1;lia }
structure Po(t:eB):Prop where
 b:(t.a t.d).g=0
 c:(t.a t.d).h=0
 a:∀n∈t.b,Bu t n
theorem Gx.te(h:Gx t T 0 0)(p:Po t)(S:t.i∈t.b)(C:(t.a t.i).b=0){k:Nat}:gF eb (k+3) 28 [.b .c] t=d9 (.b .e,t):=
 UT h.y h.h h.m p.b p.c (λn W=>h.Z W) h.C p.a S C
theorem CT{P:Int->Int×Int}:sz (gz t P) a=sz t a:=rfl
theorem Gx.Y{P:Int->Int×Int}(h:Gx t T q r):Gx (gz t P) T q r:=
 { y:=h.y.ab,h:=h.h,m:=h.m,g:=h.g,C:=h.C,D:=h.D,B:=h.B,v:=h.v,A:=h.A,u:=h.u,x:=h.x,z:=h.z }
theorem sh{s:Int}:Ax (fA s):=by
 unfold fA;by_cases h:s=2
 ·rw[if_pos h];exact eH rfl
 ·rw[if_neg h];exact eI rfl
theorem Ax.f(h:Ax a):Ax (1-a)∧a≠1-a:=by rcases h with rfl|rfl<;>exact⟨by decide,by decide⟩
theorem T0{P:Int->Int×Int}{s b:Int}(j:fA s=b):∀(W:List Int) (l:Int×Int),(∀p∈l6 t s l W,P p.1=p.2)->
  Sq (gz t P) b (if b=0 then l.1 else l.2) W ((if b=0 then l.1 else l.2)+(W.map (sz t b)).sum)∧∀c∈W,pl (gz t P) (1-b) c=if b=0 then l.2 else l.1:=by
 intro W
 induction W with
 |nil=>intro l U;exact⟨(Dw _).symm,λU h=>absurd h iI⟩
 |cons c r D=>
  intro l h;have e:=h (c,l) (gp ..);have D:=D (nW t s l c) λp J=>h p (gC _ J);have Z:Ax b:=j▸sh;have i:pl (gz t P) b c=(if b=0 then l.1 else l.2)∧pl (gz t P) (1-b) c=if b=0 then l.2 else l.1:=by
   show(if b=0 then(P c).1 else(P c).2)=_∧(if 1-b=0 then(P c).1 else(P c).2)=_;rw[show P c=l from e];clear j D;clear D;rcases Z with rfl|rfl<;>exact⟨rfl,rfl⟩
  have u:(if b=0 then(nW t s l c).1 else(nW t s l c).2)=(if b=0 then l.1 else l.2)+sz t b c∧(if b=0 then(nW t s l c).2 else(nW t s l c).1)=if b=0 then l.2 else l.1:=by
   unfold nW;rw[j];clear j D i;clear D;rcases Z with rfl|rfl<;>exact⟨rfl,rfl⟩
  rw[u.1,u.2] at D;refine⟨⟨i.1,?_⟩,λx Z=>?_⟩
  ·rw(occs:=eO) [gj,kr,←Int.add_assoc];exact D.1
  ·rcases gy.1 Z with e|Z
   ·rw[e];exact i.2
   ·exact D.2 x Z
theorem CR(h:Gx t T 0 0){k:Nat}:∃f,gF eb (k+2) 25 [.b .c] t=d9 (.b .e,gz t f)∧Po (gz t f):=by
 refine f5 (T7 (k:=k) h.y h.h) λf g V o=>?_;refine⟨f,g,congrArg kG V,congrArg DY V,λn W=>⟨λs=>⟨(h.i n W).1 s,h.x 0 (eH rfl) n W s,h.x 1 (eI rfl) n W s⟩,λs=>?_⟩⟩;refine fe (T0 (t:=t) (P:=f) (b:=fA (t.a n).b) rfl (t.a n).a (f n) (o.b t.d (gp ..) n (h.Z W))) λI w=>?_;have C:=sh (s:=(t.a n).b);have Y:=h.u _ C n W s;rw[if_pos rfl] at Y;refine⟨h.v n W s λe=>by have:=(h.g n W).1;lia,λc X=>⟨(h.d n W c X).1,h.k n W c X,h.A n W (λe=>by have:=(h.g n W).1;lia) c X,?_,?_⟩,?_⟩
 ·have j:=h.u _ C.f.1 n W s
  rw[if_neg C.f.2] at j;exact j c X
 ·refine(w c X).trans ?_
  show _=if 1-fA (t.a n).b=0 then(f n).1 else(f n).2;rcases C with e|e<;>rw[e]<;>rfl
 ·show Sq (gz t f) (fA (t.a n).b) (if fA (t.a n).b=0 then(f n).1 else(f n).2) (t.a n).a ((if fA (t.a n).b=0 then(f n).1 else(f n).2)+sz t (fA (t.a n).b) n)
  rw[←Y];exact I
noncomputable def mw(t:eB)(p c:Int):List Int:=if(t.a c).b=(t.a p).b then(t.a c).a else[c]
noncomputable def nT(t:eB)(p:Int):List Int->List Int->List Int
 |l,[]=>l
 |l,c::r=>nT t p (if(t.a c).b=(t.a p).b then l.filter (λn=>eU (n≠c)) else l) r
noncomputable def jq(t:eB)(l:List Int):eB:={ t with b:=l }
noncomputable def wK(t:eB)(p:Int)(l:List Int):eB:={ t with a:=λm=>if m∈l then{ t.a m with c:=p } else t.a m }
theorem Sr{c:Int}{r:List Int}:wK (t.f c { t.a c with c:=p }) p r=wK t p (c::r):=by
 show{ t with a:=λm=>if m∈r then{ (if m=c then{ t.a c with c:=p } else t.a m) with c:=p } else if m=c then{ t.a c with c:=p } else t.a m }={ t with a:=_ }
 congr 1;funext m
 by_cases e:m=c
 ·rw[if_pos e,if_pos (show m∈c::r from e▸gp ..),e,ite_self]
 ·rw[if_neg e]
  by_cases q:m∈r
  ·rw[if_pos q,if_pos (gC _ q)]
  ·rw[if_neg q,if_neg λh=>(gy.1 h).elim e q]
theorem Lo{o:eW}{x:Nat}{n:Int}{X:List Int}(h:F x=d9 (.c eb (eF X)))(g:Ev d t F o (.b (.d n)) E):Ex d t F (.B o x) .a { E.m n X with h:=E.h+1 } (λj=>if j=x then eh else F j):=by
 show(jE F x).bind _=_;rw[qr h];show(o.q d t F).bind _=_;rw[g];show((l5 (eF X)).map _)=_;rw[nO];rfl
structure JF(p:Int)(F:Fr)(l:List Int):Prop where
 a:F 66=d9 (.b .c)
 d:F 53=d9 (.a p)
 c:F 68=d9 (.b (.d p))
 b:F 65=d9 (.c eb (eF l))
noncomputable abbrev BM:Ss:=.a (.a 72 (.n (.c (.a 66) 16) (.a 73))) (.a (.c (.h fZ (.c (.a 72) 1) (.c (.a 68) 1)) (.a (.r 65 (.c (.a 72) 3)) (.a (.q 66 (.a 73)) .b)) (.a (.m 65 (.a 73)) .b)) .b)
noncomputable abbrev FI:Ss:=.a (.d (.n (.c (.a 66) 16) (.a 73)) 2 (.a 53)) .b
theorem Qq{k:Nat}(N:t.g=7)(i:∀c,c∈t.b->(t.a c).a.length≤60){P:eB->Fr->Bool}(S:∀l F,P (jq t l) F=eb):∀(W:List Int) (l h:List Int) F,JF p F h->W.Nodup->l.length≤60->(∀c∈W,c∈l∧c∈t.b)->h.length+60*W.length≤5000->
  ∃A,JF p A (h++W.flatMap (mw t p))∧j7 P [73] (λt F=>BM.c (dd Q k) t F) ((eF W).map λx=>[x]) (jq t l) F=d9 (.a,jq t (nT t p l W),A):=by
 intro G
 induction G with
 |nil=>
  intro l h F f U U U U;exact(eu F (by rw[DF,mJ];exact f) (nM (S l F)))
 |cons c r D=>
  intro l h F f E C X j;rw[kE] at E;rw[lF] at j;have K:=X c (gp ..);have b:=i c K.2;have I:Ex (dd Q k) (jq t l) (fV F [73] [.a c]) (.a 72 (.n (.c (.a 66) 16) (.a 73))) .a (jq t l) (eL (fV F [73] [.a c]) 72 (.b (.d c))):=fO (iG N f.a rfl K.1) rfl;rw(occs:=eO) [kY,←ng];show∃A,_∧j7 P [73] _ ([.a c]::(eF r).map λx=>[x]) _ _=d9 (.a,jq t (nT t p (if(t.a c).b=(t.a p).b then l.filter (λn=>eU (n≠c)) else l) r),A);by_cases q:(t.a c).b=(t.a p).b
  ·rw[show mw t p c=(t.a c).a from if_pos q,if_pos q]
   have o:Ex (dd Q k) (jq t l) (eL (fV F [73] [.a c]) 72 (.b (.d c))) (.r 65 (.c (.a 72) 3)) .a (jq t l) (eL (eL (fV F [73] [.a c]) 72 (.b (.d c))) 65 (.c eb (eF (h++(t.a c).a)))):=by
    rw[←oJ];exact A6 rfl f.b jK (by rw[gB,gB];show h.length+(t.a c).a.length≤_;lia)
   have w:f7 (dd Q k) (jq t l) (fV F [73] [.a c]) BM .a (jq t (l.filter λn=>eU (n≠c))) (eL (eL (fV F [73] [.a c]) 72 (.b (.d c))) 65 (.c eb (eF (h++(t.a c).a)))):=
    eG I (eG (jj (nA (x:=(t.a c).b) (y:=(t.a p).b) (gv rfl rfl) (gv (i4 (n:=p) f.c) rfl) q) (eG o (eG (yd (fu (n:=c) rfl) f.a K.1 (im C (by decide))) fp))) fp)
   obtain⟨A,L,g⟩ :=D (l.filter λn=>eU (n≠c)) (h++(t.a c).a) (eL (eL (fV F [73] [.a c]) 72 (.b (.d c))) 65 (.c eb (eF (h++(t.a c).a)))) ⟨f.a,f.d,f.c,rfl⟩ E.2 (im (qA ..) C)
    (λx Z=>⟨lG.2 ⟨(X x (gC _ Z)).1,decide_eq_true λe=>E.1 (e▸Z)⟩,(X x (gC _ Z)).2⟩) (by rw[il];lia)
   exact(eu A L ((my (S l F) w).trans g))
  ·rw[show mw t p c=[c] from if_neg q,if_neg q]
   have R:Ex (dd Q k) (jq t l) (eL (fV F [73] [.a c]) 72 (.b (.d c))) (.m 65 (.a 73)) .a (jq t l) (eL (eL (fV F [73] [.a c]) 72 (.b (.d c))) 65 (.c eb (eF (h++[c])))):=by
    rw[←oJ];exact qM (y:=.a c) rfl f.b (by rw[gB];lia)
   have w:f7 (dd Q k) (jq t l) (fV F [73] [.a c]) BM .a (jq t l) (eL (eL (fV F [73] [.a c]) 72 (.b (.d c))) 65 (.c eb (eF (h++[c])))):=
    eG I (eG (gU (oj (x:=(t.a c).b) (y:=(t.a p).b) (gv rfl rfl) (gv (i4 (n:=p) f.c) rfl) q) (eG R fp)) fp)
   obtain⟨A,L,g⟩ :=D l (h++[c]) (eL (eL (fV F [73] [.a c]) 72 (.b (.d c))) 65 (.c eb (eF (h++[c])))) ⟨f.a,f.d,f.c,rfl⟩ E.2 C (λx Z=>X x (gC _ Z)) (by rw[il];show h.length+1+_≤_;lia);exact(eu A L ((my (S l F) w).trans g))
theorem Qr{k:Nat}{l:List Int}{P:eB->Fr->Bool}(S:∀t F,JF p F l->P t F=eb):∀(W:List Int) (t:eB) F,t.g=7->JF p F l->(∀c∈W,c∈t.b)->
  ∃A,JF p A l∧j7 P [73] (λt F=>FI.c (dd Q k) t F) ((eF W).map λx=>[x]) t F=d9 (.a,wK t p W,A):=by
 intro G
 induction G with
 |nil=>
  intro t F N f U;exact(eu F f ((nM (S t F f)).trans (by rw[show wK t p []=t from congrArg (λw=>{ t with a:=w }) (funext λm=>if_neg iI)])))
 |cons c r D=>
  intro t F N f X;have I:f7 (dd Q k) t (fV F [73] [.a c]) FI .a (t.f c { t.a c with c:=p }) (fV F [73] [.a c]):=eG (pV (n:=c) (x:=p) (fu f.d) (iG N f.a rfl (X c (gp ..))) rfl) fp;obtain⟨A,L,g⟩ :=D (t.f c { t.a c with c:=p }) (fV F [73] [.a c]) N ⟨f.a,f.d,f.c,f.b⟩ λx Z=>X x (gC _ Z);rw[Sr] at g;exact(eu A L ((my (S t F f) I).trans g))
theorem Sx{x:Int}:∀(W l:List Int),x∈nT t p l W↔x∈l∧¬(x∈W∧(t.a x).b=(t.a p).b):=by
 intro G
 induction G with
 |nil=>
  intro l;exact⟨λh=>⟨h,λq=>iI q.1⟩,And.left⟩
 |cons c r D=>
  intro l;show x∈nT t p (if _ then _ else _) r↔_;rw(occs:=eO) [D];by_cases q:(t.a c).b=(t.a p).b
  ·rw(occs:=eO) [if_pos q,lG]
   exact⟨λw=>fe w λo d=>fe o λa b=>⟨a,λu=>fe u λh s=>(gy.1 h).elim (of_decide_eq_true (p:=x≠c) b) λh=>d ⟨h,s⟩⟩,λE=>fe E λa b=>⟨⟨a,by rw(occs:=eO) [decide_eq_true_iff];exactλe=>b ⟨e▸gp ..,e▸q⟩⟩,λh=>b ⟨gC _ h.1,h.2⟩⟩⟩
  ·rw(occs:=eO) [if_neg q]
   exact⟨λH=>fe H λa c=>⟨a,λk=>fe k λh s=>(gy.1 h).elim (λe=>q (e▸s)) λh=>c ⟨h,s⟩⟩,λj=>fe j λa b=>⟨a,λh=>b ⟨gC _ h.1,h.2⟩⟩⟩
theorem Ik:∀(W l:List Int),(nT t p l W).Sublist l:=by
 intro G
 induction G with
 |nil=>
  intro l;exact V' l
 |cons c r D=>
  intro l;show(nT t p (if _ then _ else _) r).Sublist l;by_cases q:(t.a c).b=(t.a p).b
  ·rw[if_pos q];exact(D _).trans Wj
  ·rw[if_neg q];exact D _
def jm(t:eB)(p:Int):List Int:=(t.a p).a.flatMap (mw t p)
def kn(t:eB)(p:Int):eB:={ (wK (jq t (nT t p t.b (t.a p).a)) p (jm t p)).m p (jm t p) with h:=t.h+1 }
theorem Hi(h:Ok t T){p:Int}(J:p∈t.b)(z:∀c∈jm t p,c∈nT t p t.b (t.a p).a){k:Nat}:gF Q (k+1) 34 [.b .c,.a p] t=d9 (.b .e,kn t p):=by
 rw[iB (B:=[66,53]) (b:=vH) (by decide) rfl rfl];have E:∀c,c∈t.b->(t.a c).a.length≤60:=λc X=>im (lx h.l X) h.j;let K:Fr:=eL (eL (fh [66,53] [.b .c,.a p]) 68 (.b (.d p))) 65 (.c eb []);have R:jq t t.b=t:=rfl;refine eR (Qq (t:=t) (Q:=Q) (k:=k) (p:=p) (P:=lQ (.a (.c (.a 68) 3)) [.f p t.h] t K) h.f E (λl F=>by
   have:pC t (jq t l) [.f p t.h]=true:=iC.2 λv N=>decide_eq_true (by rw[gR.1 N];exact⟨rfl,rfl⟩);show(pC t (jq t l) _&&_)=eb;rw[this];rfl) (t.a p).a t.b [] K ⟨rfl,rfl,rfl,rfl⟩ (h.o p J) h.j (λc X=>⟨(h.d p J c X).1,(h.d p J c X).1⟩) (by have:=E p J;show 0+_≤_;lia)) λH a d=>?_
 rw[AD] at a;have u:∀{F},JF p F (jm t p)->iY F 65=d9 (jm t p):=λf=>by unfold iY;rw[qr f.b];exact nO _
 refine eR (Qr (Q:=Q) (k:=k) (p:=p) (l:=jm t p) (P:=lQ (.a (.a 65)) [.c em (eF (jm t p))] (jq t (nT t p t.b (t.a p).a)) H) (λt F f=>by
   show(_&&(mY H F (.a 65)&&eb))=eb;have:mY H F (.a 65)=true:=by
    show(!(iY H 65).isSome||eU (iY F 65=iY H 65))=eb;rw[u f,u a,decide_eq_true rfl,pG]
   rw[this];rfl) (jm t p) (jq t (nT t p t.b (t.a p).a)) H h.f a z) λg D W=>?_
 have b:((iF.a (.a 65)).d.zip [eD.c em (eF (jm t p))]).all (λp=>mI H p.1 p.2)=true:=by
  show(mI H (.a 65) _&&eb)=eb;have:mI H (.a 65) (.c em (eF (jm t p)))=true:=by
   show(!(jE H 65).isSome||(iY H 65).isSome)=eb;rw[u a];exact pG _
  rw[this];rfl
 have:f7 (dd Q k) t (fh [66,53] [.b .c,.a p]) vH .a (kn t p) (λj=>if j=65 then eh else g j):=
  eG (fO (iG h.f rfl rfl J) rfl) (eG (fO rfl rfl) (eG (mO rfl (kO jK) rfl rfl d)
   (eG (mO (lK (fg a.b)) (kO rfl) rfl b W) (eG (Lo (n:=p) D.b (i4 D.c)) fp))))
 show gP (vH.c _ _ (fh [66,53] [.b .c,.a p]))=_;rw[this];rfl
structure Kp(g:Int)(t t':eB):Prop where
 e:∀x∈t.b,(t.a x).b=0->x≠g->x∈t'.b
 a:∀x∈t'.b,(x∈t.b∧(t'.a x).b=(t.a x).b∧(t'.a x).f=(t.a x).f)∨(t.c<x∧(t'.a x).f=0)
 h:t.c≤t'.c
 j:∀x∈t.b,x≤t.c
 i:t'.l=t.l
 b:t'.i=t.i
 d:t'.k=t.k
 c:t'.e=t.e
theorem Kp.f(h:Kp g t E)(k:Kp g E S):Kp g t S where
 e x Z s e:=by
  have K:=h.e x Z s e;rcases h.a x K with ⟨_,q,_⟩ |⟨l,_⟩
  ·exact k.e x K (q.trans s) e
  ·exact absurd (h.j x Z) (rF.2 l)
 a x Z:=by
  rcases k.a x Z with ⟨K,s,u⟩ |⟨l,u⟩
  ·rcases h.a x K with ⟨I,w,A⟩ |⟨l,A⟩
   ·exact eH ⟨I,s.trans w,u.trans A⟩
   ·exact eI ⟨l,u.trans A⟩
  ·exact eI ⟨Int.lt_of_le_of_lt h.h l,u⟩
 h:=jX h.h k.h
 j:=h.j
 i:=k.i.trans h.i
 b:=k.b.trans h.b
 d:=k.d.trans h.d
 c:=k.c.trans h.c
theorem sS{c:Int}:c∈jm t p↔∃b∈(t.a p).a,((t.a b).b=(t.a p).b∧c∈(t.a b).a)∨((t.a b).b≠(t.a p).b∧c=b):=by
 refine qB.trans ⟨λw=>eR w λb j h=>⟨b,j,?_⟩,λo=>eR o λb j h=>⟨b,j,?_⟩⟩
 ·unfold mw at h
  by_cases s:(t.a b).b=(t.a p).b
  ·rw[if_pos s] at h;exact eH ⟨s,h⟩
  ·rw[if_neg s] at h;exact eI ⟨s,gR.1 h⟩
 ·unfold mw
  rcases h with ⟨s,h⟩ |⟨s,h⟩
  ·rw[if_pos s];exact h
  ·rw[if_neg s];exact gR.2 h
theorem UG{f:Int->List Int}{g:Int->Int}{l:List Int}(h:∀b∈l,((f b).map g).sum=g b):((l.flatMap f).map g).sum=(l.map g).sum:=by
 induction l with
 |nil=>rfl
 |cons b r D=>rw[kY,lb,wZ,h b (gp ..),D λx Z=>h x (gC _ Z),gj,kr]
theorem GM{f:Int->List Int}{l:List Int}(h:∀b∈l,f b≠[]):l.length≤(l.flatMap f).length:=by
 induction l with
 |nil=>exact ig _
 |cons b r D=>
  have:=DL.2 (h b (gp ..));have:=D λx Z=>h x (gC _ Z);rw[kY,il,lF];lia
def pj(t:eB)(p m:Int):gE:=if m=p then{ t.a p with a:=jm t p } else if m∈jm t p then{ t.a m with c:=p } else t.a m
theorem Qs(r:p∉jm t p)(m:Int):(kn t p).a m=pj t p m:=by
 show(if m=p then({ (if p∈jm t p then _ else _:gE) with a:=jm t p }:gE) else if m∈jm t p then _ else _)=_;rw[if_neg r];rfl
theorem zf(m:Int):(pj t p m).b=(t.a m).b∧(pj t p m).d=(t.a m).d∧(pj t p m).e=(t.a m).e∧(pj t p m).f=(t.a m).f:=by
 unfold pj;by_cases e:m=p
 ·rw[if_pos e,e];exact⟨rfl,rfl,rfl,rfl⟩
 ·rw[if_neg e]
  by_cases h:m∈jm t p
  ·rw[if_pos h];exact⟨rfl,rfl,rfl,rfl⟩
  ·rw[if_neg h];exact⟨rfl,rfl,rfl,rfl⟩
theorem Hh(h:Gx t T 0 p)(J:p∈t.b):Gx (kn t p) T 0 0∧Kp g t (kn t p)∧(∀c∈jm t p,c∈nT t p t.b (t.a p).a)∧(∀a x,sz (kn t p) a x=sz t a x)∧∀x,((kn t p).a x).b=(t.a x).b:=by
 have N:=h.d p J;have lt:∀n∈t.b,∀c∈(t.a n).a,c≠n:=λn W c hc e=>by have:=(h.d n W c hc).2;rw[e] at this;exact absurd this (lg _)
 have C:∀n∈t.b,∀d∈t.b,∀c,c∈(t.a n).a->c∈(t.a d).a->n=d:=λn W d Y c h1 h2=>(h.k n W c h1).symm.trans (h.k d Y c h2);have Q:=(h.g p J).1;have r:p∉jm t p:=λY=>by
  obtain⟨b,j,⟨_,hc⟩ |⟨_,e⟩⟩ :=sS.1 Y
  ·have:=(h.d b (N b j).1 p hc).2;have:=(N b j).2;lia
  ·exact lt p J b j e.symm
 have H:∀n∈t.b,t.d∉(t.a n).a:=λn W Y=>by have:=h.k n W _ Y;rw[h.m] at this;have:=(h.g n W).1;lia
 have k:t.d∉jm t p:=λY=>by
  obtain⟨b,j,⟨_,hc⟩ |⟨_,e⟩⟩ :=sS.1 Y
  ·exact H b (N b j).1 hc
  ·exact H p J (e▸j)
 have w:=Qs (t:=t) r;have o:∀d,d≠p->((kn t p).a d).a=(t.a d).a:=λd e=>by
  rw(occs:=eO) [w,pj,if_neg e];by_cases c:d∈jm t p
  ·rw(occs:=eO) [if_pos c]
  ·rw(occs:=eO) [if_neg c]
 have L:((kn t p).a p).a=jm t p:=by rw(occs:=eO) [w,pj,if_pos rfl]
 have G:∀d∈jm t p,((kn t p).a d).c=p:=λd Y=>by rw(occs:=eO) [w,pj,if_neg (show d≠p fromλe=>r (e▸Y)),if_pos Y]
 have B:∀d,d∉jm t p->((kn t p).a d).c=(t.a d).c:=λd Y=>by
  rw(occs:=eO) [w,pj];by_cases e:d=p
  ·rw(occs:=eO) [if_pos e,e]
  ·rw(occs:=eO) [if_neg e,if_neg Y]
 have F:∀d,((kn t p).a d).b=(t.a d).b:=λd=>by rw[w];exact(zf d).1
 have aa:∀a d,sz (kn t p) a d=sz t a d:=λa d=>by unfold sz;rw[w,(zf d).2.1,(zf d).2.2.1]
 have i:∀x,x∈(kn t p).b↔x∈t.b∧¬(x∈(t.a p).a∧(t.a x).b=(t.a p).b):=λx=>Sx (t:=t) (p:=p) (t.a p).a t.b;have E:∀c∈jm t p,c∈t.b∧T c<T p∧c∈(kn t p).b∧(t.a c).b≠(t.a p).b:=λc hc=>by
  obtain⟨b,j,⟨s,hc⟩ |⟨s,e⟩⟩ :=sS.1 hc
  ·have I:=h.d b (N b j).1 c hc
   have sc:=h.A b (N b j).1 (lt p J b j) c hc;exact⟨I.1,AI I.2 (N b j).2,(i c).2 ⟨I.1,λu=>fe u λU P=>sc (P.trans s.symm)⟩,s▸sc⟩
  ·exact e▸⟨(N b j).1,(N b j).2,(i b).2 ⟨(N b j).1,λq4=>fe q4 λU P=>s P⟩,s⟩
 have S:p∈(kn t p).b:=(i p).2 ⟨J,λq5=>fe q5 λY U=>lt p J p Y rfl⟩;have R:=Ik (t:=t) (p:=p) (t.a p).a t.b;have D:∀b∈(t.a p).a,(t.a p).b≠0->mw t p b≠[]:=λb j s e=>by
  unfold mw at e;by_cases q:(t.a b).b=(t.a p).b
  ·rw[if_pos q] at e;exact s (q▸(h.i b (N b j).1).2 e)
  ·rw[if_neg q] at e;exact wF e
 refine⟨{
      d:=λn W c hc=>?_,k:=λn W c hc=>?_,o:=λn W=>?_,f:=h.f,j:=im R.length_le h.j,i:=λn W=>?_,h:=(i _).2 ⟨h.h,λq6=>fe q6 λY U=>H p J Y⟩,m:=(B _ k).trans h.m
      g:=λn W=>h.g n ((i n).1 W).1,C:=R.nodup h.C,D:=λn W e=>?_,B:=λn W=>by rw[F];exact h.B n ((i n).1 W).1,v:=λn W s U=>?_,A:=λn W U c hc=>?_,
      u:=λa M n W=>?_,x:=λa M n W s=>by rw[aa];exact h.x a M n ((i n).1 W).1 (F n▸s),z:=λa M=>by rw[aa];exact h.z a M },⟨λx Z s U=>(i x).2 ⟨Z,λq7=>fe q7 λhc P=>?_⟩,λx Z=>eH ⟨((i x).1 Z).1,F x,by rw[w];exact(zf x).2.2.2⟩,ja _,λx Z=>(h.g x Z).2,rfl,rfl,rfl,rfl⟩,λc hc=>(E c hc).2.2.1,aa,F⟩
 ·by_cases e:n=p
  ·clear h J N Q r k w o G B F aa i S R D W
   subst e;rw[L] at hc;exact⟨(E c hc).2.2.1,(E c hc).2.1⟩
  ·rw[o n e] at hc
   have l:=h.d n ((i n).1 W).1 c hc;exact⟨(i c).2 ⟨l.1,λq8=>fe q8 λY U=>e (C n ((i n).1 W).1 p J c hc Y)⟩,l.2⟩
 ·by_cases e:n=p
  ·clear h J N Q r k w o B F aa i E S R D W
   subst e;rw[L] at hc;exact G c hc
  ·rw(occs:=eO) [o n e] at hc
   have V:=(i n).1 W;rw(occs:=eO) [B c λY=>?_]
   ·exact h.k n V.1 c hc
   ·obtain⟨b,j,⟨s,af⟩ |⟨s,e'⟩⟩ :=sS.1 Y
    ·have:=C n V.1 b (N b j).1 c hc af
     exact V.2 (this▸⟨j,s⟩)
    ·exact e (C n V.1 p J c hc (e'▸j))
 ·by_cases e:n=p
  ·clear Q r k w o G B F aa i E S R D W
   subst e;rw[L];refine List.pairwise_flatMap.2 ⟨λb j=>?_,(h.o n J).imp_of_mem λ{b K} j ac ne x Z y hy e=>?_⟩
   ·unfold mw
    by_cases s:(t.a b).b=(t.a n).b
    ·rw[if_pos s];exact h.o b (N b j).1
    ·rw[if_neg s];exact xx _ b
   ·subst e
    have ae:∀b∈(t.a n).a,x∈mw t n b->(t.a x).c=b∨((t.a x).c=n∧x=b):=λb j Z=>by
     unfold mw at Z;by_cases s:(t.a b).b=(t.a n).b
     ·rw[if_pos s] at Z;exact eH (h.k b (N b j).1 x Z)
     ·rw[if_neg s] at Z;rw[gR.1 Z];exact eI ⟨h.k n J b j,rfl⟩
    rcases ae b j Z with O|⟨O,m⟩ <;>rcases ae K ac hy with X|⟨X,e4⟩
    ·exact ne (O.symm.trans X)
    ·exact lt n J b j (O.symm.trans X)
    ·exact lt n J K ac (X.symm.trans O)
    ·exact ne (m.symm.trans e4)
  ·rw[o n e];exact h.o n ((i n).1 W).1
 ·rw[F]
  by_cases e:n=p
  ·clear N Q r k w o G B F aa i E S R W
   subst e;rw[L];refine⟨λs=>?_,λs=>?_⟩
   ·unfold jm;rw[(h.i n J).1 s];rfl
   ·by_cases z:(t.a n).b=0
    ·exact z
    ·have l1:=GM (f:=mw t n) (l:=(t.a n).a) λb j=>D b j z
     have l2:=DL.2 λe=>z ((h.i n J).2 e);rw[show(t.a n).a.flatMap (mw t n)=[] from s] at l1;exact absurd (WL l2 l1) (lg _)
  ·rw[o n e];exact h.i n ((i n).1 W).1
 ·have V:=(i n).1 W
  by_cases d:n∈jm t p
  ·rw[G n d,L];exact⟨S,d⟩
  ·refine h.N n V.1 e λu1 A=>?_
   rw[B n d];have bp:(t.a n).c≠p:=λO=>d (sS.2 (eu n (O▸A) (eI ⟨λs=>V.2 ⟨O▸A,s⟩,rfl⟩)));rw[o _ bp];exact⟨(i _).2 ⟨u1,λq9=>fe q9 λY s=>d (sS.2 (eu _ Y (eH ⟨s,A⟩)))⟩,A⟩
 ·rw[F] at s
  by_cases e:n=p
  ·clear N Q r k w o G B F aa i E S R W
   subst e;rw[L];exact im (h.v n J s (by lia)) (GM λb j=>D b j s)
  ·rw[o n e];exact h.v n ((i n).1 W).1 s (by have:=(h.g n ((i n).1 W).1).1;lia)
 ·rw[F,F]
  by_cases e:n=p
  ·clear h J N Q r k w o G B F aa i S R D W
   subst e;rw[L] at hc;exact(E c hc).2.2.2
  ·rw[o n e] at hc;exact h.A n ((i n).1 W).1 e c hc
 ·have f:=h.u a M n ((i n).1 W).1
  intro s;rw[F] at s ⊢;have f:=f s;rw[funext (aa a)];by_cases e:n=p
  ·clear J Q r k w o G B F aa i E S R D W
   subst e;rw[L];by_cases c:fA (t.a n).b=a
   ·rw[if_pos c] at f ⊢
    rw[←f];refine UG λb j=>?_;unfold mw;by_cases P:(t.a b).b=(t.a n).b
    ·rw[if_pos P]
     have v:=h.u a M b (N b j).1 (P▸s);rw[P,if_pos c] at v;exact v
    ·rw[if_neg P];exact Dw _
   ·rw[if_neg c] at f ⊢
    intro x Z;obtain⟨b,j,⟨P,hc⟩ |⟨P,e⟩⟩ :=sS.1 Z
    ·have v:=h.u a M b (N b j).1 (P▸s)
     rw[P,if_neg c] at v;exact(v x hc).trans (f b j)
    ·exact e▸f b j
  ·rw[o n e];exact f
 ·have:=(h.i p J).1 (P▸s)
  rw[this] at hc;cases hc
noncomputable def lC(n N c:Int):Int:=if c=n then N else c
theorem pD{N:Int}:lC n N n=N:=if_pos rfl
theorem nX{N c:Int}(h:c≠n):lC n N c=c:=if_neg h
theorem zw{N:Int}{l:List Int}(h:n∉l):l.map (lC n N)=l:=
 (kf (g:=id) λx Z=>nX λ(e:x=n)=>h (e▸Z)).trans (Km l)
theorem IF{N:Int}:∀{l:List Int},l.Nodup->n∈l->l.set (l.idxOf n) N=l.map (lC n N):=by
 intro G
 induction G with
 |nil=>
  intro U h;cases h
 |cons c r D=>
  intro E h;rw[kE] at E;rw[List.idxOf_cons];by_cases e:c=n
  ·clear h
   clear D;subst e;rw[beq_self_eq_true,gj,pD];show N::r=_;rw[zw E.1]
  ·rw[beq_false_of_ne e,gj,nX e]
   show c::r.set (r.idxOf n) N=_;rw[D E.2 ((gy.1 h).resolve_left (gM e))]
theorem HT{N:Int}{l:List Int}(h:l.Nodup)(j:N∉l):(l.map (lC n N)).Nodup:=by
 refine List.pairwise_map.2 (h.imp_of_mem λ{x y} Z B G e=>?_);unfold lC at e;by_cases K:x=n
 ·rw[if_pos K] at e
  by_cases I:y=n
  ·exact G (K.trans I.symm)
  ·rw[if_neg I] at e;exact j (e▸B)
 ·rw[if_neg K] at e
  by_cases I:y=n
  ·rw[if_pos I] at e;exact j (e▸Z)
  ·rw[if_neg I] at e;exact G e
theorem FH(h:Ax a):fA (om a)=a∧om a≠0∧(om a=1∨om a=2):=by rcases h with rfl|rfl<;>exact⟨by decide,by decide,by decide⟩
structure yt(t:eB)(n a:Int)(t1:eB):Prop where
 c:∀m∈t.b,(t1.a m).b=(t.a m).b
 d:∀a,∀m∈t.b,sz t1 a m=sz t a m
 o:∀m∈t.b,(t1.a m).f=(t.a m).f
 b:∀m∈t.b,(t1.a m).a=(t.a m).a.map (lC n (t.c+1))
 g:∀m∈t.b,(t1.a m).c=if m=n then t.c+1 else(t.a m).c
 i:∃w,t1.a (t.c+1)=w∧w.a=[n]∧w.c=(t.a n).c∧w.b=om a∧w.f=0
 h:∀a,Internal.sz t1 a (t.c+1)=Internal.sz t a n
 e:t1.b=t.b++[t.c+1]
 j:t1.c=t.c+1
 f:t1.d=if n=t.d then t.c+1 else t.d
 q:t1.g=7
 r:t1.l=t.l
 p:t1.i=t.i
 l:t1.k=t.k
 k:t1.e=t.e
theorem yt.A{E:eB}(c:yt t n a E)(h:Gx t T 0 0)(C:t.b.length≤50)(W:n∈t.b)(ha:Ax a)(r:(t.a n).c=0∨fA (t.a (t.a n).c).b≠a):
  ∃aa,Gx E aa (t.c+1) (t.c+1)∧Kp g t E:=by
 have L:∀d,d∈E.b↔d∈t.b∨d=t.c+1:=λd=>by rw(occs:=eO) [c.e,lc,gR]
 have z:∀d∈t.b,d≠t.c+1:=λd Y e=>by have:=(h.g d Y).2;lia
 refine oA c.i λw i o I F v=>?_;subst i;have p:=FH ha;have N:t.c+1∉t.b:=λY=>z _ Y rfl;have J:(t.a n).c=0->n=t.d:=λe=>Decidable.byContradiction λq=>by have:=(h.g _ (h.D n W q).1).1;lia
 have B:∀d∈t.b,d≠0:=λd Y e=>by have:=(h.g d Y).1;lia
 have D:∀d∈t.b,(if d=t.c+1 then 2*T n+1 else 2*T d)=2*T d:=λd Y=>if_neg (z d Y);have Q:(if t.c+1=t.c+1 then 2*T n+1 else 2*T (t.c+1))=2*T n+1:=if_pos rfl;refine(eu (λd=>if d=t.c+1 then 2*T n+1 else 2*T d) ({ d:=λd Y x Z=>?_,k:=λd Y x Z=>?_,o:=λd Y=>?_,f:=c.q,j:=by rw[c.e,il];show _+1≤60;lia,i:=λd Y=>?_,h:=?_,m:=?_,g:=λd Y=>?_,C:=?_,D:=λd Y e=>?_,B:=λd Y=>?_,v:=λd Y s e=>?_,A:=λd Y e x Z=>?_,x:=λb j d Y s=>?_,z:=λb j=>?_,u:=λb j d Y=>?_ }) ?_)
 ·rcases(L d).1 Y with Y|rfl
  ·rw[c.b d Y] at Z
   (refine fP Z λy K O=>?_;(clear Z;obtain rfl:=O))
   have k:=h.d d Y y K;show _∧(if _ then _ else _)<(if _ then _ else _);rw[D d Y];by_cases e:y=n
   ·clear c W r o I J D
    subst e;rw[pD,Q];exact⟨(L _).2 (eI rfl),by lia⟩
   ·rw[nX e,D y k.1];exact⟨(L _).2 (eH k.1),by lia⟩
  ·rw[o,gR] at Z;(clear c r o I J;subst Z)
   show _∧(if _ then _ else _)<(if _ then _ else _);rw[Q,D x W];exact⟨(L _).2 (eH W),by lia⟩
 ·rcases(L d).1 Y with Y|rfl
  ·rw[c.b d Y] at Z
   (refine fP Z λy K m=>?_;(clear Z;obtain rfl:=m))
   have k:=h.d d Y y K;by_cases e:y=n
   ·clear c W r o J D Q
    subst e;rw[pD,I];exact h.k d Y y K
   ·rw[nX e,c.g y k.1,if_neg e];exact h.k d Y y K
  ·rw[o,gR] at Z;(clear r o I J D Q;subst Z)
   rw[c.g x W,if_pos rfl]
 ·rcases(L d).1 Y with Y|rfl
  ·rw[c.b d Y];exact HT (h.o d Y) λq=>N (h.d d Y _ q).1
  ·rw[o];exact xx _ n
 ·rcases(L d).1 Y with Y|rfl
  ·rw(occs:=eO) [c.b d Y,c.c d Y,nj];exact h.i d Y
  ·rw[o,F];exact⟨λe=>absurd e p.2.1,λe=>by exact wF e⟩
 ·rw[c.f]
  by_cases e:n=t.d
  ·rw[if_pos e];exact(L _).2 (eI rfl)
  ·rw[if_neg e];exact(L _).2 (eH h.h)
 ·rw[c.f]
  by_cases e:n=t.d
  ·rw[if_pos e,I,e];exact h.m
  ·rw[if_neg e,c.g _ h.h,if_neg (gM e)];exact h.m
 ·rw[c.j]
  rcases(L d).1 Y with Y|rfl
  ·have:=h.g d Y;lia
  ·have:=h.g n W;lia
 ·rw[c.e];exact qC.2 ⟨h.C,xx _ _,λx Z y K=>by rw[gR.1 K];exact z x Z⟩
 ·rw[c.f] at e
  rcases(L d).1 Y with Y|rfl
  ·rw[c.g d Y]
   by_cases q:d=n
   ·rw[if_pos q,o,q];exact⟨(L _).2 (eI rfl),lR n⟩
   ·have S:d≠t.d:=λP=>by
     by_cases s:n=t.d
     ·exact q (P.trans s.symm)
     ·rw[if_neg s] at e;exact e P
    refine h.N d Y S λu A=>?_;rw[if_neg q,c.b _ u];exact⟨(L _).2 (eH u),mj.2 (eu d A (nX q))⟩
  ·have H:n≠t.d:=λs=>by rw[if_pos s] at e;exact e rfl
   refine h.N n W H λu A=>?_;rw[I,c.b _ u];exact⟨(L _).2 (eH u),mj.2 (eu n A pD)⟩
 ·rcases(L d).1 Y with Y|rfl
  ·rw[c.c d Y];exact h.B d Y
  ·rw[F];exact eI p.2.2
 ·rcases(L d).1 Y with Y|rfl
  ·rw[c.c d Y] at s;rw[c.b d Y,fC];exact h.v d Y s (B d Y)
  ·exact absurd rfl e
 ·rcases(L d).1 Y with Y|rfl
  ·rw[c.b d Y] at Z
   (refine fP Z λy K X=>?_;(clear Z;obtain rfl:=X))
   have k:=h.d d Y y K;rw[c.c d Y];by_cases e:y=n
   ·clear c W o I J D Q
    subst e;rw[pD,F];rcases r with V|V
    ·rw[h.k d Y y K] at V;exact absurd V (B d Y)
    ·rw[h.k d Y y K] at V;exactλe=>V (e▸p.1)
   ·rw[nX e,c.c y k.1];exact h.A d Y (B d Y) y K
  ·exact absurd rfl e
 ·rcases(L d).1 Y with Y|rfl
  ·rw[c.d b d Y];exact h.x b j d Y (c.c d Y▸s)
  ·exact absurd (F.symm.trans s) p.2.1
 ·rw[c.f]
  by_cases e:n=t.d
  ·rw[if_pos e,c.h b,e];exact h.z b j
  ·rw[if_neg e,c.d b _ h.h];exact h.z b j
 ·have G:∀l:List Int,(∀y∈l,y∈t.b)->∀y∈l,(Internal.sz E b∘lC n (t.c+1)) y=Internal.sz t b y:=λl C y K=>by
   show Internal.sz E b (lC n (t.c+1) y)=_;by_cases e:y=n
   ·rw[e,pD];exact c.h b
   ·rw[nX e];exact c.d b y (C y K)
  intro s;rcases(L d).1 Y with Y|rfl
  ·have R:=λy K=>(h.d d Y y K).1
   rw[c.c d Y] at s;have f:=h.u b j d Y s;rw[c.c d Y,c.b d Y,c.d b d Y,gJ,kf (G _ R)];by_cases q:fA (t.a d).b=b
   ·rw[if_pos q] at f ⊢;exact f
   ·rw[if_neg q] at f ⊢
    intro x Z
    (refine fP Z λy K M=>?_;(clear Z;obtain rfl:=M))
    exact(G _ R y K).trans (f y K)
  ·rw[F,o,c.h b]
   by_cases q:fA (om a)=b
   ·rw[if_pos q];exact(Dw _).trans (c.d b n W)
   ·rw[if_neg q];intro x Z;rw[gR.1 Z];exact c.d b n W
 ·refine⟨λx Z U U=>(L x).2 (eH Z),λx Z=>?_,by rw[c.j];lia,λx Z=>(h.g x Z).2,c.r,c.p,c.l,c.k⟩
  rcases(L x).1 Z with Z|rfl
  ·exact eH ⟨Z,c.c x Z,c.o x Z⟩
  ·exact eI ⟨by lia,v⟩
theorem Gg{N:Int}(h:Gx t T 0 0)(b:n∈t.b)(y:N=t.c+1)(E:∀f∈t.b,S.a f=if f=(t.a n).c then{ t.a f with a:=(t.a f).a.map (lC n N) } else t.a f)(j:S.a N=sH t n a)
  (i:S.b=t.b++[N]) (o:S.c=N) (l:S.d=if n=t.d then N else t.d) (g:S.g=7) (K:S.l=t.l) (L:S.i=t.i) (k:S.k=t.k) (J:S.e=t.e):yt t n a (ud S n N):=by
 subst y;have z:∀f∈t.b,f≠t.c+1:=λf Y e=>by have:=(h.g f Y).2;lia
 have e:∀f∈t.b,(ud S n (t.c+1)).a f={ t.a f with a:=(t.a f).a.map (lC n (t.c+1)),c:=if f=n then t.c+1 else(t.a f).c }:=λf Y=>by
  show(if f=t.c+1 then _ else if f=n then({ S.a n with c:=t.c+1 }:gE) else S.a f)=_;rw[if_neg (z f Y)];have B:f≠(t.a n).c->(t.a f).a.map (lC n (t.c+1))=(t.a f).a:=λG=>zw λX=>G (h.k f Y n X).symm;by_cases q:f=n
  ·have r:f≠(t.a n).c:=λe=>by
    have:=h.D n b λP=>by rw[e,P,h.m] at Y;have:=(h.g 0 Y).1;lia
    rw[←e,q] at this;exact absurd (h.d n b n this.2).2 (lg _)
   rw[if_pos q,if_pos q,B r,←q,E f Y,if_neg r]
  ·rw[if_neg q,if_neg q,E f Y]
   by_cases c:f=(t.a n).c
   ·rw[if_pos c]
   ·rw[if_neg c,B c]
 have Z:(ud S n (t.c+1)).a (t.c+1)={ sH t n a with a:=[n] }:=by
  show(if t.c+1=t.c+1 then({ (if t.c+1=n then _ else S.a (t.c+1):gE) with a:=[n] }:gE) else _)=_;rw[if_pos rfl,if_neg (z n b).symm,j]
 refine⟨λf Y=>by rw[e f Y],λa f Y=>?_,λf Y=>by rw[e f Y],λf Y=>by rw[e f Y],λf Y=>by rw[e f Y],(wc _ rfl (by rw[Z]) (by rw[Z];rfl) (by rw[Z];rfl) (by rw[Z];rfl)),λa=>?_,i,o,l,g,K,L,k,J⟩
 ·unfold sz;rw[e f Y]
 ·unfold sz;rw[Z];rfl
theorem Pm(h:Gx t T 0 0)(C:t.b.length≤50)(b:n∈t.b)(M:Ax a){k:Nat}:
  ∃p E aa,gF eb (k+5) 32 [.b .c,.a n,.a a] t=d9 (.a p,E)∧Gx E aa p p∧Kp g t E∧p∈E.b∧n∈(E.a p).a∧fA (E.a p).b=a∧(∀N∈t.b,N∈E.b∧(E.a N).b=(t.a N).b∧∀a,sz E a N=sz t a N)∧
   (∀N∈PP t T n,(E.a N).a=(t.a N).a)∧E.b.length≤t.b.length+1:=by
 have I:=(h.g n b).1;have H:n≠t.d->(t.a n).c∈t.b∧n∈(t.a (t.a n).c).a:=h.D n b;have V:n≠t.d->(t.a n).c≠0:=λe P=>by have:=(h.g _ (H e).1).1;lia
 by_cases c:n≠t.d∧fA (t.a (t.a n).c).b=a
 ·exact(Cf _ t T (Pk (Q:=eb) (k:=k+3) h.f b (V c.1) (H c.1).1 c.2) (h.ak _ _) ⟨λx Z U U=>Z,λx Z=>eH ⟨Z,rfl,rfl⟩,ja _,λx Z=>(h.g x Z).2,rfl,rfl,rfl,rfl⟩ ((H c.1).1) ⟨((H c.1).2),c.2,(λN Y=>⟨Y,rfl,λU=>rfl⟩),(λU U=>rfl),(xC _)⟩)
 ·have z:∀N∈t.b,N≠t.c+1:=λN Y e=>by have:=(h.g N Y).2;lia
  have y:∀N∈t.b,(nK t n a).a N=t.a N:=λN Y=>(if_neg (z N Y)).trans (if_neg (z N Y));have B:(nK t n a).a (t.c+1)=sH t n a:=if_pos rfl;have j:∀N,N∈t.b∨N=t.c+1->N∈(nK t n a).b:=λN Y=>lc.2 (Y.imp id gR.2);have r:(t.a n).c=0∨n≠t.d∧fA (t.a (t.a n).c).b≠a:=by
   by_cases e:n=t.d
   ·exact eH (e▸h.m)
   ·exact eI ⟨e,λP=>c ⟨e,P⟩⟩
  have O:∀S,gF eb (k+4) 20 [.b .c,.a n,.a (t.c+1)] (nK t n a)=d9 (.b .e,S)->yt t n a (ud S n (t.c+1))->S.g=7->S.b=t.b++[t.c+1]->∃p E aa,gF eb (k+5) 32 [.b .c,.a n,.a a] t=d9 (.a p,E)∧Gx E aa p p∧Kp g t E∧p∈E.b∧n∈(E.a p).a∧fA (E.a p).b=a∧(∀N∈t.b,N∈E.b∧(E.a N).b=(t.a N).b∧∀a,sz E a N=sz t a N)∧
   (∀N∈PP t T n,(E.a N).a=(t.a N).a)∧E.b.length≤t.b.length+1:=λS R J f v=>by
   refine eR (J.A (g:=g) h C b M (r.imp id And.right)) λaa d l=>?_;refine oA J.i λw i o U F U=>?_;clear U;clear U;subst i;refine(Cf _ _ aa (Pl h.f (by lia) b (z n b) (r.imp id λe=>⟨V e.1,(H e.1).1,e.2⟩) R f v) d l (J.e▸Ww _ (lR _)) ⟨(o▸lR n),(F▸(FH M).1),(λN Y=>⟨J.e▸DQ _ Y,J.c N Y,λa=>J.d a N Y⟩),(λN Y=>?_),(by rw[J.e,il];exact ig _)⟩);have A:=j5 h.e b N Y;rw(occs:=eO) [J.b N A,zw];intro X;have:=(h.d N A n X).2;rcases tX h.e b N Y with e|e
   ·rw[e] at this;exact absurd this (lg _)
   ·lia
  by_cases e:n=t.d
  ·refine O _ (Iu (Q:=eb) (k:=k+3) (t:=nK t n a) h.f (j n (eH b)) (j _ (eI rfl)) (by rw[y n b,e];exact h.m)) (Gg h b rfl (λN Y=>?_) ?_ rfl rfl (if_pos e).symm h.f rfl rfl rfl rfl) h.f rfl
   ·show(if N=t.c+1 then _ else(nK t n a).a N)=_
    rw[if_neg (z N Y),y N Y,if_neg (λP=>by rw[P,e,h.m] at Y;have:=(h.g 0 Y).1;lia)]
   ·show(if t.c+1=t.c+1 then _ else _)=_
    rw[if_pos rfl,B];show{ sH t n a with c:=0 }=sH t n a;have:(sH t n a).c=0:=by show(t.a n).c=0;rw[e];exact h.m
    rw[←this]
  ·refine fe (H e) λL G=>?_
   have m:=IF (N:=t.c+1) (h.o _ L) G;have:=lx h.l L;refine O _ (It (Q:=eb) (k:=k+3) (t:=nK t n a) (p:=(t.a n).c) h.f (j n (eH b)) (j _ (eI rfl)) (by rw[y n b]) (V e) (j _ (eH L)) (by rw[y _ L];exact G) (by rw[y _ L];lia)) (Gg h b rfl (λN Y=>?_) ?_ rfl rfl (if_neg e).symm h.f rfl rfl rfl rfl) h.f rfl
   ·show(if N=(t.a n).c then({ (if(t.a n).c=t.c+1 then _ else(nK t n a).a (t.a n).c:gE) with a:=_ }:gE) else if N=t.c+1 then _ else(nK t n a).a N)=_
    rw[if_neg (z _ L),if_neg (z N Y),y N Y,y _ L,m];by_cases q:N=(t.a n).c
    ·rw[if_pos q,if_pos q,q]
    ·rw[if_neg q,if_neg q]
   ·show(if t.c+1=(t.a n).c then _ else if t.c+1=t.c+1 then{ (nK t n a).a (t.c+1) with c:=(t.a n).c } else _)=_
    rw[if_neg (z _ L).symm,if_pos rfl,B];rfl
theorem w7(M:Ax a)(j:Ax b)(G:b≠a){m:Int}:sz (f8 t a z) b m=sz t b m:=by
 show(if b=0 then(hW a (z m) (t.a m)).d else(hW a (z m) (t.a m)).e)=_;rcases M with rfl|rfl<;>rcases j with rfl|rfl<;>first|rfl|exact absurd rfl G
theorem GH(h:Ok t T)(Z:x∈t.b)(f:∀c∈(t.a x).a,LL t T a c≤z c)(w:LL t T a x≤V x)(d:Dn t T a z V x)(s:(t.a x).b≠0):if fA (t.a x).b=a then((t.a x).a.map V).sum=V x else∀c∈(t.a x).a,V c=V x:=by
 have d:=d s;have e:=lW (a:=a) h.e Z;rw[if_neg s] at e;by_cases q:fA (t.a x).b=a
 ·rw[if_pos q] at d e ⊢
  rw[d];exact C7 (by rw[fC,fC]) (λy B=>by(refine fP B λc X O=>?_;(clear B;obtain rfl:=O));have:=f c X;lia) (λr=>s ((h.i x Z).2 (nj.1 r))) (e▸w)
 ·rw[if_neg q] at d ⊢;exact d
structure Gp(t:eB)(rk:Int->Nat)(q r p a c s:Int):Prop extends P:Gc t rk q r where
 G:∀b,Ax b->∀n∈t.b,(b=a->n≠p)->vg t b n
 E:p∈t.b
 F:c∈(t.a p).a
 H:fA (t.a p).b=a
 K:((t.a p).a.map (kP (sz t a) c s)).sum=sz t a p
 J:∀n∈t.b,sz t a n≤100
 I:LL t rk a c≤s
 L:s≤100
theorem Gp.le(h:Gp t T q r p a c s):∀x∈PP t T c,LL t T a x≤sz t a x:=by
 have M:Ax a:=h.H▸sh;intro x Z;have X:=(h.d p h.E c h.F).1;have J:=zB h.l h.E h.F;refine h.e.M (P:=λx=>x∈PP t T c->LL t T a x≤sz t a x) ?_ (j5 h.e X x Z) Z;intro n W D Z;rw[lW h.e W];by_cases s:(t.a n).b=0
 ·rw[if_pos s];exact h.x a M n W s
 ·rw[if_neg s]
  have f:=h.G a M n W (λU e=>J (e▸Z)) s;have D:=λy B=>D y B (pY h.e X Z B);by_cases c:fA (t.a n).b=a
  ·rw[if_pos c] at f ⊢;rw[←f];exact IY D
  ·rw[if_neg c] at f ⊢
   refine Cz (λe=>s ((h.i n W).2 (nj.1 e))) λx Z=>?_
   (refine fP Z λc X m=>?_;(clear Z;obtain rfl:=m))
   exact f c X▸D c X
theorem zJ(i:∀x∈t.b,x≤t.c):Kp g t (f8 t a z):=
 ⟨λU Z U U=>Z,λx Z=>eH ⟨Z,mZ,by show(hW a (z x) (t.a x)).f=_;unfold hW;split<;>rfl⟩,ja _,i,rfl,rfl,rfl,rfl⟩
theorem Gc.ad(h:Gc t T q r)(M:Ax a)(C:∀n∈t.b,(t.a n).b=0->ko a≤z n)(j:z t.d≤100):Gc (Internal.f8 t a z) T q r:=
 {
  y:=h.y.af,h:=h.h,m:=CX.trans h.m,g:=h.g,C:=h.C
  D:=λn W e=>by show(hW a _ (t.a n)).c∈_∧n∈(hW a _ (t.a (hW a _ (t.a n)).c)).a;rw[CX,nU];exact h.D n W e
  B:=λn W=>by rw[show((Internal.f8 t a z).a n).b=(t.a n).b from mZ];exact h.B n W
  v:=λn W s e=>by show _≤(hW a _ (t.a n)).a.length;rw[nU];exact h.v n W (mZ (w:=t.a n)▸s) e
  A:=λn W e c X=>by show(hW a _ (t.a c)).b≠(hW a _ (t.a n)).b;rw[mZ,mZ];exact h.A n W e c (nU (w:=t.a n)▸X)
  x:=λb j n W s=>by
   have P:(t.a n).b=0:=mZ.symm.trans s;by_cases e:b=a
   ·clear M s
    subst e;rw[rD];exact C n W P
   ·rw[w7 M j e];exact h.x b j n W P
  z:=λb v=>by
   by_cases e:b=a
   ·clear M C
    subst e;rw[rD];exact j
   ·rw[w7 M v e];exact h.z b v }
theorem GI(M:Ax a)(j:Ax b)(K:b≠a->vg t b n)(I:(t.a n).b≠0->if fA (t.a n).b=a then((t.a n).a.map V).sum=V n else∀c∈(t.a n).a,V c=V n):vg (f8 t a V) b n:=by
 intro s;show if fA (hW a (V n) (t.a n)).b=b then(pH _ (hW a (V n) (t.a n)).a).sum=_ else∀c∈(hW a (V n) (t.a n)).a,_;have P:(t.a n).b≠0:=λe=>s (mZ.trans e);rw[mZ,nU];by_cases e:b=a
 ·clear M K s
  subst e;rw[funext λm=>rD (m:=m) (t:=t) (z:=V) (a:=b)];exact I P
 ·rw[funext λm=>w7 (t:=t) (z:=V) (m:=m) M j e];exact K e P
theorem Gp.ae(h:Gp t T q r p a c s){k:Nat}:∃V,gF eb (k+3) 24 [.b .c,.a c,.a a,.a s] t=d9 (.b .e,f8 t a V)∧V c=s∧Gx (f8 t a V) T q r:=by
 have M:Ax a:=h.H▸sh;have X:=(h.d p h.E c h.F).1;refine f5 (IG (k:=k) h.y X h.I (jX h.L (by decide)) λx Z=>⟨h.le x Z,jX (h.J x (j5 h.e X x Z)) (by decide)⟩) λV g O o=>?_;have K:∀x,x∉PP t T c->V x=sz t a x:=λx Z=>o.b x λy d=>by rw[gR.1 d];exact Z
 have I:=o.d c (lR c);have B:t.d∉PP t T c:=λe=>by
  rcases vh h.l X e with e|⟨e,_⟩
  ·have:=h.k p h.E c h.F;rw[←e,h.m] at this;have:=(h.g p h.E).1;lia
  ·rw[h.m] at e;have:=(h.g _ (j5 h.e X _ e)).1;lia
 refine(fQ V g O ({ h.P.ad M (λn W s=>?_) (by rw[K _ B];exact h.z a M) with u:=λb j n W=>GI M j (λe=>h.G b j n W λP=>absurd P e) λs=>?_ }))
 ·by_cases i:n∈PP t T c
  ·have:=(I n i).1
   rw[lW h.e W,if_pos s] at this;exact this
  ·rw[K n i];exact h.x a M n W s
 ·by_cases i:n∈PP t T c
  ·refine gY (I n i) λu F l=>?_
   exact GH h.y W (λy d=>h.le y (pY h.e X i d)) u l s
  ·have R:∀y∈(t.a n).a,y≠c->V y=sz t a y:=λy d G=>K y λY=>by
    rcases vh h.l X Y with e|⟨e,_⟩
    ·exact G e
    ·rw[h.k n W y d] at e;exact i e
   by_cases e:n=p
   ·subst e
    have m:(t.a n).a.map V=(t.a n).a.map (kP (sz t a) c _):=kf λy d=>by
     unfold kP;by_cases e:y=c
     ·rw(occs:=eO) [if_pos e,e,O]
     ·rw(occs:=eO) [if_neg e];exact R y d e
    rw[if_pos h.H,m,K n i];exact h.K
   ·have f:=h.G a M n W (λU=>e) s
    have R:=λy d=>R y d λP=>e ((h.k n W y d).symm.trans (P▸h.k p h.E c h.F));rw[kf R,K n i];by_cases q:fA (t.a n).b=a
    ·rw[if_pos q] at f ⊢;exact f
    ·rw[if_neg q] at f ⊢;intro y d;rw[R y d];exact f y d
theorem yv(h:Sh t T)(u:Sh D L)(W:n∈t.b)(e:∀x∈PP t T n,x∈D.b∧(D.a x).b=(t.a x).b∧(D.a x).a=(t.a x).a):LL D L a n=LL t T a n:=by
 have:(∀x∈PP t T n,x∈D.b∧(D.a x).b=(t.a x).b∧(D.a x).a=(t.a x).a)->LL D L a n=LL t T a n:=by
  refine h.M (P:=λn=>(∀x∈PP t T n,x∈D.b∧(D.a x).b=(t.a x).b∧(D.a x).a=(t.a x).a)->LL D L a n=LL t T a n) ?_ W;intro n W d e;refine gY (e n (lX h W)) λO m X=>?_;rw[lW h W,lW u O,m,X,kf λc b=>d c b λx Z=>e x (BA h W (pY h W (lX h W) b) x Z)]
 exact this e
theorem Fp(h:Ok t T)(M:Ax a)(W:n∈t.b):ko a≤LL t T a n:=by
 refine h.e.M (P:=λn=>ko a≤LL t T a n) ?_ W;intro n W D;by_cases s:(t.a n).b=0
 ·rw[lW h.e W,if_pos s];exact ja _
 ·refine fL (Kf _ λe=>s ((h.i n W).2 e)) λc X=>?_
  exact jX (D c X) (Fo h W X)
theorem IZ{l:List Int}(W:n∈l)(E:l.Nodup):(l.map (kP z n s)).sum=(l.map z).sum+s-z n:=by
 induction l with
 |nil=>cases W
 |cons c r D=>
  rw[kE] at E;rw[gj,gj,kr,kr];by_cases e:c=n
  ·clear D W
   subst e;rw[kf (f:=kP z c s) (g:=z) λy B=>if_neg λ(e:y=c)=>E.1 (e▸B),show kP z c s c=s from if_pos rfl];lia
  ·rw[D ((gy.1 W).resolve_left (gM e)) E.2,show kP z n s c=z c from if_neg e];lia
noncomputable def mB(l:List Int)(k:Nat)(m:Int):List Int:=l.take k++m::l.drop k
theorem ug{l:List Int}{k:Nat}{m y:Int}:y∈mB l k m↔y=m∨y∈l:=by
 rw[←tt k l,mB,lc,gy,lc,tt];exact⟨λh=>h.elim (λh=>eI (eH h)) (λh=>h.imp id eI),λh=>h.elim (λh=>eI (eH h)) (λh=>h.elim eH λh=>eI (eI h))⟩
theorem Ql{l:List Int}{k:Nat}{m:Int}(h:l.Nodup)(Y:m∉l):(mB l k m).Nodup:=
 (Wz.nodup_iff).2 (kE.2 ⟨by rw[tt];exact Y,by rw[tt];exact h⟩)
theorem G9{l:List Int}{k:Nat}{m:Int}:(mB l k m).length=l.length+1:=by
 rw[mB,Wz.length_eq,tt];rfl
theorem Qm{l:List Int}{k:Nat}{m:Int}{f:Int->Int}:((mB l k m).map f).sum=f m+(l.map f).sum:=by
 have e:(l.map f).sum=((l.take k).map f).sum+((l.drop k).map f).sum:=by rw[←wZ,←lb,tt]
 rw[e,mB,lb,wZ,gj,kr];lia
def iT(t:eB)(p:Int)(k:Nat)(a:gE):eB:={ t with a:=λx=>if x=p then{ t.a p with a:=mB (t.a p).a k (t.c+1) } else if x=t.c+1 then a else t.a x,b:=t.b++[t.c+1],c:=t.c+1 }
structure Fs(t:eB)(p n a s:Int)(w:gE):Prop where
 c:w.b=0
 d:w.c=p
 b:w.a=[]
 f:w.f=0
 e:(if a=0 then w.d else w.e)=s∧(if 1-a=0 then w.d else w.e)=Internal.sz t (1-a) n
theorem OO{b:Int}(M:Ax a)(j:Ax b)(G:b≠a):b=1-a:=by
 rcases M with rfl|rfl<;>rcases j with rfl|rfl<;>first|rfl|exact absurd rfl G
theorem Qk{k:Nat}{w:gE}{X z:Int}(h:Gx t T p p)(hl:t.b.length≤55)(J:p∈t.b)(hn:n∈(t.a p).a)(Q:fA (t.a p).b=a)(E:Fs t p n a X w)(e:z+X=sz t a n)(K:LL t T a n≤z)(I:ko a≤X):
  (∃L,Gp (iT t p k w) L 0 p p a n z)∧Kp g t (iT t p k w)∧(iT t p k w).b=t.b++[t.c+1]:=by
 have M:Ax a:=Q▸sh;have aa:∀m,m∈(iT t p k w).b↔m∈t.b∨m=t.c+1:=λm=>by show m∈t.b++[t.c+1]↔_;rw(occs:=eO) [lc,gR]
 have c:∀m∈t.b,m≠t.c+1:=λm Y e=>by have:=(h.g m Y).2;lia
 have nN:t.c+1∉t.b:=λY=>c _ Y rfl;have V:=(h.d p J n hn).1;have N:∀m∈t.b,m≠p->(iT t p k w).a m=t.a m:=λm Y e=>(if_neg e).trans (if_neg (c m Y));have v:(iT t p k w).a p={ t.a p with a:=mB (t.a p).a k (t.c+1) }:=if_pos rfl;have o:(iT t p k w).a (t.c+1)=w:=(if_neg (c p J).symm).trans (if_pos rfl);have R:∀m∈t.b,((iT t p k w).a m).b=(t.a m).b∧((iT t p k w).a m).c=(t.a m).c∧((iT t p k w).a m).f=(t.a m).f∧∀b,sz (iT t p k w) b m=sz t b m:=λm Y=>by
  by_cases e:m=p
  ·rw[e];unfold sz;rw[v];exact⟨rfl,rfl,rfl,λU=>rfl⟩
  ·unfold sz;rw[N m Y e];exact⟨rfl,rfl,rfl,λU=>rfl⟩
 have F:sz (iT t p k w) a (t.c+1)=X∧sz (iT t p k w) (1-a) (t.c+1)=sz t (1-a) n:=by unfold sz;rw[o];exact E.e
 have C:∀b,Ax b->b≠a->sz (iT t p k w) b (t.c+1)=sz t b n:=λb j ne=>by
  rw[OO M j ne];exact F.2
 have i:((iT t p k w).a p).a=mB (t.a p).a k (t.c+1):=by rw[v]
 have mN:t.c+1∉(t.a p).a:=λY=>nN (h.d p J _ Y).1;have d:(t.a p).b≠0:=λs=>by rw[(h.i p J).1 s] at hn;cases hn
 have ae:2≤((iT t p k w).a p).a.length:=by rw[i,G9];have:=DM hn;lia
 have D:∀m∈t.b,(if m=t.c+1 then 0 else T m+1)=T m+1:=λm Y=>if_neg (c m Y);have G:Gc (iT t p k w) (λm=>if m=t.c+1 then 0 else T m+1) 0 p:=by
  refine{ d:=λm O y B=>?_,k:=λm O y B=>?_,o:=λm O=>?_,f:=h.f,j:=?_,i:=λm O=>?_,h:=(aa _).2 (eH h.h),m:=(R _ h.h).2.1.trans h.m,g:=λm O=>?_,C:=?_,D:=λm O e=>?_,B:=λm O=>?_,v:=λm O s e=>?_,A:=λm O e y B=>?_,x:=λb j m O s=>?_,z:=λb j=>((R _ h.h).2.2.2 b).symm▸h.z b j }
  ·rcases(aa m).1 O with Y|rfl
   ·show _∧(if _ then _ else _)<(if _ then _ else _)
    rw[D m Y];have S:y∈(t.a m).a->y∈(iT t p k w).b∧(if y=t.c+1 then 0 else T y+1)<T m+1:=λB=>by
     have l:=h.d m Y y B;rw[D y l.1];exact⟨(aa y).2 (eH l.1),by lia⟩
    by_cases e:m=p
    ·rw[e,i] at B
     rcases ug.1 B with P|B
     ·rw[P,if_pos rfl];exact⟨(aa _).2 (eI rfl),by lia⟩
     ·exact S (by rw[e];exact B)
    ·rw[N m Y e] at B;exact S B
   ·rw[o,E.b] at B;cases B
  ·rcases(aa m).1 O with Y|rfl
   ·by_cases e:m=p
    ·rw[e,i] at B
     rcases ug.1 B with P|B
     ·rw[P,o,e];exact E.d
     ·rw[(R y (h.d p J y B).1).2.1,e];exact h.k p J y B
    ·rw[N m Y e] at B;rw[(R y (h.d m Y y B).1).2.1];exact h.k m Y y B
   ·rw[o,E.b] at B;cases B
  ·rcases(aa m).1 O with Y|rfl
   ·by_cases e:m=p
    ·rw[e,i];exact Ql (h.o p J) mN
    ·rw[N m Y e];exact h.o m Y
   ·rw[o,E.b];exact n8
  ·show(t.b++[t.c+1]).length≤60
   rw[il];show _+1≤60;lia
  ·rcases(aa m).1 O with Y|rfl
   ·by_cases e:m=p
    ·rw[e,i,(R p J).1]
     exact⟨λs=>absurd s d,λe=>by have:=congrArg qz e;rw[G9] at this;exact rz this⟩
    ·rw[N m Y e];exact h.i m Y
   ·rw[o,E.b,E.c];exact⟨λU=>rfl,λU=>rfl⟩
  ·show 1≤m∧m≤t.c+1
   rcases(aa m).1 O with Y|rfl
   ·have:=h.g m Y;lia
   ·have:=h.g n V;lia
  ·exact qC.2 ⟨h.C,xx _ _,λx Z y B=>by rw[gR.1 B];exact c x Z⟩
  ·rcases(aa m).1 O with Y|rfl
   ·refine h.N m Y e λu A=>?_
    rw[(R m Y).2.1];refine⟨(aa _).2 (eH u),?_⟩;by_cases e:(t.a m).c=p
    ·rw[e] at A;rw[e,i];exact ug.2 (eI A)
    ·rw[N _ u e];exact A
   ·rw[o,E.d,i];exact⟨(aa _).2 (eH J),ug.2 (eH rfl)⟩
  ·rcases(aa m).1 O with Y|rfl
   ·rw[(R m Y).1];exact h.B m Y
   ·rw[o];exact eH E.c
  ·clear e
   rcases(aa m).1 O with Y|rfl
   ·by_cases e:m=p
    ·rw[e];exact ae
    ·rw[N m Y e] at s ⊢;exact h.v m Y s e
   ·rw[o] at s;exact absurd E.c s
  ·rcases(aa m).1 O with Y|rfl
   ·rw[N m Y e] at B;rw[(R m Y).1,(R y (h.d m Y y B).1).1];exact h.A m Y e y B
   ·rw[o,E.b] at B;cases B
  ·rcases(aa m).1 O with Y|rfl
   ·rw[(R m Y).2.2.2];exact h.x b j m Y ((R m Y).1.symm.trans s)
   ·by_cases e:b=a
    ·rw[e,F.1];exact I
    ·rw[C b j e]
     exact jX (Fp h.y j V) (h.U j V)
 have H:∀b,Ax b->∀m∈(iT t p k w).b,(b=a->m≠p)->vg (iT t p k w) b m:=λb j m O e s=>by
  rcases(aa m).1 O with Y|rfl
  ·by_cases P:m=p
   ·rw[P]
    have nb:fA (t.a p).b≠b:=λq=>e (q.symm.trans Q) P;have f:=h.u b j p J d;rw[if_neg nb] at f;rw[(R p J).1,if_neg nb,i,(R p J).2.2.2];intro y B;rcases ug.1 B with e|B
    ·rw[e,C b j λe=>nb (Q.trans e.symm)];exact f n hn
    ·rw[(R y (h.d p J y B).1).2.2.2];exact f y B
   ·rw[(R m Y).1] at s
    have f:=h.u b j m Y s;rw[N m Y P,(R m Y).2.2.2,kf λy B=>(R y (h.d m Y y B).1).2.2.2 b];by_cases q:fA (t.a m).b=b
    ·rw[if_pos q] at f ⊢;exact f
    ·rw[if_neg q] at f ⊢;intro y B;rw[(R y (h.d m Y y B).1).2.2.2];exact f y B
  ·rw[o] at s;exact absurd E.c s
 have ac:=h.W M V;have lo:=qV (a:=a) h.e V;have af:0≤X:=jX (by(clear Q E e K I F C H ac lo;rcases M with rfl|rfl)<;>decide) I;refine⟨⟨_,{ G with G:=H,E:=(aa p).2 (eH J),F:=by rw[i];exact ug.2 (eI hn),H:=by rw[(R p J).1];exact Q,K:=?_,J:=λm O=>?_,I:=?_,L:=by lia }⟩,⟨λx Z U U=>(aa x).2 (eH Z),λx Z=>?_,xr (V5 _),λx Z=>(h.g x Z).2,rfl,rfl,rfl,rfl⟩,rfl⟩
 ·rw[i,Qm,(R p J).2.2.2,show kP (sz (iT t p k w) a) n z (t.c+1)=X from(if_neg (c n V).symm).trans F.1]
  have f:=h.u a M p J d;rw[if_pos Q] at f;rw[kf (g:=kP (sz t a) n z) λy B=>by unfold kP;rw[(R y (h.d p J y B).1).2.2.2],IZ hn (h.o p J),f];lia
 ·rcases(aa m).1 O with Y|rfl
  ·rw[(R m Y).2.2.2];exact h.W M Y
  ·rw[F.1];lia
 ·refine jX (Av (yv h.e G.e V λx Z=>?_)) K
  have r:=j5 h.e V x Z;exact⟨(aa x).2 (eH r),(R x r).1,by rw[N x r λe=>zB h.l J hn (e▸Z)]⟩
 ·rcases(aa x).1 Z with Z|rfl
  ·exact eH ⟨Z,(R x Z).1,(R x Z).2.2.1⟩
  ·exact eI ⟨V5 _,by rw[o];exact E.f⟩
def jW:Option Int->eD
 |none=>.b .e
 |some s=>.a s
noncomputable def jn(j:Option Int)(w:Int):Int:=match j with
 |none=>w.fdiv 2
 |some s=>if 0<s then w-s else 0-s
noncomputable abbrev Uj:js:=.c (.h .Is (.a 57) (.F)) (.a (.a 70 (.p pN (.a 78) (.d 2))) .b) (.a (.a 70 (.C (.h lh (.a 57) (.d 0)) (.p gS (.a 78) (.a 57)) (.p gS (.d 0) (.a 57)))) .b)
noncomputable abbrev Uk:eW:=.D jw (.a (.h lj (.a 69) (.j 22 (.a (.a 66) (.a (.a 53) (.a (.a 56) .b))))) (.a (.h lj (.a 70) (.v (.a 66) 33 (.a (.a 56) .b))) .b))
abbrev ta(n a:Int)(j:Option Int):Fr:=fh [66,53,57,56] [.b .c,.a n,jW j,.a a]
abbrev C9(t:eB)(n a:Int)(j:Option Int):Fr:=eL (eL (ta n a j) 78 (.a (sz t a n))) 70 (.a (jn j (sz t a n)))
abbrev wY(t:eB)(n a:Int)(j:Option Int):Fr:=eL (C9 t n a j) 69 (.a (sz t a n-jn j (sz t a n)))
theorem IO{j:Option Int}{k:Nat}(N:t.g=7)(W:n∈t.b):Ex (dd eb (k+2)) t (ta n a j) (.a 78 (.v (.v (.a 66) 29 (.a (.a 53) .b)) 23 (.a (.a 56) .b))) .a t (eL (ta n a j) 78 (.a (sz t a n))):=
 fO (iL (iL (ip rfl) (eV (fu (n:=n) rfl) fJ) rfl (Do (Q:=eb) (k:=k+1) N W)) (eV (fu (n:=a) rfl) fJ) rfl (mH (k:=k+1))) rfl
theorem IP{j:Option Int}{k:Nat}:Ex (dd eb k) t (eL (ta n a j) 78 (.a (sz t a n))) Uj .a t (C9 t n a j):=by
 cases j with
 |none=>exact jj (gG (v:=.b .e) (u:=.b .e) (fg (v:=.b .e) rfl) rfl rfl) (eG (fO (hZ (fu (n:=sz t a n) rfl) (u:=.a 2) rfl (yR (by decide) (by unfold iZ;decide))) rfl) fp)
 |some s=>
  refine gU (gG (v:=.a s) (u:=.b .e) (fu rfl) rfl rfl) (eG (fO (v:=.a (jn (d9 s) (sz t a n))) ?_ rfl) fp);have q:Ev (dd eb k) t (eL (ta n a (d9 s)) 78 (.a (sz t a n))) (.h lh (.a 57) (.d 0)) (.d (eU (0<s))) t:=gG (v:=.a s) (u:=.a 0) (fu rfl) rfl rfl;by_cases c:0<s
  ·rw[show jn (d9 s) (sz t a n)=sz t a n-s from if_pos c];rw[decide_eq_true c] at q
   exact lT q (hZ (fu (n:=sz t a n) rfl) (fu (n:=s) rfl) rfl)
  ·rw[show jn (d9 s) (sz t a n)=0-s from if_neg c];rw[decide_eq_false c] at q
   exact lS q (hZ (v:=.a 0) rfl (fu (n:=s) rfl) rfl)
theorem IQ{j:Option Int}{k:Nat}:Ex (dd eb k) t (C9 t n a j) (.a 69 (.p gS (.a 78) (.a 70))) .a t (wY t n a j):=
 fO (hZ (fu (n:=sz t a n) rfl) (fu (n:=jn j (sz t a n)) rfl) rfl) rfl
theorem EE{x y:Bool}(h:Ev d t F O (.d x) t)(g:Ev d t F m (.d y) t):Ev d t F (.D jw (.a O (.a m .b))) (.d (x||y)) t:=by
 cases x with
 |true=>exact EF (FC h)
 |false=>
  cases y with
  |true=>exact EF (jR h (FC g))
  |false=>exact pU (jR h (jR g rfl))
theorem IR{j:Option Int}{k:Nat}(h:Ok t T)(W:n∈t.b):Ev (dd eb (k+2)) t (wY t n a j) Uk (.d (eU (sz t a n-jn j (sz t a n)<LL t T a n)||eU (jn j (sz t a n)<ko a))) t:=by
 have O:Ev (dd eb (k+2)) t (wY t n a j) (.h lj (.a 69) (.j 22 (.a (.a 66) (.a (.a 53) (.a (.a 56) .b))))) (.d (eU (sz t a n-jn j (sz t a n)<LL t T a n))) t:=
  gG (v:=.a (sz t a n-jn j (sz t a n))) (fu rfl) (gI (eV (ip rfl) (eV (fu (n:=n) rfl) (eV (fu (n:=a) rfl) fJ))) (zr h W (k:=k))) rfl
 have m:Ev (dd eb (k+2)) t (wY t n a j) (.h lj (.a 70) (.v (.a 66) 33 (.a (.a 56) .b))) (.d (eU (jn j (sz t a n)<ko a))) t:=
  gG (v:=.a (jn j (sz t a n))) (fu rfl) (iL (ip rfl) (eV (fu (n:=a) rfl) fJ) rfl (Hu (k:=k+1) h.f)) rfl
 exact EE O m
theorem Uq{j:Option Int}{k:Nat}(h:Ok t T)(W:n∈t.b)(K:LL t T a n≤sz t a n-jn j (sz t a n))(I:ko a≤jn j (sz t a n)):
  gF eb (k+3) 31 [.b .c,.a n,jW j,.a a] t=d9 (.b (.f [.a (sz t a n-jn j (sz t a n)),.a (jn j (sz t a n))]),t):=by
 have e:[eD.b .c,.a n,jW j,.a a].map eD.e=[.b .c,.a n,jW j,.a a]:=by(clear K I;cases j)<;>rfl
 rw[iB (B:=[66,53,57,56]) (b:=ub) (by decide) rfl rfl,e];have M:=IR (j:=j) (k:=k) (a:=a) h W;rw[decide_eq_false (tl.2 K),decide_eq_false (tl.2 I)] at M;have:f7 (dd eb (k+2)) t (ta n a j) ub (.b (.b (.f [.a (sz t a n-jn j (sz t a n)),.a (jn j (sz t a n))]))) t (wY t n a j):=
  eG (IO h.f W) (eG IP (eG IQ (eG (gU M fp) (iq (i7 (kg (J:=[.a (sz t a n-jn j (sz t a n)),.a (jn j (sz t a n))]) (eV (fu rfl) (eV (fu rfl) fJ)) rfl (iO rfl)) rfl)))))
 show gP (ub.c _ _ (ta n a j))=_;rw[this];rfl
theorem m0{m:Int}{a G:gE}:(t.f m a).f m G=t.f m G:=by
 show{ t with a:=λx=>if x=m then G else(if x=m then a else t.a x) }={ t with a:=λx=>if x=m then G else t.a x }
 congr 1;funext x;by_cases e:x=m
 ·rw[if_pos e,if_pos e]
 ·rw[if_neg e,if_neg e,if_neg e]
theorem lP{m:Int}{w:gE}:(t.f m w).a m=w:=if_pos rfl
theorem Ud{k:Nat}{m d y K C:Int}:gF eb (k+1) 1027 [.b (.d m),.b (tp [d,y,K,C])] t=d9 (.b .e,t.f m { t.a m with i:=d,j:=y,m:=K,k:=C }):=by
 rw[iB (B:=[50,58]) (b:=vC) (by decide) rfl rfl];have s:rB t m [8,9,10,11] (eF [d,y,K,C])=d9 (t.f m { t.a m with i:=d,j:=y,m:=K,k:=C }):=by
  show d9 ((((t.f m { t.a m with i:=d }).f m { ((t.f m { t.a m with i:=d }).a m) with j:=y }).f m _).f m _)=_;rw[lP,m0,lP,m0,lP,m0]
 have:f7 (dd eb k) t (fh [50,58] [.b (.d m),.b (tp [d,y,K,C])]) vC .a _ _:=eG (u6 (n:=m) (as:=eF [d,y,K,C]) rfl (fg (v:=.b (tp [d,y,K,C])) rfl) rfl s) fp;show gP (vC.c _ _ (fh [50,58] [.b (.d m),.b (tp [d,y,K,C])]))=_;rw[this];rfl
theorem Ll{x:Nat}{a k y:Int}(h:Ev d t F O (.a k) E)(g:Ev d E F m (.a y) S)(w:F x=d9 (.f a t.h))(N:S.h=t.h)(z:0≤k∧k≤((S.a a).a.length:Int)∧(S.a a).a.length<100000):
  Ex d t F (.A x O m) .a (S.m a (mB (S.a a).a k.toNat y)) F:=by
 have R:∀D,D.h=t.h->uh F D x=d9 a:=λD e=>by unfold uh;rw[w];exact if_pos e
 show(uh F t x).bind _=_;rw[R t rfl];show(O.q d t F).bind _=_;rw[h];show(m.q d E F).bind _=_;rw[g];show(uh F S x).bind _=_;rw[R S N];exact if_pos z
theorem GW(h:Ok t T)(W:n∈t.b):∃x∈PP t T n,(t.a x).b=0:=by
 refine h.e.M (P:=λn=>∃x∈PP t T n,(t.a x).b=0) ?_ W;intro n W D;by_cases s:(t.a n).b=0
 ·exact(eu n (lX h.e W) s)
 ·refine fL (Kf _ λe=>s ((h.i n W).2 e)) λc X=>?_
  refine eR (D c X) λx Z e=>?_;exact(eu x (BA h.e W (pY h.e W (lX h.e W) X) x Z) e)
noncomputable abbrev w0(p:Int):gE:=⟨0,p,[],0,0,0,0,0,1,1,0,0⟩
def Hq(t:eB)(p n a X M:Int):gE:=
 { hW (1-a) (sz t (1-a) n) (hW a X { w0 p with d:=(t.a M).d,e:=(t.a M).e }) with i:=(t.a M).i,j:=(t.a M).j,m:=(t.a M).m,k:=(t.a M).k }
theorem QJ{X M:Int}(b:Ax a):Fs t p n a X (Hq t p n a X M):=by
 rcases b with rfl|rfl<;>exact⟨rfl,rfl,rfl,rfl,rfl,rfl⟩
theorem Qj{k:Nat}{a:gE}(e:p≠t.c+1):((mE t 0 p).f (t.c+1) a).m p (mB (((mE t 0 p).f (t.c+1) a).a p).a k (t.c+1))=iT t p k a:=by
 have O:((mE t 0 p).f (t.c+1) a).a p=t.a p:=(if_neg e).trans (if_neg e);have m:(((mE t 0 p).f (t.c+1) a).m p (mB (((mE t 0 p).f (t.c+1) a).a p).a k (t.c+1))).a=(iT t p k a).a:=funext λx=>by
  show(if x=p then({ ((mE t 0 p).f (t.c+1) a).a p with a:=_ }:gE) else if x=t.c+1 then a else if x=t.c+1 then _ else t.a x)=(if x=p then _ else if x=t.c+1 then a else t.a x);rw(occs:=eO) [O];by_cases h:x=p
  ·rw(occs:=eO) [if_pos h,if_pos h]
  ·rw(occs:=eO) [if_neg h,if_neg h]
   by_cases h:x=t.c+1
   ·rw(occs:=eO) [if_pos h,if_pos h]
   ·rw(occs:=eO) [if_neg h,if_neg h,if_neg h]
 show({ iT t p k a with a:=(((mE t 0 p).f (t.c+1) a).m p (mB (((mE t 0 p).f (t.c+1) a).a p).a k (t.c+1))).a }:eB)=iT t p k a;rw(occs:=eO) [m]
theorem Up{j:Option Int}{o:Bool}{z X:Int}(h:Gx t T 0 0)(hl:t.b.length≤40)(hn:n∈t.b)(ha:Ax a)(S:∀k,gF eb (k+3) 31 [.b .c,.a n,jW j,.a a] t=d9 (.b (.f [.a z,.a X]),t))(ae:z+X=sz t a n)(h1:LL t T a n≤z)(h2:ko a≤X){k:Nat}:
  ∃v D L,gF eb (k+6) 33 [.b .c,.a n,jW j,.a a,.d o] t=d9 (v,D)∧Gx D L 0 0∧Kp g t D∧D.b.length≤t.b.length+2:=by
 obtain⟨p,E,aa,c1,g1,k1,J,np,i,sm,pc,aA⟩ :=Pm (g:=g) (k:=k) h (im hl (by decide)) hn ha;have y:=(sm n hn).1;have ll:LL E aa a n=LL t T a n:=yv h.e g1.e hn λx Z=>⟨(sm x (j5 h.e hn x Z)).1,(sm x (j5 h.e hn x Z)).2.1,pc x Z⟩;have c:∀m∈E.b,m≠E.c+1:=λm hm ae=>by have:=(g1.g m hm).2;lia
 obtain⟨M0,aq,av⟩ :=GW g1.y y;obtain⟨M,r,eM⟩ :∃M r,(PP E aa n).filter (nP E)=M::r:=by
  cases q:(PP E aa n).filter (nP E) with
  |nil=>exact absurd (lG.2 ⟨aq,decide_eq_true av⟩) (q▸iI)
  |cons M r=>exact⟨M,r,rfl⟩
 have hM:M∈E.b:=j5 g1.e y M (lG.1 (eM▸gp ..)).1;have lu:=zt (Q:=eb) g1.l (im g1.j (by decide)) (λn hn=>(g1.i n hn).1) y (k:=k+4);rw(occs:=eO) [eM] at lu;have kl:=lx g1.l J;have:=g1.j;let m:=E.c+1;let R:=mE E 0 p;let wB:gE:={ w0 p with d:=(E.a M).d,e:=(E.a M).e };let C:gE:=hW a X wB;let wD:gE:=hW (1-a) (sz E (1-a) n) C;let f:gE:=Hq E p n a X M;have hA:∀x∈E.b,x∈R.b:=λx Z=>DQ _ Z;have l:∀w,∀x∈E.b,(R.f m w).a x=E.a x:=λw x Z=>(if_neg (c x Z)).trans (if_neg (c x Z));have aw:∀w b,∀x∈E.b,sz (R.f m w) b x=sz E b x:=λw b x Z=>by unfold sz;rw(occs:=eO) [l w x Z]
 let G:Fr:=fh [66,53,57,56,93] [.b .c,.a n,jW j,.a a,.d o];let K:Fr:=eL (eL G 69 (.a z)) 70 (.a X);let H:Fr:=eL K 55 (.a p);let F3:Fr:=eL H 94 (.b (.d M));let A:Fr:=eL F3 65 (.b (.d m));let F5:Fr:=eL A 71 (.f p E.h);let ix:Nat:=(E.a p).a.idxOf n;let Q:Fr:=eL F5 82 (.a ix);let N:Nat:=if o then ix else ix+1;have az:ix<(E.a p).a.length:=DJ.2 np;have d:=dd eb (k+5);have r1:Ex (dd eb (k+5)) t G (.l em [69,70] (.j 31 (.a (.a 66) (.a (.a 53) (.a (.a 57) (.a (.a 56) .b)))))) .a t K:=by
  refine oQ (as:=[.a z,.a X]) rfl ?_ rfl;have ak:Ev (dd eb (k+5)) t G (.a 57) (jW j) t:=by
   cases j with
   |none=>exact fg (v:=.b .e) rfl
   |some s=>exact fu rfl
  refine gI (eV (ip rfl) (eV (fu (n:=n) rfl) (eV ak (eV (fu (n:=a) rfl) fJ)))) ?_;have e:[eD.b .c,.a n,jW j,.a a].map eD.e=[.b .c,.a n,jW j,.a a]:=by(clear S ak;cases j)<;>rfl
  rw(occs:=eO) [e];exact S (k+2)
 have r2:Ex (dd eb (k+5)) t K (.a 55 (.j 32 (.a (.a 66) (.a (.a 53) (.a (.a 56) .b))))) .a E H:=fO (gI rfl c1) rfl;have I:Ex (dd eb (k+5)) E H (.a 94 (.n (.c (.a 66) 16) (.n (.j 17 (.a (.a 66) (.a (.a 53) .b))) (.d 0)))) .a E F3:=
  fO (iG g1.f rfl (jh (v:=.c eb (eF (M::r))) (u:=.a 0) (w:=.a M) (gI rfl lu) rfl rfl) hM) rfl
 have r4:Ex (dd eb (k+5)) E F3 (.a 65 (.v (.a 66) 28 (.a (.w 10) (.a (.a 55) .b)))) .a R A:=
  fO (iL rfl rfl rfl (Cb (k:=k+1) (by lia))) rfl
 have wM:R.a M=E.a M:=if_neg (c M hM);have Y:Ex (dd eb (k+5)) R A (.s 65 [6,7] (.A (.a (.c (.a 94) 6) (.a (.c (.a 94) 7) .b)))) .a (R.f m wB) A:=by
  refine u6 (n:=m) (as:=eF [(R.a M).d,(R.a M).e]) rfl rfl rfl ?_;show d9 ((R.f m { R.a m with d:=(R.a M).d }).f m { (R.f m { R.a m with d:=(R.a M).d }).a m with e:=(R.a M).e })=_;rw(occs:=eO) [lP,m0,wM,show R.a m=w0 p from if_pos rfl]
 have B:Ex (dd eb (k+5)) (R.f m wB) A (.h (.v (.a 65) 24 (.a (.a 56) (.a (.a 70) .b)))) .a (R.f m C) A:=
  j0 (iL rfl rfl rfl ((CZ (k:=k+4)).trans (by rw(occs:=eO) [lP,m0])))
 have r7:Ex (dd eb (k+5)) (R.f m C) A (.h (.v (.a 65) 24 (.a (.p gS (.d 1) (.a 56)) (.a (.v (.n (.c (.a 66) 16) (.a 53)) 23 (.a (.p gS (.d 1) (.a 56)) .b)) .b)))) .a (R.f m wD) A:=by
  have b1:Ev (dd eb (k+5)) (R.f m C) A (.p gS (.d 1) (.a 56)) (.a (1-a)) (R.f m C):=hZ (v:=.a 1) rfl rfl rfl;refine j0 (v:=.b .e) (iL (i4 (n:=m) rfl) (eV b1 (eV (iL (iG g1.f rfl rfl (hA n y)) rfl rfl (mH (k:=k+4))) fJ)) rfl ((CZ (k:=k+4)).trans ?_));rw(occs:=eO) [lP,m0,aw C (1-a) n y]
 have r8:Ex (dd eb (k+5)) (R.f m wD) A (.h (.v (.a 65) 27 (.a (.v (.a 94) 26 .b) .b))) .a (R.f m f) A:=by
  refine j0 (v:=.b .e) (iL rfl rfl rfl ((Ud (k:=k+4)).trans ?_));rw(occs:=eO) [lP,m0,l wD M hM];rfl
 have u:Ex (dd eb (k+5)) (R.f m f) A (.d (.a 65) 14 (.x 6 (.c (.a 94) 14))) .a (R.f m f) A:=nC (v:=.c eb []) (u:=.b (.d m)) rfl rfl rfl;have O:Ex (dd eb (k+5)) (R.f m f) A (.a 71 (.c (.n (.c (.a 66) 16) (.a 55)) 3)) .a (R.f m f) F5:=fO (v:=.f p E.h) (gv (iG g1.f rfl rfl (hA p J)) rfl) rfl;have ag:Ex (dd eb (k+5)) (R.f m f) F5 (.a 82 (.J (.a 71) (.a 53))) .a (R.f m f) Q:=by
  have:=GZ (d:=dd eb (k+5)) (t:=R.f m f) (F:=F5) (n:=p) (k:=n) (i:=71) (j:=53) (by rw(occs:=eO) [l f p J];exact np) (by rw(occs:=eO) [l f p J];lia) rfl rfl;rw(occs:=eO) [l f p J] at this;exact fO this rfl
 have aj:Ex (dd eb (k+5)) (R.f m f) Q (.A 71 (.C (.a 93) (.a 82) (.p io (.a 82) (.d 1))) (.c (.a 65) 0)) .a (iT E p N f) Q:=by
  have q:Ev (dd eb (k+5)) (R.f m f) Q (.C (.a 93) (.a 82) (.p io (.a 82) (.d 1))) (.a N) (R.f m f):=by
   cases o with
   |true=>exact lT rfl rfl
   |false=>exact lS rfl rfl
  have kb:N≤(E.a p).a.length:=by show(if o then ix else ix+1)≤_;split<;>lia
  have q2:Ev (dd eb (k+5)) (R.f m f) Q (.c (.a 65) 0) (.a m) (R.f m f):=gv rfl rfl;have:=Ll (k:=(N:Nat)) (a:=p) (y:=m) q q2 (F:=Q) (x:=71) rfl rfl (by rw(occs:=eO) [l f p J];lia);rw(occs:=eO) [show((N:Int)).toNat=N from rfl,Qj (c p J)] at this;exact this
 (refine gY (Qk (g:=g) (k:=N) g1 (by lia) J np i (QJ (M:=M) ha) (ae.trans ((sm n hn).2.2 a).symm) (ll.symm▸h1) h2) λg1 k2 a2=>?_;refine fL g1 λau G2=>?_)
 refine f5 (G2.ae (k:=k+2)) λV c3 U g3=>?_;have af:p∈(f8 (iT E p N f) a V).b:=DQ _ J;refine i8 (Hh (g:=g) g3 af) λP k4 kj U=>?_;have c4:=Hi (Q:=eb) (k:=k+4) g3.y af kj;refine eR (CR (k:=k+3) P) λac c5 U=>?_;have F:Kp g (kn (f8 (iT E p N f) a V) p) (gz (kn (f8 (iT E p N f) a V) p) ac):=⟨λU Z U U=>Z,λx Z=>eH ⟨Z,rfl,rfl⟩,ja _,λx Z=>(P.g x Z).2,rfl,rfl,rfl,rfl⟩;refine(ph (.a m) _ au ?_ P.Y ((((k1.f k2).f (zJ λx Z=>(g3.g x Z).2)).f k4).f F) ?_)
 ·have e:[eD.b .c,.a n,jW j,.a a,.d o].map eD.e=[.b .c,.a n,jW j,.a a,.d o]:=by(clear S r1 r2 I r4 Y B r7 r8 u O ag aj;cases j)<;>rfl
  rw(occs:=eO) [iB (B:=[66,53,57,56,93]) (b:=vQ) (by decide) rfl rfl,e];have:f7 (dd eb (k+5)) t G vQ (.b (.a m)) (gz (kn (f8 (iT E p N f) a V) p) ac) Q:=
   eG r1 (eG r2 (eG I (eG r4 (eG Y (eG B (eG r7 (eG r8 (eG u (eG O (eG ag (eG aj
    (eG (j0 (gI rfl c3)) (eG (j0 (gI rfl c4)) (eG (j0 (gI rfl c5)) (iq (i7 rfl rfl))))))))))))))))
  show gP (vQ.c _ _ G)=_;rw(occs:=eO) [this];rfl
 ·have:=(Ik (t:=f8 (iT E p N f) a V) (p:=p) ((f8 (iT E p N f) a V).a p).a (f8 (iT E p N f) a V).b).length_le
  refine im this ?_;show(E.b++[E.c+1]).length≤_;rw(occs:=eO) [il];show _+1≤_;lia
structure Bx(t:eB)(p c:Int)(t1:eB):Prop where
 e:∀m∈t.b,m≠p->t1.a m={ t.a m with a:=(t.a m).a.map (lC p c),c:=if m=c then(t.a p).c else(t.a m).c }
 a:t1.b=t.b.filter λm=>eU (m≠p)
 b:t1.c=t.c
 d:t1.d=if p=t.d then c else t.d
 f:t1.g=7
 g:t1.l=t.l
 h:t1.i=t.i
 j:t1.k=t.k
 i:t1.e=t.e
theorem Bx.k(l:Bx t p c E)(h:Gx t T p 0)(J:p∈t.b)(e:(t.a p).a=[c]):Gx E T 0 (t.a p).c∧Kp g t E:=by
 have N:=h.d p J c (e▸lR c);have i:=h.k p J c (e▸lR c);have d:(t.a p).b≠0:=λs=>by rw[(h.i p J).1 s] at e;exact nL e
 have F:c≠p:=λe=>by rw[e] at N;exact absurd N.2 (lg _)
 have L:∀n,n∈E.b↔n∈t.b∧n≠p:=λn=>by rw(occs:=eO) [l.a,lG,decide_eq_true_iff]
 have R:∀n∈t.b,n≠p->(E.a n).b=(t.a n).b∧(E.a n).f=(t.a n).f∧(∀b,sz E b n=sz t b n)∧(E.a n).a=(t.a n).a.map (lC p c)∧(E.a n).c=if n=c then(t.a p).c else(t.a n).c:=λn Y e=>by
  unfold sz;rw[l.e n Y e];exact⟨rfl,rfl,λU=>rfl,rfl,rfl⟩
 have o:∀b,Ax b->sz t b c=sz t b p:=λb j=>by
  have f:=h.u b j p J d;rw[e] at f;by_cases q:fA (t.a p).b=b
  ·rw[if_pos q] at f;exact(Dw _).symm.trans f
  ·rw[if_neg q] at f;exact f c (lR c)
 have V:p≠0:=λe=>by have:=(h.g p J).1;lia
 have w:∀n∈t.b,n≠p->c∉(t.a n).a:=λn Y e v=>e ((h.k n Y c v).symm.trans i);have C:t.d≠c:=λe=>V (by rw[←e,h.m] at i;exact i.symm);have a:(t.a p).c≠p:=λq=>by
  by_cases P:p=t.d
  ·rw[P,h.m] at q;exact V (P.trans q.symm)
  ·have:=h.D p J P;rw[q] at this;exact absurd (h.d p J p this.2).2 (lg _)
 refine⟨{
      d:=λn Y y B=>?_,k:=λn Y y B=>?_,o:=λn Y=>?_,f:=l.f,j:=by rw[l.a];exact im (qA ..) h.j,i:=λn Y=>?_,h:=?_,m:=?_,g:=λn Y=>by rw[l.b];exact h.g n ((L n).1 Y).1,C:=by rw[l.a];exact h.C.filter _,
      D:=λn Y e=>?_,B:=λn Y=>?_,v:=λn Y s e=>?_,A:=λn Y e y B=>?_,x:=λb j n Y s=>?_,z:=λb j=>?_,u:=λb j n Y s=>?_ },
     ⟨λx Z s U=>(L x).2 ⟨Z,λe=>d (e▸s)⟩,λx Z=>eH ⟨((L x).1 Z).1,(R x ((L x).1 Z).1 ((L x).1 Z).2).1,(R x ((L x).1 Z).1 ((L x).1 Z).2).2.1⟩,Av l.b.symm,λx Z=>(h.g x Z).2,l.g,l.h,l.j,l.i⟩⟩
 ·refine fe ((L n).1 Y) λY mp=>?_
  rw[(R n Y mp).2.2.2.1] at B
  (refine fP B λx Z O=>?_;(clear B;obtain rfl:=O))
  have k:=h.d n Y x Z;by_cases e:x=p
  ·clear l h J i d R o V w a mp
   subst e;rw[pD];exact⟨(L c).2 ⟨N.1,F⟩,AI N.2 k.2⟩
  ·rw[nX e];exact⟨(L x).2 ⟨k.1,e⟩,k.2⟩
 ·refine fe ((L n).1 Y) λY mp=>?_
  rw[(R n Y mp).2.2.2.1] at B
  (refine fP B λx Z m=>?_;(clear B;obtain rfl:=m))
  have k:=h.d n Y x Z;by_cases e:x=p
  ·clear l J i d L o V w a mp
   subst e;rw[pD,(R c N.1 F).2.2.2.2,if_pos rfl];exact h.k n Y x Z
  ·rw[nX e,(R x k.1 e).2.2.2.2,if_neg λ(e:x=c)=>w n Y mp (e▸Z)];exact h.k n Y x Z
 ·refine fe ((L n).1 Y) λY mp=>?_
  rw[(R n Y mp).2.2.2.1];exact HT (h.o n Y) (w n Y mp)
 ·refine fe ((L n).1 Y) λY mp=>?_
  rw(occs:=eO) [(R n Y mp).1,(R n Y mp).2.2.2.1,nj];exact h.i n Y
 ·rw[l.d]
  by_cases e:p=t.d
  ·rw[if_pos e];exact(L c).2 ⟨N.1,F⟩
  ·rw[if_neg e];exact(L _).2 ⟨h.h,gM e⟩
 ·rw[l.d]
  by_cases e:p=t.d
  ·rw[if_pos e,(R c N.1 F).2.2.2.2,if_pos rfl,e];exact h.m
  ·rw[if_neg e,(R _ h.h (gM e)).2.2.2.2,if_neg C];exact h.m
 ·rw[l.d] at e
  refine fe ((L n).1 Y) λY mp=>?_;rw[(R n Y mp).2.2.2.2];by_cases q:n=c
  ·have z:p≠t.d:=λs=>by rw[if_pos s] at e;exact e q
   refine h.N p J z λu A=>?_;rw[if_pos q,(R _ u a).2.2.2.1,q];exact⟨(L _).2 ⟨u,a⟩,mj.2 (eu p A pD)⟩
  ·have S:n≠t.d:=λs=>by
    by_cases P:p=t.d
    ·exact mp (s.trans P.symm)
    ·rw[if_neg P] at e;exact e s
   refine h.N n Y S λu A=>?_;have K:(t.a n).c≠p:=λs=>by rw[s] at A;rw[show (t.a p).a=[c] by assumption] at A;exact q (gR.1 A)
   rw[if_neg q,(R _ u K).2.2.2.1];exact⟨(L _).2 ⟨u,K⟩,mj.2 (eu n A (nX mp))⟩
 ·refine fe ((L n).1 Y) λY mp=>?_
  rw[(R n Y mp).1];exact h.B n Y
 ·refine fe ((L n).1 Y) λY mp=>?_
  rw[(R n Y mp).1] at s;rw[(R n Y mp).2.2.2.1,fC];exact h.v n Y s mp
 ·refine fe ((L n).1 Y) λY mp=>?_
  rw[(R n Y mp).2.2.2.1] at B
  (refine fP B λx Z X=>?_;(clear B;obtain rfl:=X))
  have r:x≠p:=λq=>e (q▸(h.k n Y x Z).symm);rw[nX r,(R n Y mp).1,(R x (h.d n Y x Z).1 r).1];exact h.A n Y (λe=>by have:=(h.g n Y).1;lia) x Z
 ·refine fe ((L n).1 Y) λY mp=>?_
  rw[(R n Y mp).2.2.1];exact h.x b j n Y ((R n Y mp).1▸s)
 ·rw[l.d]
  by_cases e:p=t.d
  ·rw[if_pos e,(R c N.1 F).2.2.1,o b j,e];exact h.z b j
  ·rw[if_neg e,(R _ h.h (gM e)).2.2.1];exact h.z b j
 ·refine fe ((L n).1 Y) λY mp=>?_
  have G:∀y∈(t.a n).a,(Internal.sz E b∘lC p c) y=Internal.sz t b y:=λy B=>by
   show Internal.sz E b (lC p c y)=_;by_cases e:y=p
   ·rw[e,pD,(R c N.1 F).2.2.1];exact o b j
   ·rw[nX e];exact(R y (h.d n Y y B).1 e).2.2.1 b
  rw[(R n Y mp).1] at s;have f:=h.u b j n Y s;rw[(R n Y mp).1,(R n Y mp).2.2.2.1,(R n Y mp).2.2.1,gJ,kf G];by_cases q:fA (t.a n).b=b
  ·rw[if_pos q] at f ⊢;exact f
  ·rw[if_neg q] at f ⊢
   intro x Z
   (refine fP Z λy B M=>?_;(clear Z;obtain rfl:=M))
   exact(G y B).trans (f y B)
def mV(t:eB)(p:Int):eB:={ t.m p [] with h:=t.h+1,b:=t.b.filter λm=>eU (m≠p) }
theorem QV(h:Gx t T p 0)(J:p∈t.b)(sp:(t.a p).b≠0){k:Nat}:∃D,gF eb (k+3) 35 [.b .c,.a p] t=d9 (.b .e,D)∧Gx D T 0 0∧Kp g t D∧∀b,Ax b->∀x∈t.b,x≠p->sz D b x=sz t b x∧(D.a x).b=(t.a x).b∧D.c=t.c:=by
 have kl:=lx h.l J;have:=h.j;rw[iB (B:=[66,53]) (b:=sA) (by decide) rfl rfl];let K:Fr:=eL (fh [66,53] [.b .c,.a p]) 68 (.b (.d p));have P:Ev (dd eb (k+2)) t K (.x 0 (.c (.a 68) 3)) (.a (t.a p).a.length) t:=by
  have:=jM (d:=dd eb (k+2)) (t:=t) (F:=K) (g:=0) (gv (f:=3) (i4 (i:=68) (n:=p) rfl) rfl) (sD (Q:=eb) jK rfl (by rw[gB];lia));rwa [gB] at this
 have I:Ex (dd eb (k+2)) t (fh [66,53] [.b .c,.a p]) (.a 68 (.n (.c (.a 66) 16) (.a 53))) .a t K:=fO (iG h.f rfl (fu (n:=p) rfl) J) rfl;by_cases C:((t.a p).a.length:Int)=1
 ·refine fL (DK.1 (V6 C)) λc e=>?_
  have N:=h.d p J c (e▸lR c);have F:c≠p:=λe=>by rw[e] at N;exact absurd N.2 (lg _)
  let H:Fr:=eL K 86 (.a c);have w:Ex (dd eb (k+2)) t K (.c (.h gd (.x 0 (.c (.a 68) 3)) (.d 1)) (.a (.D) .b) .b) .a t K:=gU (lU (y:=1) P rfl C) fp;have j:Ex (dd eb (k+2)) t K (.a 86 (.n (.c (.a 68) 3) (.d 0))) .a t H:=by
   refine fO (v:=.a c) (jh (v:=.f p t.h) (u:=.a 0) (gv (i4 (n:=p) rfl) rfl) rfl ?_) rfl;show(ia t (.f p t.h)).bind _=_;rw[jK,e];rfl
  have O:∀S,gF eb (k+2) 20 [.b .c,.a p,.a c] t=d9 (.b .e,S)->Bx t p c (mV S p)->S.g=7->S.b=t.b->∃D,gP (sA.c (dd eb (k+2)) t (fh [66,53] [.b .c,.a p]))=d9 (.b .e,D)∧Gx D T 0 0∧Kp g t D∧∀b,Ax b->∀x∈t.b,x≠p->sz D b x=sz t b x∧(D.a x).b=(t.a x).b∧D.c=t.c:=λS hr l f v=>by
   refine fe (l.k (g:=g) h J e) λL Q=>?_;have o:∀x∈t.b,x≠p->(∀b,sz (mV S p) b x=sz t b x)∧((mV S p).a x).b=(t.a x).b:=λx Z r=>by unfold sz;rw[l.e x Z r];exact⟨λU=>rfl,rfl⟩
   have M:Ex (dd eb (k+2)) t H (.h (.j 20 (.a (.a 66) (.a (.a 53) (.a (.a 86) .b))))) .a S H:=j0 (gI (eV (ip rfl) (eV (fu (n:=p) rfl) (eV (fu (n:=c) rfl) fJ))) hr);have R:Ex (dd eb (k+2)) S H (.d (.a 68) 3 (.z .b)) .a { S.m p [] with h:=S.h+1 } H:=EH (X:=[]) (qL fJ rfl (pJ _)) (i4 (n:=p) rfl);have i:Ex (dd eb (k+2)) { S.m p [] with h:=S.h+1 } H (.q 66 (.a 53)) .a (mV S p) H:=yd (fu (n:=p) rfl) rfl (v.symm▸J) (by show S.b.length≤_;rw[v];lia);have X:c∈(mV S p).b:=by rw(occs:=eO) [l.a];exact lG.2 ⟨N.1,by rw(occs:=eO) [decide_eq_true_iff];exact F⟩
   have n:Ev (dd eb (k+2)) (mV S p) H (.c (.n (.c (.a 66) 16) (.a 86)) 2) (.a (t.a p).c) (mV S p):=gv (iG f rfl (fu (n:=c) rfl) X) (by
    show d9 (eD.a ((mV S p).a c).c)=_;rw[l.e c N.1 F];show d9 (eD.a (if c=c then _ else _))=_;rw[if_pos rfl])
   by_cases z:(t.a p).c=0
   ·have:f7 (dd eb (k+2)) t (fh [66,53] [.b .c,.a p]) sA .a (mV S p) H:=
     eG I (eG w (eG j (eG M (eG R (eG i (eG (gU (lU (y:=0) n rfl z) fp) fp))))))
    rw[z] at L;exact(lO (mV S p) (congrArg gP this) L Q (λb U x Z r=>⟨(o x Z r).1 b,(o x Z r).2,l.b⟩))
   ·have d:p≠t.d:=λe=>z (e▸h.m)
    refine h.N p J d λu A=>?_;have a:(t.a p).c≠p:=λq=>by rw[q] at A;exact absurd (h.d p J p A).2 (lg _)
    have y:(t.a p).c∈(mV S p).b:=by rw(occs:=eO) [l.a];exact lG.2 ⟨u,by rw(occs:=eO) [decide_eq_true_iff];exact a⟩
    refine i8 (Hh (g:=g) L y) λg2 k2 kj zj=>?_;have jo:=Hi (Q:=eb) (k:=k+1) L.y y kj;have:f7 (dd eb (k+2)) t (fh [66,53] [.b .c,.a p]) sA .a (kn (mV S p) (t.a p).c) H:=
     eG I (eG w (eG j (eG M (eG R (eG i (eG (jj (uZ (y:=0) n rfl z) (eG (j0 (gI (eV (ip rfl) (eV n fJ)) jo)) fp)) fp))))))
    refine(lO (kn (mV S p) (t.a p).c) (congrArg gP this) g2 (Q.f k2) (λb U x Z r=>⟨(zj.1 b x).trans ((o x Z r).1 b),(zj.2 x).trans (o x Z r).2,l.b⟩))
  have B:∀m∈t.b,m≠(t.a p).c->(t.a m).a.map (lC p c)=(t.a m).a:=λm Y G=>zw λX=>G (h.k m Y p X).symm;by_cases z:p=t.d
  ·have E:=h.m
   rw[←z] at E;refine O _ (Iu (Q:=eb) (k:=k+1) h.f J N.1 E) ⟨λm Y mp=>?_,rfl,rfl,(if_pos z).symm,h.f,rfl,rfl,rfl,rfl⟩ h.f rfl;show(if m=p then _ else if m=c then({ t.a c with c:=0 }:gE) else t.a m)=_;rw[if_neg mp,B m Y (λe=>by rw[e,E] at Y;have:=(h.g 0 Y).1;lia),E];by_cases q:m=c
   ·rw[if_pos q,if_pos q,q]
   ·rw[if_neg q,if_neg q]
  ·refine h.N p J z λu A=>?_
   have a:(t.a p).c≠p:=λq=>by rw[q] at A;exact absurd (h.d p J p A).2 (lg _)
   have:=lx h.l u;refine O _ (It (Q:=eb) (k:=k+1) (p:=(t.a p).c) h.f J N.1 rfl (λe=>by rw[e] at u;have:=(h.g 0 u).1;lia) u A (by lia)) ⟨λm Y mp=>?_,rfl,rfl,(if_neg z).symm,h.f,rfl,rfl,rfl,rfl⟩ h.f rfl;show(if m=p then _ else if m=(t.a p).c then({ (if(t.a p).c=c then _ else t.a (t.a p).c:gE) with a:=_ }:gE) else if m=c then({ t.a c with c:=(t.a p).c }:gE) else t.a m)=_;have aa:(t.a p).c≠c:=λe=>by have:=(h.d _ u p A).2;rw[e] at this;lia
   rw[if_neg mp,if_neg aa,IF (h.o _ u) A];by_cases q:m=(t.a p).c
   ·rw[if_pos q,if_neg λe=>aa (q.symm.trans e),q]
   ·rw[if_neg q,B m Y q]
    by_cases q:m=c
    ·rw[if_pos q,if_pos q,q]
    ·rw[if_neg q,if_neg q]
 ·have G:(t.a p).a≠[]:=λe=>sp ((h.i p J).2 e)
  have l2:2≤(t.a p).a.length:=by have:=DL.2 G;lia
  have:f7 (dd eb (k+2)) t (fh [66,53] [.b .c,.a p]) sA (.b (.b .e)) t K:=eG I (iq (jj (uZ (y:=1) P rfl C) (iq rfl)));refine(lO t (congrArg gP this) ({ h with v:=λm Y s U=>?_ }) ⟨λU Z U U=>Z,λx Z=>eH ⟨Z,rfl,rfl⟩,ja _,λx Z=>(h.g x Z).2,rfl,rfl,rfl,rfl⟩ (λU U U U U=>⟨rfl,rfl,rfl⟩));by_cases e:m=p
  ·rw[e];exact l2
  ·exact h.v m Y s e
theorem UF{l:List Int}{f:Int->Int}(h:n∈l):(l.map f).sum=f n+((l.erase n).map f).sum:=by
 induction l with
 |nil=>cases h
 |cons c r D=>
  rw[List.erase_cons];by_cases e:c=n
  ·clear D h
   subst e;rw[if_pos (beq_self_eq_true c),gj,kr]
  ·rw[if_neg (λq=>e (eq_of_beq q)),gj,gj,kr,kr,D ((gy.1 h).resolve_left (gM e))];lia
def km(t:eB)(p n:Int):eB:=wQ (t.m p ((t.a p).a.erase n)) n
theorem Pz(h:Gx t T 0 0)(a:n∈t.b)(X:(t.a n).a=[])(J:p∈t.b)(r:n∈(t.a p).a)(z:o∈(t.a p).a)(E:o≠n):Gp (km t p n) T p 0 p (fA (t.a p).b) o (sz t (fA (t.a p).b) o+sz t (fA (t.a p).b) n)∧Kp n t (km t p n):=by
 have M:=sh (s:=(t.a p).b);have C:p≠n:=λe=>by rw[e,X] at r;cases r
 have W:=h.k p J n r;have d:(t.a p).b≠0:=λs=>by rw[(h.i p J).1 s] at r;cases r
 have L:∀m,m∈(km t p n).b↔m∈t.b∧m≠n:=λm=>by show m∈t.b.filter _↔_;rw(occs:=eO) [lG,decide_eq_true_iff]
 have v:(km t p n).a p={ t.a p with a:=(t.a p).a.erase n }:=if_pos rfl;have N:∀m,m≠p->(km t p n).a m=t.a m:=λm e=>if_neg e;have i:((km t p n).a p).a=(t.a p).a.erase n:=by rw[v]
 have g:∀y,y∈(t.a p).a.erase n↔y≠n∧y∈(t.a p).a:=λy=>(h.o p J).mem_erase_iff;have R:∀m,((km t p n).a m).b=(t.a m).b∧((km t p n).a m).c=(t.a m).c∧((km t p n).a m).f=(t.a m).f∧∀b,sz (km t p n) b m=sz t b m:=λm=>by
  by_cases e:m=p
  ·clear J r z M C W d L N i g
   subst e;unfold sz;rw[v];exact⟨rfl,rfl,rfl,λU=>rfl⟩
  ·unfold sz;rw[N m e];exact⟨rfl,rfl,rfl,λU=>rfl⟩
 have I:∀m∈t.b,∀y∈((km t p n).a m).a,y∈(t.a m).a∧y≠n:=λm Y y B=>by
  by_cases e:m=p
  ·clear J r z M C W d L v N R
   subst e;rw[i] at B;exact⟨((g y).1 B).2,((g y).1 B).1⟩
  ·rw[N m e] at B;exact⟨B,λq=>e ((h.k m Y y B).symm.trans (q▸W))⟩
 have G:Gc (km t p n) T p 0:=
  {
   d:=λm Y y B=>by
    refine fe (I m ((L m).1 Y).1 y B) λS l=>?_;have k:=h.d m ((L m).1 Y).1 y S;exact⟨(L y).2 ⟨k.1,l⟩,k.2⟩
   k:=λm Y y B=>by
    rw[(R y).2.1];exact h.k m ((L m).1 Y).1 y (I m ((L m).1 Y).1 y B).1
   o:=λm Y=>by
    by_cases e:m=p
    ·clear J r z M C W d v N g R I
     subst e;rw[i];exact(h.o m ((L m).1 Y).1).erase n
    ·rw[N m e];exact h.o m ((L m).1 Y).1
   f:=h.f
   j:=im (qA ..) h.j
   i:=λm Y=>by
    rw[(R m).1];by_cases e:m=p
    ·clear J r M C W L v N R I Y
     subst e;rw[i];exact⟨λs=>absurd s d,λq=>by have:=(g o).2 ⟨E,z⟩;rw[q] at this;cases this⟩
    ·rw[N m e];exact h.i m ((L m).1 Y).1
   h:=(L _).2 ⟨h.h,λ(e:t.d=n)=>by have:=h.m;rw[e,W] at this;have:=(h.g p J).1;lia⟩
   m:=(R _).2.1.trans h.m
   g:=λm Y=>h.g m ((L m).1 Y).1
   C:=h.C.filter _
   D:=λm Y e=>by
    refine h.N m ((L m).1 Y).1 e λu A=>?_;rw[(R m).2.1];refine⟨(L _).2 ⟨u,λe=>by rw[e,X] at A;cases A⟩,?_⟩;by_cases e:(t.a m).c=p
    ·rw[e,i];exact(g m).2 ⟨((L m).1 Y).2,e▸A⟩
    ·rw[N _ e];exact A
   B:=λm Y=>by rw[(R m).1];exact h.B m ((L m).1 Y).1
   v:=λm Y s e=>by
    rw[(R m).1] at s;rw[N m e];exact h.v m ((L m).1 Y).1 s λe=>by have:=(h.g m ((L m).1 Y).1).1;lia
   A:=λm Y e y B=>by
    rw[(R m).1,(R y).1];exact h.A m ((L m).1 Y).1 e y (I m ((L m).1 Y).1 y B).1
   x:=λb j m Y s=>by rw[(R m).2.2.2];exact h.x b j m ((L m).1 Y).1 ((R m).1▸s)
   z:=λb j=>((R _).2.2.2 b).symm▸h.z b j }
 have K:=(h.d p J o z).1;have f:=h.u _ M p J d;rw[if_pos rfl] at f;have w:=h.nn M K;have D:=h.nn M a;have V:∀x∈(t.a p).a.erase n,0≤kP (sz t (fA (t.a p).b)) o (sz t (fA (t.a p).b) o+sz t (fA (t.a p).b) n) x:=λx Z=>by
  unfold kP;by_cases e:x=o
  ·rw[if_pos e];lia
  ·rw[if_neg e];exact h.nn M (h.d p J x ((g x).1 Z).2).1
 have Q:(((t.a p).a.erase n).map (kP (sz t (fA (t.a p).b)) o (sz t (fA (t.a p).b) o+sz t (fA (t.a p).b) n))).sum=sz t (fA (t.a p).b) p:=by
  rw[IZ ((g o).2 ⟨E,z⟩) ((h.o p J).erase n),←f,UF r];lia
 refine⟨{ G with G:=λb j m Y e s=>?_,E:=(L p).2 ⟨J,C⟩,F:=i▸(g o).2 ⟨E,z⟩,H:=by rw[(R p).1],K:=?_,J:=λm Y=>by rw[(R m).2.2.2];exact h.W M ((L m).1 Y).1,I:=?_,L:=?_ },
  ⟨λx Z U e=>(L x).2 ⟨Z,e⟩,λx Z=>eH ⟨((L x).1 Z).1,(R x).1,(R x).2.2.1⟩,ja _,λx Z=>(h.g x Z).2,rfl,rfl,rfl,rfl⟩⟩
 ·rw[(R m).1] at s ⊢
  have f:=h.u b j m ((L m).1 Y).1 s;rw[show sz (km t p n) b=sz t b from funext λm=>(R m).2.2.2 b];by_cases q:fA (t.a m).b=b
  ·have mp:m≠p:=λP=>e (by rw[←q,P]) P
   rw[if_pos q] at f ⊢;rw[N m mp];exact f
  ·rw[if_neg q] at f ⊢;exactλy B=>f y (I m ((L m).1 Y).1 y B).1
 ·rw[i,show sz (km t p n) (fA (t.a p).b)=sz t (fA (t.a p).b) from funext λm=>(R m).2.2.2 _,Q]
 ·refine jX (Av (yv h.e G.e K λx Z=>?_)) (jX (h.U M K) (by lia))
  have F:x≠n:=λe=>yz h.l J z r E x Z (by rw[e];exact lX h.e a);exact⟨(L x).2 ⟨j5 h.e K x Z,F⟩,(R x).1,by rw[N x λe=>zB h.l J z (e▸Z)]⟩
 ·have:=zx (l:=((t.a p).a.erase n).map _) (λx Z=>by(refine fP Z λy B O=>?_;(clear Z;obtain rfl:=O));exact V y B) _ (jY ((g o).2 ⟨E,z⟩))
  rw[Q,show kP (sz t (fA (t.a p).b)) o (sz t (fA (t.a p).b) o+sz t (fA (t.a p).b) n) o=_ from if_pos rfl] at this;exact jX this (h.W M J)
def iW(t:eB)(a:Int->Nat):List Int:=(PP t a t.d).filter (nP t)
theorem sW(h:Gx t T q r){x:Int}:x∈iW t T↔x∈t.b∧(t.a x).b=0:=
 lG.trans ⟨λw=>fe w λa b=>⟨j5 h.e h.h x a,of_decide_eq_true b⟩,λo=>fe o λa b=>⟨h.Z a,decide_eq_true b⟩⟩
theorem Q3(h:Gx t T q r):∃f l,iW t T=f::l:=by
 refine eR (GW h.y h.h) λx Z s=>?_;cases e:iW t T with
 |nil=>exact absurd ((sW h).2 ⟨j5 h.e h.h x Z,s⟩) (e▸iI)
 |cons f l=>exact⟨f,l,rfl⟩
theorem sX(h:Gx t T q r){G:Prop}(N:∀f l,iW t T=f::l->G):G:=uo (Q3 h) N
theorem HB(h:Gx t T q r){k:Nat}:gF eb (k+1) 17 [.b .c,.a t.d] t=d9 (.c eb (eF (iW t T)),t):=
 zt h.l (im h.j (by decide)) (λn W=>(h.i n W).1) h.h
def oy(t:eB)(a:Int->Nat):Int:=l9 t ((iW t a).headD 0) (iW t a)
noncomputable def nQ(t:eB)(n:Int):Int:=if 0<(((t.a (t.a n).c).a.idxOf n:Nat):Int) then(t.a (t.a n).c).a.getD ((t.a (t.a n).c).a.idxOf n-1) 0 else(t.a (t.a n).c).a.getD 1 0
theorem Ia(h:Gx t T 0 0)(W:n∈t.b)(H:n≠t.d):nQ t n∈(t.a (t.a n).c).a∧nQ t n≠n:=by
 refine h.N n W H λL r=>?_;have g:=DJ.2 r;have V:=h.v _ L (λs=>by rw[(h.i _ L).1 s] at r;cases r) (λe=>by have:=(h.g _ L).1;lia);have E:=h.o _ L;have S:∀i,i<(t.a (t.a n).c).a.length->i≠(t.a (t.a n).c).a.idxOf n->(t.a (t.a n).c).a.getD i 0∈(t.a (t.a n).c).a∧(t.a (t.a n).c).a.getD i 0≠n:=λi R G=>by
  rw[lD,jF R];refine⟨uG R,λe=>G ?_⟩;have e:(t.a (t.a n).c).a[i]=n:=e;rw[←E.idxOf_getElem i R,e]
 unfold nQ;by_cases c:0<(((t.a (t.a n).c).a.idxOf n:Nat):Int)
 ·rw[if_pos c];exact S _ (by lia) (by lia)
 ·rw[if_neg c];exact S _ (by lia) (by lia)
theorem G5{n k:Int}(z:k∈(t.a n).a)(C:(t.a n).a.length≤100000)(h:Ev d t F e (.f n t.h) t)(g:F j=d9 (.a k)):Ev d t F (.J e (.a j)) (.a ((t.a n).a.idxOf k:Nat)) t:=by
 show(e.q d t F).bind _=_;rw[h];show(ia t (.f n t.h)).bind _=_;rw[jK];show(eW.q d (.a j) t F).bind _=_;rw[fu g];show(jC t (.f n t.h)).bind _=_;have:jC t (.f n t.h)=d9 (t.a n).a:=by show(ia t (.f n t.h)).bind _=_;rw[jK];exact nO _
 rw[this];exact if_pos ⟨z,C⟩
theorem GX{z:List eT}{i:Nat}{x:eT}(h:z[i]? =d9 x)(R:i<1000):pi z (i:Int)=d9 (.b x):=by
 unfold pi;rw[if_pos (by lia),if_pos (by lia),Dz,h];rfl
theorem zg{n:Int}{i:Nat}(R:i<(t.a n).a.length)(C:(t.a n).a.length≤60):m7 t (.f n t.h) (.a i)=d9 (.a ((t.a n).a.getD i 0)):=by
 have:m7 t (.f n t.h) (.a i)=(ia t (.f n t.h)).bind λz=>pi z i:=rfl;rw[this,jK,Option.bind_some];exact GX (x:=.a ((t.a n).a.getD i 0)) (by rw[lE,lD,jF R];rfl) (by lia)
theorem ED{x y:Int}(h:Ev d t F O (.a x) t)(g:Ev d t F m (.a y) t):Ev d t F (.h lh O m) (.d (eU (y<x))) t:=gG h g rfl
theorem HZ(h:Gx t T 0 0)(W:n∈t.b)(H:n≠t.d){i j:Nat}(K:F i=d9 (.b (.d (t.a n).c)))(a:F j=d9 (.a ((t.a (t.a n).c).a.idxOf n:Nat))):
  Ev d t F (.C (.h lh (.a j) (.d 0)) (.n (.c (.a i) 3) (.p gS (.a j) (.d 1))) (.n (.c (.a i) 3) (.d 1))) (.a (nQ t n)) t∧
  Ev d t F (.n (.c (.a i) 3) (.C (.h lh (.a j) (.d 0)) (.p gS (.a j) (.d 1)) (.d 1))) (.a (nQ t n)) t:=by
 refine h.N n W H λL r=>?_;have E:=im (lx h.l L) h.j;have g:=DJ.2 r;have V:=h.v _ L (λs=>by rw[(h.i _ L).1 s] at r;cases r) (λe=>by have:=(h.g _ L).1;lia);have I:Ev d t F (.c (.a i) 3) (.f (t.a n).c t.h) t:=gv (i4 K) rfl;have Y:Ev d t F (.h lh (.a j) (.d 0)) (.d (eU (0<(((t.a (t.a n).c).a.idxOf n:Nat):Int)))) t:=ED (fu a) (y:=0) rfl;have q:0<(((t.a (t.a n).c).a.idxOf n:Nat):Int)->Ev d t F (.p gS (.a j) (.d 1)) (.a (((t.a (t.a n).c).a.idxOf n-1:Nat):Int)) t:=λc=>by
  have:Ev d t F (.p gS (.a j) (.d 1)) (.a ((((t.a (t.a n).c).a.idxOf n:Nat):Int)-1)) t:=hZ (fu a) (u:=.a 1) rfl rfl;rwa [show((((t.a (t.a n).c).a.idxOf n:Nat):Int)-1)=(((t.a (t.a n).c).a.idxOf n-1:Nat):Int) by lia] at this
 unfold nQ;by_cases c:0<(((t.a (t.a n).c).a.idxOf n:Nat):Int)
 ·rw[decide_eq_true c] at Y;rw[if_pos c]
  exact⟨lT Y (jh I (q c) (zg (by lia) E)),jh I (lT Y (q c)) (zg (by lia) E)⟩
 ·rw[decide_eq_false c] at Y;rw[if_neg c]
  exact⟨lS Y (jh I (u:=.a ((1:Nat):Int)) rfl (zg V E)),jh I (lS Y (v:=.a ((1:Nat):Int)) rfl) (zg V E)⟩
def vq(t:eB)(n:Int):Int:=fA (t.a (t.a n).c).b
theorem PC(h:Gx t T 0 0)(v:n∈t.b)(S:(t.a n).b=0)(nr:n≠t.d){k:Nat}:
  ∃D,gF eb (k+4) 37 [.b .c,.a n] t=d9 (.b .e,{ D with i:=if t.i=n then oy D T else D.i })∧Gx D T 0 0∧Po D∧Kp n t D∧n∉D.b∧sz D (vq t n) (nQ t n)=sz t (vq t n) (nQ t n)+sz t (vq t n) n∧(D.a (nQ t n)).b=(t.a (nQ t n)).b∧D.c=t.c:=by
 refine h.N n v nr λL r=>?_;refine fe (Ia h v nr) λw u=>?_;have X:=(h.i n v).1 S;have kl:=im (lx h.l L) h.j;have p0:(t.a n).c≠0:=λe=>by have:=(h.g _ L).1;lia
 have d:(t.a (t.a n).c).b≠0:=λs=>by rw[(h.i _ L).1 s] at r;cases r
 obtain⟨p,ep⟩ :∃p,(t.a n).c=p:=⟨_,rfl⟩;have f:=λ(F:Fr) i j=>HZ (d:=dd eb (k+3)) (F:=F) (i:=i) (j:=j) h v nr;have ax:=sh (s:=(t.a p).b);unfold vq;rw[ep] at L r w kl p0 d f ⊢;obtain⟨o,eo⟩ :∃o,nQ t n=o:=⟨_,rfl⟩;rw[eo] at w u f ⊢;obtain⟨a,z⟩ :∃a,fA (t.a p).b=a:=⟨_,rfl⟩;have oa:=(h.d p L o w).1;have E:=(h.d p L o w).2;refine fe (Pz h v X L r w u) λaa k1=>?_;rw[z] at aa ax ⊢;refine f5 (aa.ae (k:=k)) λV c2 zo g2=>?_;have af:p∈(f8 (km t p n) a V).b:=aa.E;have ae:∀x,((f8 (km t p n) a V).a x).b=(t.a x).b:=λx=>mZ.trans (by
  show(if x=p then _ else _:gE).b=_;by_cases e:x=p
  ·rw[if_pos e,e]
  ·rw[if_neg e])
 refine nR (QV (g:=n) (k:=k) g2 af (by rw[ae];exact d)) λC R g3 k3 zz=>?_;refine eR (CR (k:=k+1) g3) λP c4 po=>?_;have op:o≠p:=λe=>by rw[e] at E;exact absurd E (lg _)
 have ak:o∈(f8 (km t p n) a V).b:=(aa.d p aa.E o aa.F).1;refine gY (zz a ax o ak op) λav aw az=>?_;have k4:Kp n C (gz C P):=⟨λU Z U U=>Z,λx Z=>eH ⟨Z,rfl,rfl⟩,ja _,λx Z=>(g3.g x Z).2,rfl,rfl,rfl,rfl⟩;have N:=((k1.f (zJ λx Z=>(aa.g x Z).2)).f k3).f k4;have aj:n∉(gz C P).b:=λY=>by
  rcases(k3.f k4).a n Y with ⟨Y,_⟩ |⟨hl,_⟩
  ·have:n∈t.b.filter λm=>eU (m≠n):=Y
   exact absurd rfl (of_decide_eq_true (lG.1 this).2)
  ·have:t.c<n:=hl
   have:=(h.g n v).2;lia
 refine(Cd (gz C P) ?_ g3.Y po N aj ⟨(by rw[CT,av,rD,zo]),(aw.trans (ae o)),az⟩);rw[iB (B:=[66,53]) (b:=vF) (by decide) rfl rfl];let G:Fr:=fh [66,53] [.b .c,.a n];let K:Fr:=eL G 68 (.b (.d n));let H:Fr:=eL K 55 (.b (.d p));let g:Fr:=fV H [82,56] [.a ((t.a p).a.idxOf n:Nat),.a a];let A:Fr:=eL g 96 (.a o);let b:Fr:=eL A 57 (.a (sz t a o+sz t a n));let Q:Fr:=eL b 97 (.d (eU (t.i∈[n])));have r1:Ex (dd eb (k+3)) t G (.a 68 (.v (.a 66) 29 (.a (.a 53) .b))) .a t K:=fO (iL rfl rfl rfl (Do (Q:=eb) (k:=k+2) h.f v)) rfl;have pe:Ev (dd eb (k+3)) t K (.c (.a 68) 2) (.a p) t:=ep▸gv rfl rfl;have r3:Ex (dd eb (k+3)) t K (.a 55 (.n (.c (.a 66) 16) (.c (.a 68) 2))) .a t H:=fO (iG h.f rfl pe L) rfl;have r4:Ex (dd eb (k+3)) t H (.l eb [56,82] (.A (.a (.j 15 (.a (.c (.a 55) 1) .b)) (.a (.J (.c (.a 55) 3) (.a 53)) .b)))) .a t g:=
  oQ (as:=[.a a,.a ((t.a p).a.idxOf n:Nat)]) rfl (kg (J:=[.a a,.a ((t.a p).a.idxOf n:Nat)]) (eV (z▸gI (eV rfl fJ) t8) (eV (G5 r (by lia) rfl rfl) fJ)) rfl (iO rfl)) rfl
 have r5:Ex (dd eb (k+3)) t g (.a 96 (.C (.h lh (.a 82) (.d 0)) (.n (.c (.a 55) 3) (.p gS (.a 82) (.d 1))) (.n (.c (.a 55) 3) (.d 1)))) .a t A:=fO (f g 55 82 rfl rfl).1 rfl;have r6:Ex (dd eb (k+3)) t A (.a 57 (.p io (.v (.n (.c (.a 66) 16) (.a 96)) 23 (.a (.a 56) .b)) (.v (.a 68) 23 (.a (.a 56) .b)))) .a t b:=
  fO (hZ (iL (iG h.f rfl rfl oa) rfl rfl (mH (k:=k+2))) (iL rfl rfl rfl (mH (k:=k+2))) rfl) rfl
 have q:=zt (Q:=eb) h.l (im h.j (by decide)) (λn v=>(h.i n v).1) v (k:=k+2);rw[show(PP t T n).filter (nP t)=[n] by rw[lw h.e v,X];exact xt (decide_eq_true S)] at q;have r7:Ex (dd eb (k+3)) t b (.a 97 (.h og (.c (.a 66) 22) (.j 17 (.a (.a 66) (.a (.a 53) .b))))) .a t Q:=
  fO (gG (ji (f:=6) (v:=.a t.i) rfl rfl h.f) (gI rfl q) rfl) rfl
 let I:=t.m p ((t.a p).a.erase n);have r8:Ex (dd eb (k+3)) t Q (.C 55 (.a 53)) .a I Q:=by
  have:=Lm (d:=dd eb (k+3)) (t:=t) (F:=Q) (o:=55) (n:=p) (k:=n) (e:=.a 53) rfl rfl rfl r (by lia);rwa [←List.erase_eq_eraseIdx_of_idxOf rfl] at this
 have J:∀m,(I.a m).c=(t.a m).c∧∀y∈(I.a m).a,y∈(t.a m).a:=λm=>by
  show(if m=p then _ else _:gE).c=_∧∀y∈(if m=p then _ else _:gE).a,_;by_cases e:m=p
  ·rw[if_pos e,e];exact⟨rfl,λy B=>List.mem_of_mem_erase B⟩
  ·rw[if_neg e];exact⟨rfl,λU B=>B⟩
 have pn:n≠p:=λe=>by rw[←e,X] at r;cases r
 have ag:∀m∈t.b,(I.a m).a.Nodup:=λm Y=>by
  show((if m=p then _ else _:gE).a).Nodup;by_cases e:m=p
  ·rw[if_pos e];exact(h.o p L).erase n
  ·rw[if_neg e];exact h.o m Y
 have uR:Un I T:={ d:=λm Y y B=>h.d m Y y ((J m).2 y B),k:=λm Y y B=>(J y).1.trans (h.k m Y y ((J m).2 y B)),o:=ag };have fo:=P5 (Q:=eb) (k:=k+1) uR (im h.j (by decide)) v (by show(if n=p then _ else _:gE).a=[];rw[if_neg pn];exact X);have r9:Ex (dd eb (k+3)) I Q (.h (.j 21 (.a (.a 66) (.a (.a 53) .b)))) .a (km t p n) Q:=j0 (gI rfl fo);have O:Ex (dd eb (k+3)) (km t p n) Q (.h (.j 24 (.a (.a 66) (.a (.a 96) (.a (.a 56) (.a (.a 57) .b)))))) .a (f8 (km t p n) a V) Q:=j0 (gI rfl c2);have aq:Ex (dd eb (k+3)) (f8 (km t p n) a V) Q (.h (.j 35 (.a (.a 66) (.a (.c (.a 55) 0) .b)))) .a C Q:=j0 (gI rfl R);have au:Ex (dd eb (k+3)) C Q (.h (.j 25 (.a (.a 66) .b))) .a (gz C P) Q:=j0 (gI rfl c4);have ac:∀D s,Ex (dd eb (k+3)) (gz C P) Q s .a D Q->f7 (dd eb (k+3)) t G (.a (.a 68 (.v (.a 66) 29 (.a (.a 53) .b))) (.a (.c (.h fZ (.c (.a 68) 2) (.d 0)) (.a (.p) .b) .b) (.a _ (.a _ (.a _ (.a _ (.a _ (.a _ (.a _ (.a _ (.a _ (.a _ (.a s .b))))))))))))) .a D Q:=λD s S=>
  eG r1 (eG (gU (oj (y:=0) pe rfl p0) fp) (eG r3 (eG r4 (eG r5 (eG r6 (eG r7 (eG r8 (eG r9 (eG O (eG aq (eG au (eG S fp))))))))))))
 have es:(gz C P).i=t.i:=N.b;by_cases c:t.i=n
 ·refine sX (g3.Y (P:=P)) λm l M=>?_
  have lv:=HB (g3.Y (P:=P)) (k:=k+2);have mr:=Rb (Q:=eb) (t:=gz C P) (n:=m) (r:=l) (k:=k+2) g3.f λx Z=>((sW g3.Y).1 (M▸Z)).1;rw[M] at lv;have i:Ev (dd eb (k+3)) (gz C P) Q (.a 97) (.d eb) (gz C P):=decide_eq_true (gR.2 c)▸fg (v:=.d (eU (t.i∈[n]))) rfl;rw[if_pos c,show oy (gz C P) T=l9 (gz C P) m (m::l) by unfold oy;rw[M];rfl];have:f7 (dd eb (k+3)) t G vF .a { gz C P with i:=l9 (gz C P) m (m::l) } Q:=ac _ _ (jj i (eG (nC (v:=.a (l9 (gz C P) m (m::l))) (u:=.b .c) (gI (eV (ip rfl) (eV (gI (eV (ip rfl) (eV (ji (f:=5) (v:=.a (gz C P).d) rfl rfl g3.f) fJ)) lv) fJ)) mr) (ip rfl) (CY g3.f)) fp));exact congrArg gP this
 ·have i:Ev (dd eb (k+3)) (gz C P) Q (.a 97) (.d em) (gz C P):=decide_eq_false (λe=>c (gR.1 e))▸fg (v:=.d (eU (t.i∈[n]))) rfl
  rw[if_neg c];have:f7 (dd eb (k+3)) t G vF .a (gz C P) Q:=ac _ _ (gU i fp);exact congrArg gP this
noncomputable abbrev BK:Ss:=.a (.c (.h gd (.a 72) (.a 53)) (.a (.q 66 (.a 72)) .b) .b) .b
structure Bs(n:Int)(F0 F:Fr):Prop where
 a:∀i,i≠72->F i=F0 i
theorem PI{k:Nat}{O:Fr}(N:O 66=d9 (.b .c))(J:O 53=d9 (.a n)){p:eB->Fr->Bool}(S:∀l F,p (jq t l) F=eb):∀(W l:List Int) (F:Fr),Bs n O F->l.length≤60->W.Nodup->(∀c∈W,c∈l)->
  ∃A M,Bs n O A∧M.Sublist l∧(∀x,x∈M↔x∈l∧(x=n∨x∉W))∧j7 p [72] (λt F=>BK.c (dd eb k) t F) ((eF W).map λx=>[x]) (jq t l) F=d9 (.a,jq t M,A):=by
 intro G
 induction G with
 |nil=>
  intro l F f U U U;exact(kK F l f (V' l) (λx=>⟨λh=>⟨h,eI iI⟩,And.left⟩) (nM (S l F)))
 |cons c r D=>
  intro l F f C E X;rw[kE] at E;have Y:Bs n O (fV F [72] [.a c]):=⟨λi R=>(if_neg R).trans (f.a i R)⟩;have P:=(Y.a 53 (by decide)).trans J;by_cases e:c=n
  ·have I:f7 (dd eb k) (jq t l) (fV F [72] [.a c]) BK .a (jq t l) (fV F [72] [.a c]):=eG (gU (lU (x:=c) (y:=n) rfl (fu P) e) fp) fp
   refine jD (D l _ Y C E.2 λx Z=>X x (gC _ Z)) λA M L j m g=>?_;exact(kK A M L j (λx=>(m x).trans ⟨λw=>fe w λa b=>⟨a,b.elim eH λb=>if h:x=n then eH h else eI λq=>(gy.1 q).elim (λq=>h (q.trans e)) b⟩,λo=>fe o λa b=>⟨a,b.imp id λb q=>b (gC _ q)⟩⟩) ((my (S l F) I).trans g))
  ·have I:f7 (dd eb k) (jq t l) (fV F [72] [.a c]) BK .a (jq t (l.filter λm=>eU (m≠c))) (fV F [72] [.a c]):=
    eG (jj (uZ (x:=c) (y:=n) (fu rfl) (fu P) e) (eG (yd (fu (n:=c) rfl) ((Y.a 66 (by decide)).trans N) (X c (gp ..)) (im C (by decide))) fp)) fp
   refine jD (D (l.filter λm=>eU (m≠c)) _ Y (im (qA ..) C) E.2 λx Z=>lG.2 ⟨X x (gC _ Z),by rw(occs:=eO) [decide_eq_true_iff];exactλq=>E.1 (q▸Z)⟩) λA M L j m g=>?_;refine(kK A M L (j.trans Wj) (λx=>(m x).trans ?_) ((my (S l F) I).trans g));rw(occs:=eO) [lG,decide_eq_true_iff];exact⟨λu=>fe u λs d=>fe s λa b=>⟨a,d.imp id λd q=>(gy.1 q).elim b d⟩,λH=>fe H λa d=>⟨⟨a,λq=>d.elim (λd=>e (q.symm.trans d)) λd=>d (q▸gp ..)⟩,d.imp id λd q=>d (gC _ q)⟩⟩
theorem Sn{l:List Int}(m:∀x,x∈l↔x=n)(E:l.Nodup):l=[n]:=by
 cases l with
 |nil=>exact absurd ((m n).2 rfl) iI
 |cons x r=>
  have e:=(m x).1 (gp ..);cases r with
  |nil=>rw[e]
  |cons y r=>exact absurd (e.trans ((m y).1 (gC _ (gp ..))).symm) λe=>(kE.1 E).1 (e▸gp ..)
def zR(t:eB)(n:Int):gE:={ t.a n with c:=0,g:=0,h:=0,d:=sz t 0 t.d,e:=sz t 1 t.d }
theorem PA(h:Gx t T 0 0)(W:n∈t.b)(u:(t.a n).b=0){k:Nat}:
  ∃D,gF eb (k+3) 38 [.b .c,.a n] t=d9 (.b .e,D)∧Gx D T 0 0∧Po D∧D.d=n∧D.i=n∧D.a n=zR t n∧D.b=[n]∧D.e=t.e∧D.k=t.k:=by
 have X:=(h.i n W).1 u;have wu:=xj (Q:=eb) h.l (im h.j (by decide)) h.h (k:=k+1);rw[iB (B:=[66,53]) (b:=yJ) (by decide) rfl rfl];let G:Fr:=fh [66,53] [.b .c,.a n];let K:Fr:=eL G 68 (.b (.d n));let H:Fr:=eL K 88 (.b (.d t.d));let g:Fr:=fV H [60,59] [.a (t.a t.d).e,.a (t.a t.d).d];have Q:Ex (dd eb (k+2)) t G (.a 68 (.v (.a 66) 30 (.a (.a 53) .b))) .a t K:=fO (iL rfl rfl rfl (Hs (Q:=eb) (k:=k) h.f W u)) rfl;have o:∀F:Fr,F 66=d9 (.b .c)->Ev (dd eb (k+2)) t F (.c (.a 66) 21) (.a t.d) t:=λF N=>ji (f:=5) (v:=.a t.d) N rfl h.f;have r2:Ex (dd eb (k+2)) t K (.a 88 (.n (.c (.a 66) 16) (.c (.a 66) 21))) .a t H:=fO (iG h.f rfl (o _ rfl) h.h) rfl;have r3:Ex (dd eb (k+2)) t H (.l eb [59,60] (.A (.a (.c (.a 88) 6) (.a (.c (.a 88) 7) .b)))) .a t g:=
  oQ (as:=[.a (t.a t.d).d,.a (t.a t.d).e]) rfl rfl rfl
 refine jD (PI (t:=t) (n:=n) (k:=k+2) (O:=g) (p:=lQ (.a (.j 19 (.a (.a 66) (.a (.c (.a 66) 21) .b)))) [.c eb (eF (PP t T t.d))] t g) rfl rfl (λU U=>rfl) (PP t T t.d) t.b g ⟨λU U=>rfl⟩ h.j (Bz h.l h.h) (j5 h.e h.h)) λA l M q d P=>?_;have v:l=[n]:=Sn (λx=>(d x).trans ⟨λO=>fe O λa b=>b.elim id λb=>absurd (h.Z a) b,λe=>⟨e▸W,eH e⟩⟩) (q.nodup h.C);clear q d;subst v;let E:=jq t [n];let S:=E.f n { t.a n with c:=0 };let C:=E.f n (zR t n);let p:eB:={ C with d:=n };have R:A 68=d9 (.b (.d n)):=M.a 68 (by decide);have r5:Ex (dd eb (k+2)) E A (.d (.a 68) 2 (.d 0)) .a S A:=pV (n:=n) (x:=0) rfl (i4 R) rfl;have r6:Ex (dd eb (k+2)) S A (.s 68 [4,5,6,7] (.A (.a (.d 0) (.a (.d 0) (.a (.a 59) (.a (.a 60) .b)))))) .a C A:=by
  refine u6 (n:=n) (as:=eF [0,0,(t.a t.d).d,(t.a t.d).e]) rfl (kg (J:=[.a 0,.a 0,.a (t.a t.d).d,.a (t.a t.d).e]) (eV rfl (eV rfl (eV (fu (M.a 59 (by decide))) (eV (fu (M.a 60 (by decide))) fJ)))) rfl (iO rfl)) R ?_;show d9 ((((S.f n { S.a n with g:=0 }).f n { ((S.f n { S.a n with g:=0 }).a n) with h:=0 }).f n _).f n _)=_;rw[lP,m0,lP,m0,lP,m0,lP,m0];rfl
 have r:Ex (dd eb (k+2)) C A (.d (.a 66) 21 (.a 53)) .a p A:=EI (fu (M.a 53 (by decide))) (M.a 66 (by decide)) h.f;have Z:p.a n=zR t n:=if_pos rfl;have z:∀b,Ax b->sz p b n=sz t b t.d:=λb j=>by
  show(if b=0 then(p.a n).d else(p.a n).e)=_;rw[Z];rcases j with rfl|rfl<;>rfl
 have V:∀m∈p.b,m=n:=λm Y=>gR.1 Y;have w:(p.a n).a=[]:=by rw[Z];exact X
 have L:(p.a n).b=0:=by rw[Z];exact u
 have f:Gx { p with i:=n } T 0 0:=
  {
   d:=λm Y y B=>by rw[V m Y] at B;rw[show(p.a n).a=[] from w] at B;cases B
   k:=λm Y y B=>by rw[V m Y] at B;rw[show(p.a n).a=[] from w] at B;cases B
   o:=λm Y=>by rw[V m Y];show(p.a n).a.Nodup;rw[w];exact n8
   f:=h.f
   j:=iO rfl
   i:=λm Y=>by rw[V m Y];exact⟨λU=>w,λU=>L⟩
   h:=lR n
   m:=by show(p.a n).c=0;rw[Z];rfl
   g:=λm Y=>by rw[V m Y];exact h.g n W
   C:=xx _ n
   D:=λm Y e=>absurd (V m Y) e
   B:=λm Y=>by rw[V m Y];exact eH L
   v:=λm Y s U=>by rw[V m Y] at s;exact absurd L s
   A:=λm Y U y B=>by rw[V m Y] at B;rw[show(p.a n).a=[] from w] at B;cases B
   x:=λb j m Y U=>by rw[V m Y];exact(z b j).symm▸jX (Fp h.y j h.h) (h.U j h.h)
   z:=λb j=>(z b j).symm▸h.z b j
   u:=λb j m Y s=>by rw[V m Y] at s;exact absurd L s }
 have J:Po { p with i:=n }:=⟨by show(p.a n).g=0;rw[Z];rfl,by show(p.a n).h=0;rw[Z];rfl,λm Y=>by
  rw[V m Y];exact⟨λU=>⟨w,f.x 0 (eH rfl) n (lR n) L,f.x 1 (eI rfl) n (lR n) L⟩,λs=>absurd L s⟩⟩
 have r8:Ex (dd eb (k+2)) p A (.c (.h xF (.c (.a 66) 22) (.c (.a 66) 16)) (.a (.d (.a 66) 22 (.a 53)) .b) .b) .a { p with i:=n } A:=by
  have I:=M.a 66 (by decide);have i:Ev (dd eb (k+2)) p A (.h xF (.c (.a 66) 22) (.c (.a 66) 16)) (.d (!eU (t.i∈[n]))) p:=gG (v:=.a t.i) (u:=.j) (ji (f:=6) I rfl h.f) (ji (f:=0) I rfl h.f) rfl;by_cases c:t.i=n
  ·rw[decide_eq_true (gR.2 c)] at i
   have:({ p with i:=n }:eB)=p:=by show({ p with i:=n }:eB)={ p with i:=t.i };rw[c]
   rw[this];exact gU i fp
  ·rw[decide_eq_false λe=>c (gR.1 e)] at i
   exact jj i (eG (nC (v:=.a n) (u:=.b .c) (fu (M.a 53 (by decide))) (ip I) (CY h.f)) fp)
 have:f7 (dd eb (k+2)) t G yJ .a { p with i:=n } A:=
  eG Q (eG r2 (eG r3 (eG (mO (lK (gI (eV rfl (eV (o _ rfl) fJ)) wu)) (kO rfl) rfl rfl P) (eG r5 (eG r6 (eG r (eG r8 fp)))))))
 exact(Cd ({ p with i:=n }) (congrArg gP this) f J rfl rfl ⟨Z,rfl,rfl,rfl⟩)
theorem Lj{T:eW}{Y:List (Nat×fX)}{f:Int->Int}(b:F i=d9 (.b (.d n)))(C:(t.a n).a.length≤60)(a:∀c∈(t.a n).a,Ev d t (iS Y F [73] [.a c]) T (.a (f c)) t):
  Ev d t F (.B T [73] (.a (.c (.a i) 3)) .b Y) (.c eb (eF ((t.a n).a.map f))) t:=by
 have:=pT (d:=d) (t:=t) (F:=F) (T:=T) (N:=[73]) (L:=.a (.c (.a i) 3)) (Y:=Y) (W:=(eF (t.a n).a).map λx=>[x])
  (r1 .e λc=>.a (f c)) (lK (gv (fg b) rfl)) (kO jK) (by rw[fC,gB];lia) ?_
 ·rw(occs:=eO) [gJ,gJ] at this;rw(occs:=eO) [eF,gJ];exact this
 ·intro r R
  (refine fP R λy B O=>?_;(clear R;obtain rfl:=O))
  (refine fP B λc X m=>?_;(clear B;obtain rfl:=m))
  exact a c X
theorem PW{L:Type}{l:List L}:l.filter (λU=>em)=[]:=List.filter_eq_nil_iff.2 λU U=>At
theorem EA{T:eW}{N:List Nat}{L:iF}{a:Es}{Y:List (Nat×fX)}{J:List eD}{W:List (List eT)}(h:L.c d t F=d9 (J,t))(g:pB t L.g J=d9 W)(C:W.length≤100000)
  (z:∀r∈W,a.d d t (iS Y F N r)=d9 (em,t)):Ev d t F (.B T N L a Y) (.c eb []) t:=by
 have:=A2 (T:=T) (λU=>em) (λU=>.e) h g C z λU U e=>At e;rwa [PW] at this
theorem Lk(h:Ev d t F e v E)(N:v.t=eb):Ex d t F (.a i e) .a E (eL (λj=>(F j).map eD.e) i v):=by
 show(e.q d t F).map _=_;rw[h];show d9 (Fl.a,E,oG F i v)=_;unfold oG;rw[N];rfl
theorem ML(y:d.a=eb)(h:Ev d t F O v t)(g:Ev d t F m u t)(k:Ev d t F X w t):(iF.f O m X).c d t F=d9 ([v,u,w],t):=by
 show(if _ then _ else _)=_;rw[if_pos y];show(O.q d t F).bind _=_;rw[h];show(m.q d t F).bind _=_;rw[g];show(X.q d t F).map _=_;rw[k];rfl
theorem S6{z q G:List eT}(h:ia t v=d9 z)(g:ia t u=d9 q)(k:ia t w=d9 G)(C:z.length=q.length∧z.length=G.length):pB t 1 [v,u,w]=d9 ((z.zip (q.zip G)).map λp=>[p.1,p.2.1,p.2.2]):=by
 show(uL ((ia t v).bind _) _)=_;rw[h];show(uL (((ia t u).bind _).map _) _)=_;rw[g];show(uL ((((ia t w).bind _).map _).map _) _)=_;rw[k];show(if _ then _ else _)=_;rw[if_pos ⟨rfl,C⟩]
theorem Da{l:List Int}(h:F i=d9 (.c f (eF l))):mI F (.a i) v=true:=by
 show(!(jE F i).isSome||(iY F i).isSome)=eb;unfold iY jE;rw[h];cases f with
 |true=>show(_||((l5 (eF l)).isSome))=eb;rw[nO];rfl
 |false=>rfl
theorem CV(h:F i=G i):mY G F (.a i)=true:=by
 show(!(iY G i).isSome||eU (iY F i=iY G i))=eb;unfold iY jE;rw[h,decide_eq_true rfl,pG]
noncomputable abbrev BQ:Ss:=.a (.m 102 (.p gS (.p gS (.a 101) (.a 80)) (.p pN (.p jb (.p gS (.a 57) (.x 1 (.a 76))) (.a 85)) (.x 1 (.a 84))))) .b
theorem U'{m N:Int}{M g:List Int}{s u:Bool}{k:Nat}(R:G 57=d9 (.a m))(Z:G 76=d9 (.c s (eF M)))(Q:G 84=d9 (.c u (eF g)))(S:g.sum=N)(j:N≠0∧iZ N)(n:iZ (m-M.sum)){P:eB->Fr->Bool}(q:∀F,(∀i,i≠101->i≠80->i≠85->i≠102->F i=G i)->P t F=eb):
  ∀(W:List (Int×Int×Int)) (dn:List Int) F,(∀i,i≠101->i≠80->i≠85->i≠102->F i=G i)->F 102=d9 (.c eb (eF dn))->(∀p∈W,iZ p.2.2)->dn.length+W.length≤1000->
   ∃A,(∀i,i≠101->i≠80->i≠85->i≠102->A i=G i)∧A 102=d9 (.c eb (eF (dn++W.map λp=>p.1-p.2.1-((m-M.sum)*p.2.2).fdiv N)))∧j7 P [101,80,85] (λt F=>BQ.c (dd eb k) t F) (W.map λp=>[.a p.1,.a p.2.1,.a p.2.2]) t F=d9 (.a,t,A):=by
 intro V
 induction V with
 |nil=>
  intro dn F f I U U;exact(fQ F f (by rw[uH,mJ];exact I) (nM (q F f)))
 |cons B r D=>
  intro dn F f I z C;obtain⟨x,y,w⟩ :=B;rw[lF] at C;have E:=z (x,y,w) (gp ..);let K:Fr:=fV F [101,80,85] [.a x,.a y,.a w];have Y:∀i,i≠101->i≠80->i≠85->i≠102->K i=G i:=λi a b c d=>by
   show(if i=85 then _ else if i=80 then _ else if i=101 then _ else F i)=_;rw[if_neg c,if_neg b,if_neg a];exact f i a b c d
  have X:∀{i:Nat} {o:Bool} {l:List Int},K i=d9 (.c o (eF l))->Ev (dd eb k) t K (.x 1 (.a i)) (.a l.sum) t:=λh=>jM (fg h) rh;have H:f7 (dd eb k) t K BQ .a t (eL K 102 (.c eb (eF (dn++[x-y-((m-M.sum)*w).fdiv N])))):=by
   refine eG ?_ fp;rw[←oJ];have O:Ev (dd eb k) t K (.p jb (.p gS (.a 57) (.x 1 (.a 76))) (.a 85)) (.a ((m-M.sum)*w)) t:=hZ (hZ (fu ((Y 57 (by decide) (by decide) (by decide) (by decide)).trans R)) (X ((Y 76 (by decide) (by decide) (by decide) (by decide)).trans Z)) rfl) (fu (n:=w) rfl) (uk (z9 n) (z9 E));exact qM (y:=.a (x-y-((m-M.sum)*w).fdiv N)) (hZ (hZ rfl rfl rfl) (hZ O (S▸X ((Y 84 (by decide) (by decide) (by decide) (by decide)).trans Q)) (yR j.1 j.2)) rfl) I (by rw[gB];lia)
  refine f5 (D (dn++[x-y-((m-M.sum)*w).fdiv N]) (eL K 102 (.c eb (eF (dn++[x-y-((m-M.sum)*w).fdiv N])))) (λi a b c d=>(if_neg d).trans (Y i a b c d)) rfl (λp J=>z p (gC _ J)) (by rw[il];show dn.length+1+_≤_;lia)) λA L e v=>?_;refine(fQ A L ?_ ((my (q F f) H).trans v));rw[ng] at e;exact e
theorem VP(a b c:List Int):((eF a).zip ((eF b).zip (eF c))).map (λp=>[p.1,p.2.1,p.2.2])=(a.zip (b.zip c)).map λp=>[eT.a p.1,.a p.2.1,.a p.2.2]:=by
 rw(occs:=eO) [pF,eF,List.zip_map,gJ];rfl
theorem CD{x n:Int}(w:0≤n)(K:n≤1000):ri jb (.c eb [.a x]) (.a n)=d9 (.c eb (eF (iJ n.toNat x))):=by
 show(eh<|>(if _ then _ else _))=_;rw(occs:=eO) [if_pos ⟨rfl,by lia,by lia⟩,eF,Wu];rfl
noncomputable abbrev Dd:List (Nat×fX):=[(48,ey),(73,ey),(56,gb),(66,gb)]
noncomputable abbrev I4:List (Nat×fX):=[(48,ey),(101,ey),(57,gb)]
noncomputable abbrev w8:List (Nat×fX):=[(48,ey),(73,ey),(80,ey),(100,gb),(56,gb)]
noncomputable abbrev zW:List (Nat×fX):=[(48,ey),(73,ey),(41,eY),(100,gb),(56,gb),(66,gb)]
abbrev C2:eW:=.B (.p gS (.n (.n (.a 100) (.a 73)) (.a 56)) (.a 80)) [73,80] (.b (.c (.a 72) 3) (.a 76)) .b w8
noncomputable abbrev IH:eW:=.C (.h lh (.x 1 (.a 84)) (.d 0)) (.a 84) (.p jb (.z (.a (.d 1) .b)) (.x 0 (.a 84)))
abbrev T':js:=.g (.h fZ (.B (.d 1) [73] (.a (.c (.a 72) 3)) (.a (.M (.j 41 (.a (.a 66) (.a (.a 73) (.a (.a 56) (.a (.a 100) .b)))))) .b) zW) (.z .b))
abbrev IJ:Ss:=.a (.a 102 (.z .b)) (.a (.j [101,80,85] (.f (.a 65) (.a 76) (.a 84)) BQ) (.a (.a 99 (.x 1 (.a 102))) (.a (.c (.D jw (.a (.h gd (.a 102) (.p io (.p jb (.z (.a (.d 1) .b)) (.a 99)) (.p jb (.z (.a (.d 0) .b)) (.p gS (.x 0 (.a 102)) (.a 99))))) (.a (.h gd (.x 1 (.a 65)) (.a 57)) .b))) (.a (.g (.I em)) .b) .b) .b)))
abbrev II:js:=.c (.h gd (.h fZ (.c (.a 72) 1) (.w 11)) (.h fZ (.a 56) (.w 14)))
 (.a (.c (.h gd (.B (.a 101) [101] (.a (.a 65)) (.a (.h gd (.a 101) (.a 57)) .b) I4) (.z .b)) (.a (.g (.I em)) .b) .b) .b)
 (.a (.a 76 B8) (.a (.a 84 C2) (.a (.a 84 IH) IJ)))
structure SF(n a:Int)(kvs:List (Int×eT))(m:Int)(F:Fr):Prop where
 e:F 66=d9 (.b .c)
 g:F 53=d9 (.a n)
 b:F 56=d9 (.a a)
 f:F 100=d9 (.g em kvs)
 c:F 72=d9 (.b (.d n))
 d:F 57=d9 (.a m)
theorem Rm:mS t gd (.c eb []) (.c eb [])=d9 false:=CH (t:=t) (X:=[])
theorem UL{m:Int}{P:List (Int×eT)}{B M W:List Int}{w u s:Bool}{k:Nat}(f:SF n a P m F)(L:F 65=d9 (.c w (eF B)))(Z:F 76=d9 (.c u (eF M)))(Q:F 84=d9 (.c s (eF (jz W M))))(y:B=j' m W M)
  (C:W.length=M.length) (hb:M.length≤60) (E:∀x∈W,0≤x∧iZ x) (G:M≠[]) (Y:M.sum≤m) (aa:iZ (m-M.sum)) (hN:iZ (mG W M)):
  ∃F',SF n a P m F'∧f7 (dd eb k) t F IJ .a t F':=by
 have r:∀x∈W,0≤x:=λx hx=>(E x hx).1;refine eR (Ua (m:=m) C r G Y) λN kl o=>?_;have X:B.length=M.length:=by rw[y];exact C6 C
 have v:=wW C;have N0:=C4 r G;let K:Fr:=eL F 102 (.c eb []);have tn:∀p∈B.zip (M.zip (jz W M)),iZ p.2.2:=λp J=>by
  have I:p.2.2∈jz W M:=(rG (rG J).2).2;unfold jz at I;by_cases c:W.sum=0
  ·rw[if_pos c] at I;rw[(Kq.1 I).2];decide
  ·rw[if_neg c] at I;exact(E _ I).2
 have q:∀F',(∀i,i≠101->i≠80->i≠85->i≠102->F' i=K i)->lQ (.f (.a 65) (.a 76) (.a 84)) [.c em (eF B),.c em (eF M),.c em (eF (jz W M))] t K t F'=true:=λF' h=>by
  show(_&&(mY K F' (.a 65)&&(mY K F' (.a 76)&&(mY K F' (.a 84)&&eb))))=eb;rw[CV (h 65 (by decide) (by decide) (by decide) (by decide)),CV (h 76 (by decide) (by decide) (by decide) (by decide)),CV (h 84 (by decide) (by decide) (by decide) (by decide))];rfl
 refine f5 (U' (t:=t) (k:=k) (G:=K) (m:=m) f.d Z Q IL ⟨by lia,hN⟩ aa q (B.zip (M.zip (jz W M))) [] K (λU U U U U=>rfl) rfl tn (by rw[kZ];show 0+_≤_;lia)) λH j T r2=>?_;rw[AD,y,o] at T;rw[←VP] at r2;let g:Fr:=eL H 99 (.a N);have R:∀i,i≠101->i≠80->i≠85->i≠102->i≠99->g i=F i:=λi a b c d e=>(if_neg e).trans ((j i a b c d).trans (if_neg d));have D:SF n a P m g:=⟨(R 66 (by decide) (by decide) (by decide) (by decide) (by decide)).trans f.e,(R 53 (by decide) (by decide) (by decide) (by decide) (by decide)).trans f.g,(R 56 (by decide) (by decide) (by decide) (by decide) (by decide)).trans f.b,(R 100 (by decide) (by decide) (by decide) (by decide) (by decide)).trans f.f,
  (R 72 (by decide) (by decide) (by decide) (by decide) (by decide)).trans f.c,(R 57 (by decide) (by decide) (by decide) (by decide) (by decide)).trans f.d⟩
 have sk:(iJ N (1:Int)++iJ (M.length-N) 0).sum=((N:Nat):Int):=by rw[wZ,w6,w6];lia
 have z:(iJ N (1:Int)++iJ (M.length-N) 0).length=M.length:=by rw[il,xv,xv];lia
 have c2:((iF.f (.a 65) (.a 76) (.a 84)).d.zip [eD.c em (eF B),.c em (eF M),.c em (eF (jz W M))]).all (λp=>mI K p.1 p.2)=true:=by
  show(mI K (.a 65) _&&(mI K (.a 76) _&&(mI K (.a 84) _&&eb)))=eb;rw[Da (F:=K) (i:=65) L,Da (F:=K) (i:=76) Z,Da (F:=K) (i:=84) Q];rfl
 have ac:g 102=d9 (.c eb (eF (iJ N 1++iJ (M.length-N) 0))):=T;have O:Ev (dd eb k) t g (.a 102) (.c em (eF (iJ N 1++iJ (M.length-N) 0))) t:=fg ac;have l:Ev (dd eb k) t g (.a 99) (.a N) t:=fu rfl;have ln:Ev (dd eb k) t g (.x 0 (.a 102)) (.a M.length) t:=by
  have:=jM (d:=dd eb k) O (sD (Q:=eb) rfl rfl (by rw[gB,z];lia));rwa [gB,z] at this
 have s1:Ev (dd eb k) t g (.p io (.p jb (.z (.a (.d 1) .b)) (.a 99)) (.p jb (.z (.a (.d 0) .b)) (.p gS (.x 0 (.a 102)) (.a 99)))) (.c eb (eF (iJ N 1++iJ (M.length-N) 0))) t:=by
  have m1:Ev (dd eb k) t g (.p jb (.z (.a (.d 1) .b)) (.a 99)) (.c eb (eF (iJ (N:Int).toNat 1))) t:=hZ rfl l (CD (by lia) (by lia));have S:Ev (dd eb k) t g (.p jb (.z (.a (.d 0) .b)) (.p gS (.x 0 (.a 102)) (.a 99))) (.c eb (eF (iJ ((M.length:Int)-N).toNat 0))) t:=
   hZ rfl (hZ ln l rfl) (CD (by lia) (by lia))
  rw[Dz] at m1;rw[show((M.length:Int)-N).toNat=M.length-N by lia] at S;refine hZ m1 S ?_;show(eh<|>(if _ then _ else _))=_;rw[if_pos (by rw[gB,gB,xv,xv];lia),oJ];rfl
 have ae:Ev (dd eb k) t g (.D jw (.a (.h gd (.a 102) (.p io (.p jb (.z (.a (.d 1) .b)) (.a 99)) (.p jb (.z (.a (.d 0) .b)) (.p gS (.x 0 (.a 102)) (.a 99))))) (.a (.h gd (.x 1 (.a 65)) (.a 57)) .b))) (.d em) t:=
  pU (jR (gG O s1 (CG rfl)) (jR (lU (jM (fg ((R 65 (by decide) (by decide) (by decide) (by decide) (by decide)).trans L)) rh) (fu D.d) (by rw[y];exact C7 C r G Y)) rfl))
 refine(eu g D (eG (fO rfl rfl) (eG (mO (ML rfl (fg (F:=K) L) (fg (F:=K) Z) (fg (F:=K) Q)) (S6 rfl rfl rfl ⟨by rw[gB,gB,X],by rw[gB,gB,v,X]⟩) rfl c2 r2) (eG (fO (v:=.a N) (jM (fg T) (sk▸rh)) rfl) (eG (gU ae fp) fp)))))
theorem OG{m:Int}{P:List (Int×eT)}(f:SF n a P m F)(M:Ax a)(S:(t.a n).b=1∨(t.a n).b=2):Ev d t F (.h gd (.h fZ (.c (.a 72) 1) (.w 11)) (.h fZ (.a 56) (.w 14))) (.d (!eU (fA (t.a n).b=a))) t:=by
 rw[←FA S M];exact gG (v:=.d (eU ((t.a n).b=1))) (u:=.d (eU (a=1))) (gG (gv (i4 f.c) rfl) rfl rfl) (gG (fu f.b) rfl rfl) Rl
theorem OE{m:Int}{P:List (Int×eT)}{o:Int->Int->Int}(f:SF n a P m F)(M:Ax a)(Z:F 76=d9 (.c eb (eF ((t.a n).a.map (LL t T a)))))(C:(t.a n).a.length≤60)(z:∀x∈(t.a n).a,P.lookup x=d9 (.f [.a (o 0 x),.a (o 1 x)])){Q:Bool}{k:Nat}(y:Q=eb):
  Ev (dd Q k) t F C2 (.c eb (eF ((t.a n).a.map λc=>o a c-LL t T a c))) t:=by
 have:=pT (d:=dd Q k) (t:=t) (F:=F) (T:=.p gS (.n (.n (.a 100) (.a 73)) (.a 56)) (.a 80)) (N:=[73,80]) (L:=.b (.c (.a 72) 3) (.a 76)) (Y:=w8) (W:=((eF (t.a n).a).zip (eF ((t.a n).a.map (LL t T a)))).map λp=>[p.1,p.2])
  (r2 .e λc x=>.a (o a c-x)) (yh y (gv (i4 f.c) rfl) (fg Z)) (zM jK rfl (by rw[gB,gB,fC])) (by rw[fC,kZ,gB];lia) ?_
 ·rw(occs:=eO) [pF,Ao,gJ,gJ,gJ] at this;rw(occs:=eO) [eF,gJ];exact this
 ·intro r R
  rw[pF,Ao,gJ,gJ] at R
  (refine fP R λc X O=>?_;(clear R;obtain rfl:=O))
  have l:iS w8 F [73,80] [.a c,.a (LL t T a c)] 100=d9 (.g em P):=congrArg (kF eD.e) f.f;have U:iS w8 F [73,80] [.a c,.a (LL t T a c)] 56=d9 (.a a):=congrArg (kF eD.e) f.b;have O:Ev (dd Q k) t (iS w8 F [73,80] [.a c,.a (LL t T a c)]) (.n (.a 100) (.a 73)) (.b (.f [.a (o 0 c),.a (o 1 c)])) t:=jh (v:=.g em P) (fg l) (fu (n:=c) rfl) (by show(P.lookup c).map eD.b=_;rw[z c X];rfl);exact hZ (jh O (fu U) (w:=.a (o a c)) (by(clear f Z l U O;rcases M with rfl|rfl)<;>rfl)) (fu (n:=LL t T a c) rfl) rfl
theorem Qp{P:List (Int×eT)}{o:Int->Int->Int}(h:Ok t T)(S:BB t)(M:Ax a)(z:∀x∈t.b,P.lookup x=d9 (.f [.a (o 0 x),.a (o 1 x)]))(hd:∀x∈t.b,Dn t T a (o a) (sz t a) x)
  (f:∀x∈t.b,LL t T a x≤o a x∧o a x≤8000) (af:∀x∈t.b,LL t T a x≤sz t a x∧sz t a x≤8000) (W:n∈t.b):∀k,T n<k->gF eb (k+4) 41 [.b .c,.a n,.a a,.g em P] t=d9 (.d eb,t):=by
 refine h.e.M (P:=λn=>∀k,T n<k->gF eb (k+4) 41 [.b .c,.a n,.a a,.g em P] t=d9 (.d eb,t)) ?_ W;intro n W ih k F;cases k with
 |zero=>exact absurd F (pI _)
 |succ k=>
  rw[iB (B:=[66,53,56,100]) (b:=vI) (by decide) rfl rfl];let G:Fr:=fh [66,53,56,100] [.b .c,.a n,.a a,.g em P];let K:Fr:=eL G 72 (.b (.d n));have I:Ex (dd eb (k+4)) t G (.a 72 (.n (.c (.a 66) 16) (.a 53))) .a t K:=fO (iG h.f rfl (fu (n:=n) rfl) W) rfl;by_cases q:(t.a n).b=0
  ·have:f7 (dd eb (k+4)) t G vI (.b (.d eb)) t K:=eG I (iq (jj (decide_eq_true q▸mq rfl) (iq (i7 rfl rfl))))
   exact congrArg gP this
  ·have ne:(t.a n).a≠[]:=λr=>q ((h.i n W).2 r)
   have E:=im (lx h.l W) h.j;let H:Fr:=eL K 57 (.a (sz t a n));let F3:Fr:=eL H 65 (.c eb (eF ((t.a n).a.map (sz t a))));have f2:SF n a P (sz t a n) H:=⟨rfl,rfl,rfl,rfl,rfl,rfl⟩;have D:SF n a P (sz t a n) F3:=⟨rfl,rfl,rfl,rfl,rfl,rfl⟩;have s3:Ex (dd eb (k+4)) t K (.a 57 (.v (.a 72) 23 (.a (.a 56) .b))) .a t H:=fO (iL (i4 (n:=n) rfl) (eV (fu (n:=a) rfl) fJ) rfl (mH (k:=k+3))) rfl;have s4:Ex (dd eb (k+4)) t H (.a 65 (.B (.v (.n (.c (.a 66) 16) (.a 73)) 23 (.a (.a 56) .b)) [73] (.a (.c (.a 72) 3)) .b Dd)) .a t F3:=by
    refine fO (Lj (f:=sz t a) f2.c E λc hc=>?_) rfl;have J:iS Dd H [73] [.a c] 66=d9 (.b .c):=congrArg (kF eD.e) f2.e;have U:iS Dd H [73] [.a c] 56=d9 (.a a):=congrArg (kF eD.e) f2.b;exact iL (iG h.f J (fu (n:=c) rfl) (h.d n W c hc).1) (eV (fu U) fJ) rfl (mH (k:=k+3))
   have dn:=hd n W q;have i:=OG (d:=dd eb (k+4)) (t:=t) D M ((S n W).resolve_left q);have br:∃d,SF n a P (sz t a n) d∧Ex (dd eb (k+4)) t F3 II .a t d:=by
    by_cases c:fA (t.a n).b=a
    ·rw[if_pos c] at dn
     rw[decide_eq_true c] at i;have e:=lW (a:=a) h.e W;rw[if_neg q,if_pos c] at e;have p:∀x∈(t.a n).a.map (λc=>o a c-LL t T a c),0≤x∧x≤8000:=λx Z=>by
      (refine fP Z λc hc m=>?_;(clear Z;obtain rfl:=m))
      have aa:=(h.d n W c hc).1;have:=f c aa;have:=qV (a:=a) h.e aa;lia
     have hw:∀x∈(t.a n).a.map (λc=>o a c-LL t T a c),0≤x∧iZ x:=λx Z=>by have:=p x Z;unfold iZ;lia
     have C:((t.a n).a.map λc=>o a c-LL t T a c).length=((t.a n).a.map (LL t T a)).length:=by rw[fC,fC]
     have ll:((t.a n).a.map (LL t T a)).length≤60:=by rw[fC];exact E
     have aj:(t.a n).a.map (LL t T a)≠[]:=λr=>ne (nj.1 r);have ak:=IX λx Z=>(p x Z).2;have zn:=af n W;have ag:=qV (a:=a) h.e W;rw[e] at zn ag;have au:=w5 λx Z=>(p x Z).1;have aq:iZ (((t.a n).a.map λc=>o a c-LL t T a c).sum):=by
      rw[C] at ak;have:(((t.a n).a.map (LL t T a)).length:Int)*8000≤60*8000:=Int.mul_le_mul_of_nonneg_right (by lia) (by decide);unfold iZ;lia
     have tN:iZ (mG ((t.a n).a.map λc=>o a c-LL t T a c) ((t.a n).a.map (LL t T a))):=by
      unfold mG
      split
      ·unfold iZ;lia
      ·exact aq
     let F4:Fr:=eL F3 76 (.c eb (eF ((t.a n).a.map (LL t T a))));let b:Fr:=eL F4 84 (.c eb (eF ((t.a n).a.map λc=>o a c-LL t T a c)));have f4:SF n a P (sz t a n) F4:=⟨rfl,rfl,rfl,rfl,rfl,rfl⟩;have r1:Ex (dd eb (k+4)) t F3 (.a 76 B8) .a t F4:=fO (Ht h W D.e D.b D.c λc hc=>Hp h S M (h.d n W c hc).1 (k+4) (by have:=(h.d n W c hc).2;lia)) rfl;have r2:Ex (dd eb (k+4)) t F4 (.a 84 C2) .a t b:=fO (OE (k:=k+4) f4 M rfl E (λc hc=>z c (h.d n W c hc).1) rfl) rfl;have Y:Ev (dd eb (k+4)) t b (.h lh (.x 1 (.a 84)) (.d 0)) (.d (eU (0<((t.a n).a.map λc=>o a c-LL t T a c).sum))) t:=ED (jM (fg rfl) rh) (y:=0) rfl;have O:∀Q w u s,SF n a P (sz t a n) Q->Q 65=d9 (.c w (eF ((t.a n).a.map (sz t a))))->Q 76=d9 (.c u (eF ((t.a n).a.map (LL t T a))))->Q 84=d9 (.c s (eF (jz ((t.a n).a.map λc=>o a c-LL t T a c) ((t.a n).a.map (LL t T a)))))->Ex (dd eb (k+4)) t b (.a 84 IH) .a t Q->∃d,SF n a P (sz t a n) d∧Ex (dd eb (k+4)) t F3 II .a t d:=λQ w u s N a1 v a3 r3=>by
      refine eR (UL (k:=k+4) (t:=t) N a1 v a3 dn C ll hw aj (by lia) (by unfold iZ;lia) tN) λd L g=>?_;exact(eu d L (gU i (eG r1 (eG r2 (eG r3 g)))))
     by_cases s0:0<((t.a n).a.map λc=>o a c-LL t T a c).sum
     ·rw[decide_eq_true s0] at Y
      have e:jz ((t.a n).a.map λc=>o a c-LL t T a c) ((t.a n).a.map (LL t T a))=((t.a n).a.map λc=>o a c-LL t T a c):=if_neg (by lia);exact O (eL (λj=>(b j).map eD.e) 84 (.c em (eF ((t.a n).a.map λc=>o a c-LL t T a c)))) em em em ⟨rfl,rfl,rfl,rfl,rfl,rfl⟩ rfl rfl (e.symm▸rfl) (Lk (lT Y (fg (v:=.c eb (eF ((t.a n).a.map λc=>o a c-LL t T a c))) rfl)) rfl)
     ·rw[decide_eq_false s0] at Y
      have e:jz ((t.a n).a.map λc=>o a c-LL t T a c) ((t.a n).a.map (LL t T a))=iJ ((t.a n).a.map (LL t T a)).length 1:=if_pos (by lia);have ln:Ev (dd eb (k+4)) t b (.x 0 (.a 84)) (.a ((t.a n).a.map (LL t T a)).length) t:=by
       have:=jM (d:=dd eb (k+4)) (t:=t) (F:=b) (fg (i:=84) rfl) (sD (Q:=eb) (z:=eF ((t.a n).a.map λc=>o a c-LL t T a c)) rfl rfl (by rw[gB,C];lia));rwa [gB,C] at this
      have l:=CD (x:=1) (n:=(((t.a n).a.map (LL t T a)).length:Int)) (by lia) (by lia);rw[Dz] at l;exact O (eL b 84 (.c eb (eF (iJ ((t.a n).a.map (LL t T a)).length 1)))) eb eb eb ⟨rfl,rfl,rfl,rfl,rfl,rfl⟩ rfl rfl (e.symm▸rfl) (fO (lS Y (hZ (qL (eV (v:=.a 1) rfl fJ) rfl (iO rfl)) ln l)) rfl)
    ·rw[if_neg c] at dn
     rw[decide_eq_false c] at i;refine(eu F3 D (jj i (eG (gU (gG (EA (lK (fg rfl)) (kO rfl) (by rw[fC,gB,fC];lia) λr R=>?_) (qL fJ rfl (pJ _)) Rm) fp) fp)))
     (refine fP R λy B X=>?_;(clear R;obtain rfl:=X))
     (refine fP B λx Z e4=>?_;(clear B;obtain rfl:=e4))
     (refine fP Z λc hc e5=>?_;obtain rfl:=e5)
     have ae:iS I4 F3 [101] [.a (sz t a c)] 57=d9 (.a (sz t a n)):=congrArg (kF eD.e) D.d;exact sg (lU (x:=sz t a c) (fu rfl) (fu ae) (dn c hc))
   refine eR br λd L rb=>?_;have rr:Ex (dd eb (k+4)) t d T' (.b (.d eb)) t d:=by
    refine i7 (gG (v:=.c eb []) (u:=.c eb []) (EA (lK (gv (i4 L.c) rfl)) (kO jK) (by rw[fC,gB];lia) λr R=>?_) (qL fJ rfl (pJ _)) rfl) rfl
    (refine fP R λy B e6=>?_;(clear R;obtain rfl:=e6))
    (refine fP B λc hc e7=>?_;(clear B;obtain rfl:=e7))
    have J:iS zW d [73] [.a c] 66=d9 (.b .c):=congrArg (kF eD.e) L.e;have U:iS zW d [73] [.a c] 56=d9 (.a a):=congrArg (kF eD.e) L.b;have ac:iS zW d [73] [.a c] 100=d9 (.g em P):=congrArg (kF eD.e) L.f;have:=ih c hc k (by have:=(h.d n W c hc).2;lia);exact sg (ya (b:=eb) (gI (eV (ip J) (eV (fu (n:=c) rfl) (eV (fu U) (eV (fg ac) fJ)))) this))
   have:f7 (dd eb (k+4)) t G vI (.b (.d eb)) t d:=eG I (eG (gU (decide_eq_false q▸mq rfl) fp) (eG s3 (eG s4 (eG rb (iq rr)))));exact congrArg gP this
theorem Bw{P:Int->Int×Int}(h:Ok t T)(W:n∈t.b):LL (gz t P) T a n=LL t T a n:=yv h.e h.ab.e W λx Z=>⟨j5 h.e W x Z,rfl,rfl⟩
theorem Dn.f(c:Dn t T a z V x):Dn (f8 t b y) T a z V x:=by
 intro s;have O:((Internal.f8 t b y).a x).b=(t.a x).b:=mZ;have m:((Internal.f8 t b y).a x).a=(t.a x).a:=nU;rw[O,m,show LL (Internal.f8 t b y) T a=LL t T a from funext λd=>qW];exact c (O▸s)
theorem Dn.k{P:Int->Int×Int}(b:Dn t T a z V x)(W:Ok t T)(Z:x∈t.b):Dn (gz t P) T a z V x:=by
 intro s;have e:=b s;show if fA (t.a x).b=a then(t.a x).a.map V=j' (V x) ((t.a x).a.map λc=>z c-LL (Internal.gz t P) T a c) ((t.a x).a.map (LL (Internal.gz t P) T a)) else∀c∈(t.a x).a,V c=V x;rwa [kf (f:=LL (Internal.gz t P) T a) λc X=>Bw W (W.d x Z c X).1,kf (f:=λc=>z c-LL (Internal.gz t P) T a c) λc X=>by rw[Bw W (W.d x Z c X).1]]
theorem Io(h:Gx t T 0 0)(M:Ax a)(w:LL t T a t.d≤s)(K:s≤100){k:Nat}:∃V,gF eb (k+3) 24 [.b .c,.a t.d,.a a,.a s] t=d9 (.b .e,f8 t a V)∧V t.d=s∧Gx (f8 t a V) T 0 0∧∀x∈t.b,Dn t T a (sz t a) V x:=by
 refine f5 (IG (k:=k) h.y h.h w (jX K (by decide)) λx Z=>⟨h.U M (j5 h.e h.h x Z),jX (h.W M (j5 h.e h.h x Z)) (by decide)⟩) λV g O o=>?_;have I:=λx Z=>o.d t.d (lR _) x (h.Z Z);refine(lO V g O ({ h.O.ad M (λn W s=>?_) (by rw[O];exact K) with u:=λb j n W=>GI M j (λU=>h.u b j n W) λs=>GH h.y W (λy B=>h.U M (h.d n W y B).1) (I n W).1 (I n W).2.2 s }) (λx Z=>(I x Z).2.2));have:=(I n W).1;rw[lW h.e W,if_pos s] at this;exact this
noncomputable abbrev S4:eW:=.D jw (.a (.h lj (.a 59) (.j 22 (.a (.a 66) (.a (.c (.a 66) 21) (.a (.w 13) .b))))) (.a (.h lj (.a 60) (.j 22 (.a (.a 66) (.a (.c (.a 66) 21) (.a (.w 14) .b))))) .b))
abbrev wU(q z:Int):Fr:=fh [66,59,60] [.b .c,.a q,.a z]
theorem Iv{a z:Int}{k:Nat}(h:Gx t T q r):Ev (dd eb (k+2)) t (wU a z) S4 (.d (eU (a<LL t T 0 t.d)||eU (z<LL t T 1 t.d))) t:=by
 have o:Ev (dd eb (k+2)) t (wU a z) (.c (.a 66) 21) (.a t.d) t:=ji (f:=5) (v:=.a t.d) rfl rfl h.f;exact EE (gG (v:=.a a) (fu rfl) (gI (eV (ip rfl) (eV o (eV (v:=.a 0) rfl fJ))) (zr h.y h.h (k:=k))) rfl)
  (gG (v:=.a z) (fu rfl) (gI (eV (ip rfl) (eV o (eV (v:=.a 1) rfl fJ))) (zr h.y h.h (k:=k))) rfl)
theorem SZ{q z:Int}{k:Nat}(h:Gx t T 0 0)(K:LL t T 0 t.d≤q∧q≤100)(I:LL t T 1 t.d≤z∧z≤100):
  ∃D,gF eb (k+4) 26 [.b .c,.a q,.a z] t=d9 (.b .e,D)∧Gx D T 0 0∧Po D∧Kp g t D∧(sz D 0 D.d=q∧sz D 1 D.d=z)∧D.b=t.b∧∀a,Ax a->∀x∈t.b,Dn D T a (sz t a) (sz D a) x∧LL D T a x=LL t T a x:=by
 refine nR (Io (k:=k) h (eH rfl) K.1 K.2) λp C R r j=>?_;refine nR (Io (k:=k) r (eI rfl) (show LL (f8 t 0 p) T 1 t.d≤z from qW.symm▸I.1) I.2) λB i O L s=>?_;refine eR (CR (k:=k+1) L) λP c J=>?_;have S:∀m,sz (gz (f8 (f8 t 0 p) 1 B) P) 0 m=p m:=λm=>by rw[CT,w7 (eI rfl) (eH rfl) (by decide),rD]
 have b:∀m,sz (gz (f8 (f8 t 0 p) 1 B) P) 1 m=B m:=λm=>by rw[CT,rD]
 have w:sz (f8 t 0 p) 1=sz t 1:=funext λm=>w7 (eH rfl) (eI rfl) (by decide);have l:Kp g (f8 (f8 t 0 p) 1 B) (gz (f8 (f8 t 0 p) 1 B) P):=⟨λU Z U U=>Z,λx Z=>eH ⟨Z,rfl,rfl⟩,ja _,λx Z=>(L.g x Z).2,rfl,rfl,rfl,rfl⟩;refine(Cd _ ?_ L.Y J (((zJ λx Z=>(h.g x Z).2).f (zJ λx Z=>(r.g x Z).2)).f l) ⟨(S _).trans R,(b _).trans O⟩ ⟨rfl,(λa M x Z=>⟨?_,?_⟩)⟩)
 ·rw[iB (B:=[66,59,60]) (b:=vM) (by decide) rfl rfl]
  have Y:=Iv (a:=q) (z:=z) (k:=k+1) h;rw[decide_eq_false (tl.2 K.1),decide_eq_false (tl.2 I.1)] at Y;have o:∀t:eB,t.g=7->Ev (dd eb (k+3)) t (wU q z) (.c (.a 66) 21) (.a t.d) t:=λt N=>ji (f:=5) (v:=.a t.d) rfl rfl N;have:f7 (dd eb (k+3)) t (wU q z) vM .a (gz (f8 (f8 t 0 p) 1 B) P) (wU q z):=
   eG (gU Y fp) (eG (j0 (gI (eV (ip rfl) (eV (o t h.f) (eV (v:=.a 0) rfl (eV (fu (n:=q) rfl) fJ)))) C)) (eG (j0 (gI (eV (ip rfl) (eV (o (f8 t 0 p) h.f) (eV (v:=.a 1) rfl (eV (fu (n:=z) rfl) fJ)))) i)) (eG (j0 (gI (eV (ip rfl) fJ) c)) fp)))
  exact congrArg gP this
 ·rcases M with rfl|rfl
  ·rw[show sz (gz (f8 (f8 t 0 p) 1 B) P) 0=p from funext S];exact(((j x Z).f (b:=0) (y:=p)).f (b:=1) (y:=B)).k L.y Z
  ·rw[show sz (gz (f8 (f8 t 0 p) 1 B) P) 1=B from funext b,←w];exact((s x Z).f (b:=1) (y:=B)).k L.y Z
 ·exact(Bw L.y Z).trans (qW.trans qW)
def o7(n:Nat)(x:eT):Prop:=∃q,pd x=d9 q∧q.canLay0=eb∧q.depth≤n
theorem vZ{n:Nat}:∀{l:List eT},(∀x∈l,o7 n x)->o7 (n+1) (.f l):=λ{l} h=>by
 have:∃q,kN l=d9 q∧D8 q=eb∧D9 q≤n:=by
  induction l with
  |nil=>exact(fQ ([]) rfl rfl (pJ _))
  |cons x r D=>
   refine f5 (h x (gp ..)) λq K I g=>?_;refine f5 (D λy B=>h y (gC _ B)) λj L T W=>?_;refine(fQ (q::j) ?_ ?_ ?_)
   ·show(pd x).bind _=_;rw[K];show(kN r).map _=_;rw[L];rfl
   ·show(_&&_)=eb;rw[I,T];rfl
   ·exact Nat.max_le.2 ⟨g,W⟩
 refine f5 this λq K I g=>?_;exact(fQ (xP q) (by show(kN l).map _=_;rw[K];rfl) I (DX g))
theorem o8{n:Nat}{i:Int}:o7 n (.a i):=(fQ (mn i) rfl rfl (pJ _))
theorem vY{n:Nat}{l:List Int}:o7 (n+1) (.f (eF l)):=vZ λx Z=>by(refine fP Z λy U O=>?_;(clear Z;obtain rfl:=O));exact o8
theorem HK{l:List eT}{n:Nat}(h:o7 n (.f l))(W:n≤500):mS t gd (.b (.f l)) (.b (.f l))=d9 false:=by
 refine f5 h λq K I g=>?_;show(yU (pd (.f l)) (pd (.f l))).map _=_;rw[K];show(if min q.depth q.depth≤500 then d9 (AQ q q) else eh).map _=_;rw[if_pos (by lia),SeqAt.eqv_refl q I];rfl
theorem Ot(h:Sh t T)(W:n∈t.b):o7 (2*T n+2) (ND t T n):=by
 refine h.M (P:=λn=>o7 (2*T n+2) (ND t T n)) ?_ W;intro n W D;rw[Fq h W];have Z:∀{a b:Nat} {x:eT},a≤b->o7 a x->o7 b x:=λl w=>f5 w λq K I g=>⟨q,K,I,im g l⟩
 split
 ·exact vZ (gV o8 (gV o8 (gV o8 (gV (vY (l:=[_,_,_,_])) (gV (fQ (.bool em) rfl rfl (pJ _)) (gV o8 (gV (vY (l:=[])) (gV (vY (l:=[])) lY))))))))
 ·refine vZ (gV o8 (gV o8 (gV o8 (gV o8 (gV (vZ λy B=>?_) lY)))))
  (refine fP B λc X m=>?_;(clear B;obtain rfl:=m))
  exact Z (by have:=(h.d n W c X).2;lia) (D c X)
theorem Oo(h:Gx t T q r):o7 (2*T t.d+3) (CF t T):=vZ (gV (vY (l:=[_,_])) (gV (Ot h.e h.h) (gV o8 lY)))
noncomputable def li:List Int->Int->Int
 |[],_=>0
 |z::r,x=>if x=z then r.length+1 else li r x
theorem QT:∀(R:List Int) (x:Int),0≤li R x∧li R x≤R.length:=by
 intro G
 induction G with
 |nil=>
  intro U;exact⟨ja 0,ja 0⟩
 |cons z r D=>
  intro x;have:=D x;show 0≤(if x=z then(r.length:Int)+1 else li r x)∧(if x=z then(r.length:Int)+1 else li r x)≤((r.length+1:Nat):Int)
  split<;>lia
theorem Hw:∀{R:List Int} {x:Int},x∉R->li R x=0:=by
 intro G
 induction G with
 |nil=>
  intro U U;exact rfl
 |cons z r D=>
  intro x h;exact(if_neg λ(e:x=z)=>h (e▸gp ..)).trans (D λq=>h (gC _ q))
theorem QU{P:Int->Bool}{z:Int}{l:List Int}:∀{R:List Int},R.filter P=z::l->∀x,P x=eb->x≠z->li R x<li R z:=by
 intro a
 induction a with
 |nil=>
  intro h U U U;exact nL h
 |cons y r D=>
  intro h x Z G;have o:P z=true:=(lG.1 (h▸gp (a:=z) (l:=l))).2;by_cases q:P y=eb
  ·rw[xt q] at h
   (refine fe (Wc h) λO U=>?_;(clear h o;obtain rfl:=O))
   have:=(QT r x).2;rw[show li (y::r) x=li r x from if_neg G,show li (y::r) y=r.length+1 from if_pos rfl];lia
  ·rw[Kg q] at h
   rw[show li (y::r) x=li r x from if_neg λ(e:x=y)=>q (e▸Z),show li (y::r) z=li r z from if_neg λ(e:z=y)=>q (e▸o)];exact D h x Z G
structure Us(t:eB)(R:List Int):Prop where
 d:t.l=R.length
 b:∀u∈R,u≤t.c
 c:∀u∈R,u∈t.b->(t.a u).b=0
 a:∀x∈t.b,(t.a x).b=0->(t.a x).f=li R x
theorem Us.f(h:Us t R)(k:Kp g t D):Us D R where
 d:=k.i.trans h.d
 b u a:=jX (h.b u a) k.h
 c u a M:=by
  rcases k.a u M with ⟨K,s,_⟩ |⟨l,_⟩
  ·exact s.trans (h.c u a K)
  ·exact absurd (h.b u a) (rF.2 l)
 a x Z s:=by
  rcases k.a x Z with ⟨K,e,u⟩ |⟨l,u⟩
  ·exact u.trans (h.a x K (e.symm.trans s))
  ·rw[u,Hw λq=>absurd (h.b x q) (rF.2 l)]
theorem Rc{z:Int}:∀(l:List Int) (f:Int),(z=f∨z∈l)->(∀x,x=f∨x∈l->x≠z->(t.a x).f<(t.a z).f)->l9 t f l=z:=by
 intro G
 induction G with
 |nil=>
  intro f h U;exact(h.resolve_right iI).symm
 |cons n r D=>
  intro f h m;show l9 t (if _ then n else f) r=z;by_cases q:(t.a f).f<(t.a n).f
  ·rw[if_pos q]
   refine D n ?_ λx Z=>m x (eI (Z.elim (λe=>e▸gp ..) (gC _)));rcases h with rfl|h
   ·by_cases e:n=z
    ·exact eH e.symm
    ·exact absurd (m n (eI (gp ..)) e) (by lia)
   ·exact gy.1 h
  ·rw[if_neg q]
   refine D f ?_ λx Z=>m x (Z.imp id (gC _));rcases h with e|h
   ·exact eH e
   ·rcases gy.1 h with rfl|h
    ·by_cases e:f=z
     ·exact eH e.symm
     ·exact absurd (m f (eH rfl) e) q
    ·exact eI h
theorem Re:∀(l:List Int) (f:Int),(t.a f).f=0->(∀x∈l,(t.a x).f=0)->l9 t f l=f:=by
 intro G
 induction G with
 |nil=>
  intro f U U;exact rfl
 |cons n r D=>
  intro f h m;show l9 t (if _ then n else f) r=f;rw[if_neg (by rw[h,m n (gp ..)];exact Int.lt_irrefl 0)];exact D f h λx Z=>m x (gC _ Z)
noncomputable def mA(t:eB)(x:Int):Bool:=eU (x∈t.b)
theorem HG(h:Gx t T q r)(a:Us t R):oy t T=((R.filter (mA t)).head?).getD ((iW t T).headD 0):=by
 refine sX h λm l M=>?_;have d:∀x,x∈m::l↔x∈t.b∧(t.a x).b=0:=λx=>M▸sW h;unfold oy;rw[M];show l9 t m (m::l)=_;cases e:R.filter (mA t) with
 |nil=>
  have z:∀x∈m::l,(t.a x).f=0:=λx Z=>by
   refine fe ((d x).1 Z) λK I=>?_;rw[a.a x K I];exact Hw λq=>absurd (lG.2 ⟨q,decide_eq_true K⟩) (e▸iI)
  exact Re _ m (z m (gp ..)) z
 |cons z r=>
  have f:=lG.1 (e▸gp (a:=z) (l:=r));have o:=of_decide_eq_true f.2;have G:=a.c z f.1 o;refine Rc _ m (eI ((d z).2 ⟨o,G⟩)) λx Z b=>?_;refine fe ((d x).1 (Z.elim (λe=>e▸gp ..) id)) λK I=>?_;show(t.a x).f<(t.a z).f;rw[a.a x K I,a.a z o G];exact QU e x (decide_eq_true K) b
theorem Rf(h:Gx t T q r)(a:Us t R):oy t T∈t.b∧(t.a (oy t T)).b=0:=by
 rw[HG h a];cases e:R.filter (mA t) with
 |nil=>
  refine sX h λm l M=>?_;have:m∈iW t T:=by rw[M];exact gp ..
  rw[M];exact(sW h).1 this
 |cons z r=>
  have f:=lG.1 (e▸gp (a:=z) (l:=r));exact⟨of_decide_eq_true f.2,a.c z f.1 (of_decide_eq_true f.2)⟩
structure Lw(t:eB)(R:List Int)(A:Nat)(B:Int):Prop where
 d:∃rk,Gx t rk 0 0
 c:t.i∈t.b
 g:(t.a t.i).b=0
 e:Us t R
 h:0≤t.e
 a:t.e≤B
 i:t.k.length≤100
 b:t.b.length≤A
theorem Gx.aa(h:Gx t T q r)(x:Int):Gx { t with e:=x } T q r:=
 { d:=h.d,k:=h.k,o:=h.o,f:=h.f,j:=h.j,i:=h.i,h:=h.h,m:=h.m,g:=h.g,C:=h.C,D:=h.D,B:=h.B,v:=h.v,A:=h.A,x:=h.x,z:=h.z,u:=h.u }
theorem Gx.ah(h:Gx t T q r)(x:Int):Gx { t with i:=x } T q r:=
 { d:=h.d,k:=h.k,o:=h.o,f:=h.f,j:=h.j,i:=h.i,h:=h.h,m:=h.m,g:=h.g,C:=h.C,D:=h.D,B:=h.B,v:=h.v,A:=h.A,x:=h.x,z:=h.z,u:=h.u }
theorem Us.h(h:Us t R)(x:Int):Us { t with e:=x } R:=⟨h.d,h.b,h.c,h.a⟩
theorem Us.k(h:Us t R)(x:Int):Us { t with i:=x } R:=⟨h.d,h.b,h.c,h.a⟩
theorem Lw.l{A:Nat}{B:Int}(h:Lw t R A B):Lw { t with e:=t.e+1 } R A (B+1):=
 let⟨T,g⟩ :=h.d;⟨⟨T,g.aa _⟩,h.c,h.g,h.e.h _,by have:=h.h;show 0≤t.e+1;lia,by have:=h.a;show t.e+1≤_;lia,h.i,h.b⟩
theorem Sz(h:E.a=t.a):∀k n,sZ E k n=sZ t k n:=by
 intro G
 induction G with
 |zero=>
  intro U;exact rfl
 |succ k D=>
  intro n;show n::((E.a n).a.flatMap (sZ E k))=_;rw[h,funext (D)];rfl
theorem Q4(h:E.a=t.a)(R:E.d=t.d):iW E T=iW t T:=by
 unfold iW PP nP;rw[Sz h,h,R]
theorem wq(h:Gx t T q r){k:Nat}:gF eb (k+2) 18 [.b .c] t=d9 (.c eb (eF (iW t T)),t):=by
 rw[iB (B:=[66]) (b:=yK) (by decide) rfl rfl];have:f7 (dd eb (k+1)) t (fh [66] [.b .c]) yK (.b (.c eb (eF (iW t T)))) t _:=iq (i7 (gI (eV (ip rfl) (eV (ji (f:=5) (v:=.a t.d) rfl rfl h.f) fJ)) (HB h)) rfl);exact congrArg gP this
theorem PJ{m:Int}{k:Nat}(p:F 98=d9 .h)(Y:0<m)(w:0≤t.e)(K:t.e≤10000)(C:t.k.length≤100)(h:Ev (dd eb (k+1)) t F e (.a m) t):
  ∃r,Ev (dd eb (k+1)) t F (.j 39 (.a (.a 98) (.a e .b))) (.a r) { t with e:=t.e+1 }∧0≤r∧r<m:=by
 refine eR (PK (k:=k) Y w K C) λr g b=>?_;exact(eu r (gI (eV (fg (v:=.h) p) (eV h fJ)) g) b)
theorem v5{m:Int}{k:Nat}(p:F 98=d9 .h)(Y:0<m)(w:0≤t.e)(K:t.e≤10000)(C:t.k.length≤100)(h:Ev (dd eb (k+1)) t F e (.a m) t){G:Prop}(N:∀r,Ev (dd eb (k+1)) t F (.j 39 (.a (.a 98) (.a e .b))) (.a r) { t with e:=t.e+1 }->0≤r->r<m->G):G:=f5 (PJ p Y w K C h) N
theorem UA{n:Int}{z:List eT}{o:Bool}:m7 t (.c o z) (.a n)=pi z n:=rfl
theorem Su{l:List Int}{o:Bool}{r:Int}(w:0≤r)(K:r<l.length)(C:l.length≤900):∃x∈l,m7 t (.c o (eF l)) (.a r)=d9 (.a x):=by
 (refine fL (Ka w) λi m=>?_;(clear w;obtain rfl:=m))
 have R:i<l.length:=by lia
 refine(eu (l[i]) (uG R) ?_);rw[UA];have e:(eF l)[i]? =d9 (.a l[i]):=by rw[lE,jF R,KB]
 exact GX e (by lia)
theorem zI{l:List Int}{o:Bool}{r:Int}(w:0≤r)(K:r<l.length)(C:l.length≤900){G:Prop}(N:∀x,(x∈l)->m7 t (.c o (eF l)) (.a r)=d9 (.a x)->G):G:=eR (Su w K C) N
theorem Ho{z:Int}{r:List Int}{o:Bool}(C:r.length≤900):m7 t (.c o (eF (z::r).reverse)) (.a (-1))=d9 (.a z):=by
 have:m7 t (.c o (eF (z::r).reverse)) (.a (-1))=pi (eF (z::r).reverse) (-1):=rfl;rw[this];unfold pi;rw[if_neg (by decide),if_pos ⟨by rw[gB,n6,lF];lia,by decide⟩,gB,n6,lF,show((-1:Int)+(r.length+1:Nat)).toNat=r.length by lia,n9,←oJ,List.getElem?_append_right (by rw[gB,n6];exact ig _),gB,n6,WR];rfl
theorem Ov{W:List Int}(h:E.a=t.a):∀{p q:Int},Sq t a p W q->Sq E a p W q:=by
 induction W with
 |nil=>exactλh=>h
 |cons c r D=>intro p q ⟨K,I⟩;unfold pl sz at*;rw[←h] at K I;exact⟨K,D I⟩
theorem Po.f(h:Po t)(x:Int):Po { t with i:=x }:=⟨h.b,h.c,λn W=>⟨(h.a n W).a,λs=>let f:=(h.a n W).b s;⟨f.d,f.b,Ov (t:=t) (E:={ t with i:=x }) rfl f.a⟩⟩⟩
noncomputable abbrev Gz:eW:=.C (.h fZ (.j 39 (.a (.a 98) (.a (.d 2) .b))) (.d 0)) (.c (.a 66) 22) (.n (.a 65) (.j 39 (.a (.a 98) (.a (.x 0 (.a 65)) .b))))
theorem Rz{k:Nat}{A:Nat}{B:Int}(h:Lw t R A B)(i:B≤9000)(g:Gx t T 0 0)(N:F 66=d9 (.b .c))(K:F 98=d9 .h)(J:F 65=d9 (.c eb (eF (iW t T)))):
  ∃n x,Ev (dd eb (k+1)) t F Gz (.a n) { t with e:=x }∧n∈t.b∧(t.a n).b=0∧t.e≤x∧x≤t.e+2:=by
 have:=h.h;have:=h.a;refine v5 (e:=.d 2) (k:=k) K (by decide) h.h (by lia) h.i rfl λr s C Z=>?_;by_cases c:r=0
 ·exact(y9 t.i (t.e+1) (lT (nA (y:=0) s rfl c) (ji (t:={ t with e:=t.e+1 }) (f:=6) N rfl g.f)) h.c h.g (by lia) (by lia))
 ·refine sX g λm l M=>?_
  have j:(iW t T).length≤60:=im (qA ..) (im (oU g.l g.h) g.j);have U:0<(iW t T).length:=by rw[M];exact Nat.succ_pos _
  have G:Ev (dd eb (k+1)) { t with e:=t.e+1 } F (.x 0 (.a 65)) (.a (iW t T).length) { t with e:=t.e+1 }:=by
   have:=jM (d:=dd eb (k+1)) (t:={ t with e:=t.e+1 }) (fg J) (sD (Q:=eb) (z:=eF (iW t T)) rfl rfl (by rw[gB];lia));rwa [gB] at this
  refine v5 (t:={ t with e:=t.e+1 }) (k:=k) K (by lia) (by show 0≤t.e+1;lia) (by show t.e+1≤_;lia) h.i G λL p O w=>?_;refine zI (t:={ t with e:=t.e+1+1 }) (o:=em) O w (by lia) λn W q=>?_;refine fe ((sW g).1 W) λI f=>?_;exact(y9 n (t.e+1+1) (lS (oj (y:=0) s rfl c) (jh (fg J) p q)) I f (by lia) (by lia))
noncomputable abbrev zV:List (Nat×fX):=[(48,ey),(101,ey),(66,gb)]
abbrev Gy:eW:=.B (.a 101) [101] (.a (.a 103)) (.a (.h og (.a 101) (.c (.a 66) 16)) .b) zV
theorem QL{k:Nat}{l:List Int}{o:Bool}(d:t.g=7)(N:F 66=d9 (.b .c))(g:F 103=d9 (.c o (eF l)))(C:l.length≤900):Ev (dd eb k) t F Gy (.c eb (eF (l.filter (mA t)))) t:=by
 have:=A2 (d:=dd eb k) (t:=t) (F:=F) (T:=.a 101) (N:=[101]) (L:=.a (.a 103)) (a:=.a (.h og (.a 101) (.c (.a 66) 16)) .b) (Y:=zV) (W:=(eF l).map λx=>[x])
  (r1 em λc=>mA t c) (r1 .e λc=>.a c) (lK (fg g)) (kO rfl) (by rw[fC,gB];lia) ?_ ?_
 ·rw[gJ,Kh,gJ] at this;exact this
 ·intro r R
  (refine fP R λy B O=>?_;(clear R;obtain rfl:=O))
  (refine fP B λc b m=>?_;(clear B;obtain rfl:=m))
  have J:iS zV F [101] [.a c] 66=d9 (.b .c):=congrArg (kF eD.e) N;have O:Ev (dd eb k) t (iS zV F [101] [.a c]) (.h og (.a 101) (.c (.a 66) 16)) (.d (mA t c)) t:=gG (v:=.a c) (u:=.j) rfl (ji (f:=0) J rfl d) rfl;cases q:mA t c with
  |true=>rw[q] at O;exact(vp O rfl).trans (by show _=d9 (mA t c,t);rw[q])
  |false=>rw[q] at O;exact(sg O).trans (by show _=d9 (mA t c,t);rw[q])
 ·intro r R _
  (refine fP R λy B X=>?_;(clear R;(clear a;obtain rfl:=X)))
  (refine fP B λc b M=>?_;obtain rfl:=M)
  exact fu rfl
theorem Qo{k:Nat}{A:Nat}{B:Int}(h:Lw t R A B)(hB:B≤9000)(hR:R.length≤900):∃D,gF eb (k+5) 43 [.h,.b .c,.c em (eF R.reverse)] t=d9 (.d eb,D)∧Lw D R A (B+2):=by
 refine fL h.d λT aa=>?_;rw[iB (B:=[98,66,103]) (b:=ua) (by decide) rfl rfl];let G:Fr:=fh [98,66,103] [.h,.b .c,.c em (eF R.reverse)];let K:Fr:=eL G 65 (.c eb (eF (iW t T)));refine oB (Rz (k:=k+3) (F:=K) h hB aa rfl rfl rfl) λn x dn na ns x0 x1=>?_;have aA:=h.h;have aB:=h.a;let E:eB:={ t with e:=x };have N:Gx E T 0 0:=aa.aa x;have J:Lw E R A (B+2):=⟨⟨T,N⟩,h.c,h.g,h.e.h x,by show 0≤x;lia,by show x≤_;lia,h.i,h.b⟩;let H:Fr:=eL K 53 (.a n);let g:Fr:=eL H 72 (.b (.d n));have r1:Ex (dd eb (k+4)) t G (.a 65 (.j 18 (.a (.a 66) .b))) .a t K:=fO (gI rfl (wq (k:=k+2) aa)) rfl;have r2:Ex (dd eb (k+4)) t K (.a 53 Gz) .a E H:=fO dn rfl;have r3:Ex (dd eb (k+4)) E H (.a 72 (.n (.c (.a 66) 16) (.a 53))) .a E g:=fO (iG N.f rfl rfl na) rfl;have pe:Ev (dd eb (k+4)) E g (.c (.a 72) 2) (.a (t.a n).c) E:=gv rfl rfl;by_cases nr:n=t.d
 ·have:f7 (dd eb (k+4)) t G ua (.b (.d eb)) E g:=eG r1 (eG r2 (eG r3 (iq (jj (nA (y:=0) pe rfl (nr▸aa.m)) (iq (i7 rfl rfl))))))
  exact(eu E (congrArg gP this) J)
 ·refine N.N n na nr λL r=>?_
  refine fe (Ia N na nr) λo1 o2=>?_
  (refine un (PC (k:=k) N na ns nr) λS aj X po U aq g5=>?_;refine gY g5 λso aD la=>?_)
  have f:=λ(F:Fr) i j=>HZ (d:=dd eb (k+4)) (F:=F) (i:=i) (j:=j) N na nr;have p0:(t.a n).c≠0:=λe=>by have:=(N.g _ L).1;have e:(E.a n).c=0:=e;lia
  have kl:=im (lx N.l L) N.j;have sp:(E.a (E.a n).c).b≠0:=λs=>by rw[(N.i _ L).1 s] at r;cases r
  have oa:=(N.d _ L _ o1).1;let p:=(E.a n).c;let o:=nQ E n;let a:=vq E n;let ix:Nat:=(E.a p).a.idxOf n;let ae:=sz E a o+sz E a n;let F4:Fr:=eL g 92 (.b (.d p));let b:Fr:=fV F4 [82,56] [.a ix,.a a];let F6:Fr:=eL b 96 (.b (.d o));let P:Fr:=fV F6 [106,105] [.a t.i,.a ae];have r5:Ex (dd eb (k+4)) E g (.a 92 (.n (.c (.a 66) 16) (.c (.a 72) 2))) .a E F4:=fO (iG N.f rfl pe L) rfl;have ea:Ev (dd eb (k+4)) E F4 (.C (.h fZ (.c (.a 92) 1) (.w 11)) (.w 14) (.w 13)) (.a a) E:=by
   have sa:Ev (dd eb (k+4)) E F4 (.c (.a 92) 1) (.a (E.a p).b) E:=gv rfl rfl;rcases(N.B p L).resolve_left sp with I|I
   ·rw[show a=1 by show fA (E.a p).b=1;rw[I];rfl];exact lT (nA (y:=1) sa rfl I) rfl
   ·rw[show a=0 by show fA (E.a p).b=0;rw[I];rfl];exact lS (oj (y:=1) sa rfl (by rw[I];decide)) rfl
  have r6:Ex (dd eb (k+4)) E F4 (.l eb [56,82] (.A (.a (.C (.h fZ (.c (.a 92) 1) (.w 11)) (.w 14) (.w 13)) (.a (.J (.c (.a 92) 3) (.a 53)) .b)))) .a E b:=
   oQ (as:=[.a a,.a ix]) rfl (kg (J:=[.a a,.a ix]) (eV ea (eV (G5 r (im kl (by decide)) rfl rfl) fJ)) rfl (iO rfl)) rfl
  have r7:Ex (dd eb (k+4)) E b (.a 96 (.n (.c (.a 66) 16) (.n (.c (.a 92) 3) (.C (.h lh (.a 82) (.d 0)) (.p gS (.a 82) (.d 1)) (.d 1))))) .a E F6:=fO (iG N.f rfl (f b 92 82 rfl rfl).2 oa) rfl;have r8:Ex (dd eb (k+4)) E F6 (.l eb [105,106] (.A (.a (.p io (.v (.a 96) 23 (.a (.a 56) .b)) (.v (.a 72) 23 (.a (.a 56) .b))) (.a (.c (.a 66) 22) .b)))) .a E P:=
   oQ (as:=[.a ae,.a t.i]) rfl (kg (J:=[.a ae,.a t.i]) (eV (hZ (v:=.a (sz E a o)) (u:=.a (sz E a n)) (iL rfl rfl rfl (mH (k:=k+3))) (iL rfl rfl rfl (mH (k:=k+3))) rfl) (eV (ji (f:=6) (v:=.a t.i) rfl rfl N.f) fJ)) rfl (iO rfl)) rfl
  let w:Int:=if t.i=n then oy S T else S.i;let C:eB:={ S with i:=w };have U2:Us S R:=(h.e.h x).f U;have Z:Gx C T 0 0:=X.ah w;have es:S.i=t.i:=U.b;have ac:w∈S.b∧(S.a w).b=0:=by
   show(if t.i=n then oy S T else S.i)∈_∧(S.a (if t.i=n then oy S T else S.i)).b=0;by_cases c:t.i=n
   ·rw[if_pos c];exact Rf X U2
   ·rw[if_neg c,es]
    have m:=U.e t.i h.c h.g c;rcases U.a t.i m with ⟨_,e,_⟩ |⟨l,_⟩
    ·exact⟨m,e.trans h.g⟩
    ·exact absurd (aa.g _ h.c).2 (rF.2 l)
  have ag:S.b.length≤A:=by
   refine im (CL X.C λy hy=>?_) h.b;rcases U.a y hy with ⟨h1,_⟩ |⟨l,_⟩
   ·exact h1
   ·exact absurd (X.g y hy).2 (by rw[la];exact rF.2 l)
  have L3:Lw C R A (B+2):=⟨⟨T,Z⟩,ac.1,ac.2,U2.k w,by show 0≤S.e;rw[U.c];exact J.h,by show S.e≤_;rw[U.c];exact J.a,by show S.k.length≤_;rw[U.d];exact h.i,ag⟩;have u:Ex (dd eb (k+4)) E P (.h (.j 37 (.a (.a 66) (.a (.a 53) .b)))) .a C P:=j0 (gI rfl aj);have te:=Z.te (k:=k+1) (po.f w) ac.1 ac.2;have au:Ex (dd eb (k+4)) C P (.c (.D jw (.a (.h uM (.j 28 (.a (.a 66) .b)) (.F)) (.a (.h og (.a 53) (.c (.a 66) 16)) .b))) (.a (.g (.I em)) .b) .b) .a C P:=
   gU (pU (jR (gG (v:=.b .e) (u:=.b .e) (gI rfl te) rfl rfl) (jR (gG (v:=.a n) (u:=.j) (fu rfl) (ji (f:=0) rfl rfl Z.f) (congrArg d9 (decide_eq_false aq))) rfl))) fp
  have af:Ev (dd eb (k+4)) C P (.c (.a 96) 1) (.a (S.a o).b) C:=gv rfl rfl;have av:Ex (dd eb (k+4)) C P (.c (.D oM (.a (.h fZ (.c (.a 96) 1) (.w 10)) (.a (.h gd (.v (.a 96) 23 (.a (.a 56) .b)) (.a 105)) .b))) (.a (.g (.I em)) .b) .b) .a C P:=by
   refine gU (x9 ?_) fp;by_cases c:(S.a o).b=0
   ·exact vp (nA (y:=0) af rfl c) (sg (lU (iL rfl rfl rfl (mH (k:=k+3))) rfl so))
   ·exact sg (oj (y:=0) af rfl c)
  let W:=(R.reverse).filter (mA C);let F8:Fr:=eL P 86 (.c eb (eF W));have aw:Ex (dd eb (k+4)) C P (.a 86 Gy) .a C F8:=fO (QL (o:=em) Z.f rfl rfl (by rw[n6];exact hR)) rfl;have aC:Ev (dd eb (k+4)) C F8 (.c (.a 66) 22) (.a w) C:=ji (f:=6) (v:=.a w) rfl rfl Z.f;have O:∀F9,F9 66=d9 (.b .c)->Ex (dd eb (k+4)) C F8 (.c (.h fZ (.a 106) (.a 53)) (.a (.a 106 (.C (.h gd (.a 86) (.z .b)) (.n (.a 86) (.K (.d 1))) (.n (.j 18 (.a (.a 66) .b)) (.d 0)))) .b) .b) .a C F9->F9 106=d9 (.a w)->∃D,gP (ua.c (dd eb (k+4)) t G)=d9 (.d eb,D)∧Lw D R A (B+2):=λF9 f6 az ak=>by
   have:f7 (dd eb (k+4)) t G ua (.b (.d eb)) C F9:=
    eG r1 (eG r2 (eG r3 (eG (gU (oj (y:=0) pe rfl p0) fp) (eG r5 (eG r6 (eG r7 (eG r8 (eG u (eG au (eG av (eG aw (eG az
     (iq (i7 (nA (x:=w) (y:=w) (ji (f:=6) (v:=.a w) f6 rfl Z.f) (fu ak) rfl) rfl))))))))))))))
   exact(eu C (congrArg gP this) L3)
  have Y:Ev (dd eb (k+4)) C F8 (.a 106) (.a t.i) C:=fu rfl;by_cases c:t.i=n
  ·have M:w=((R.filter (mA C)).head?).getD ((iW C T).headD 0):=by
    show(if t.i=n then oy S T else S.i)=_;rw[if_pos c,HG X U2,show iW C T=iW S T from Q4 rfl rfl];rfl
   refine O (eL F8 106 (.a w)) rfl (jj (nA Y rfl c) (eG (fO ?_ rfl) fp)) rfl;have Q:Ev (dd eb (k+4)) C F8 (.h gd (.a 86) (.z .b)) (.d (!eU (W=[]))) C:=gG rfl rfl CH;have d:W=(R.filter (mA C)).reverse:=List.filter_reverse;cases q:R.filter (mA C) with
   |nil=>
    rw[q] at M d;rw[d,show(!eU (([]:List Int).reverse=[]))=em from rfl] at Q;refine sX Z λm l el=>?_;rw[el] at M;have lo:=wq (k:=k+2) Z;rw[el] at lo;exact lS Q (jh (v:=.c eb (eF (m::l))) (u:=.a 0) (gI rfl lo) rfl (by rw[M];rfl))
   |cons z l=>
    rw[q] at M d;have ln:l.length≤900:=by have:=qA (mA C) R;rw[q,lF] at this;lia
    rw(occs:=eO) [decide_eq_false λe=>by rw(occs:=eO) [d,n9] at e;exact absurd (congrArg qz e) (by rw(occs:=eO) [il];exact Kz _)] at Q;have v:Ev (dd eb (k+4)) C F8 (.a 86) (.c em (eF (z::l).reverse)) C:=d▸fg (v:=.c eb (eF W)) rfl;exact lT Q (jh v (u:=.a (-1)) rfl (by rw[M];exact Ho ln))
  ·exact O F8 rfl (gU (oj Y rfl c) fp) (by show d9 (eD.a t.i)=d9 (eD.a (if t.i=n then _ else S.i));rw[if_neg c,es])
noncomputable abbrev BL:Ss:=.a (.a 64 (.v (.a 50) 28 (.a (.w 10) (.a (.d 0) .b)))) (.a (.d (.a 64) 6 (.a 59)) (.a (.d (.a 64) 7 (.a 60)) (.a (.d (.a 64) 8 (.a 61)) (.a (.d (.a 50) 21 (.c (.a 64) 0)) (.a (.d (.a 50) 22 (.c (.a 64) 0)) (.a (.h (.v (.a 50) 31 (.a (.c (.a 64) 0) .b))) .b))))))
noncomputable def w1(q z:Int):gE:=⟨0,0,[],0,0,q,z,1,1,1,0,1⟩
structure T5(t:eB):Prop where
 b:t.g=5
 a:t.b=[]
 d:t.c=0
 c:t.l=0
def kq(t:eB)(q z:Int):eB:={ t.f 1 (w1 q z) with c:=1,b:=[1],l:=1,d:=1,i:=1,g:=7 }
theorem Qg{q z:Int}{k:Nat}(h:T5 t)(o:F 50=d9 (.b .c))(b:F 59=d9 (.a q))(N:F 60=d9 (.a z))(D:F 61=d9 (.a 1)):∃A,f7 (dd eb (k+4)) t F BL .a (kq t q z) A:=by
 obtain⟨w,M,p,l,U,X,g,L,S,d⟩ :=t;obtain⟨rfl,rfl,rfl,rfl⟩ :=h;let t:eB:=⟨w,0,[],0,U,X,5,L,S,d⟩;let R:=mE t 0 0;let K:Fr:=eL F 64 (.b (.d 1));let j:gE:={ w0 0 with d:=q };let a:gE:={ j with e:=z };let C:gE:={ a with i:=1 };let f:=R.f 1 C;let J:eB:={ f with d:=1,g:=6 };let O:eB:={ J with i:=1,g:=7 };have Z:Ex (dd eb (k+4)) t F (.a 64 (.v (.a 50) 28 (.a (.w 10) (.a (.d 0) .b)))) .a R K:=fO (iL (ip o) (eV (v:=.a 0) rfl rfl) rfl (Cb (t:=t) (k:=k) (pJ _))) rfl;have y:Ex (dd eb (k+4)) R K (.d (.a 64) 6 (.a 59)) .a (R.f 1 j) K:=pV (x:=q) (fu b) rfl (G:=j) ((congrArg (λw:gE=>w.l q 6) (show R.a 1=w0 0 from lP (t:=t) (m:=1) (w:=w0 0))).trans rfl);have I:Ex (dd eb (k+4)) (R.f 1 j) K (.d (.a 64) 7 (.a 60)) .a (R.f 1 a) K:=by
  rw[←m0 (t:=R) (a:=j) (G:=a)];exact pV (x:=z) (fu N) rfl (by show d9 _=d9 _;rw[lP])
 have c:Ex (dd eb (k+4)) (R.f 1 a) K (.d (.a 64) 8 (.a 61)) .a (R.f 1 C) K:=by
  rw[←m0 (t:=R) (a:=a) (G:=C)];exact pV (x:=1) (fu D) rfl (by show d9 _=d9 _;rw[lP])
 have Y:Ex (dd eb (k+4)) f K (.d (.a 50) 21 (.c (.a 64) 0)) .a J K:=nC (v:=.a 1) (u:=.b .c) rfl (ip o) rfl;have B:Ex (dd eb (k+4)) J K (.d (.a 50) 22 (.c (.a 64) 0)) .a O K:=nC (v:=.a 1) (u:=.b .c) (gv rfl rfl) (ip o) rfl;have r:Ex (dd eb (k+4)) O K (.h (.v (.a 50) 31 (.a (.c (.a 64) 0) .b))) .a (kX O 1) K:=j0 (iL (ip o) rfl rfl (JM (t:=O) (Q:=eb) (k:=k+3) rfl (lR _)));have i:(kX O 1).a=(kq t q z).a:=funext λx=>by
  show(if x=1 then{ O.a 1 with f:=1 } else if x=1 then C else if x=1 then w0 0 else w x)=if x=1 then w1 q z else w x;by_cases h:x=1
  ·rw[if_pos h,if_pos h,show O.a 1=C from lP (t:=R) (m:=1) (w:=C)];rfl
  ·rw[if_neg h,if_neg h,if_neg h,if_neg h]
 have e:kX O 1=kq t q z:=by
  show({ kq t q z with a:=(kX O 1).a }:eB)=kq t q z;rw[i]
 exact⟨K,e▸eG Z (eG y (eG I (eG c (eG Y (eG B (eG r fp))))))⟩
theorem US{q z:Int}(E:3≤q∧q≤100)(g:2≤z∧z≤100)(V:0≤t.e)(X:t.k.length≤100):Lw (kq t q z) [1] 1 t.e:=by
 have O:(kq t q z).a 1=w1 q z:=lP (t:=t) (m:=1) (w:=w1 q z);have C:∀n∈(kq t q z).b,n=1:=λn W=>gR.1 W;have p:sz (kq t q z) 0 1=q:=by unfold sz;rw[O];rfl
 have B:sz (kq t q z) 1 1=z:=by unfold sz;rw[O];rfl
 have i:((kq t q z).a 1).a=[]:=by rw[O];rfl
 have I:((kq t q z).a 1).b=0:=by rw[O];rfl
 have G:Gx (kq t q z) (λU=>0) 0 0:=
  {
   d:=λm Y y a=>by rw[C m Y,i] at a;cases a
   k:=λm Y y a=>by rw[C m Y,i] at a;cases a
   o:=λm Y=>by rw[C m Y,i];exact n8
   f:=rfl
   j:=iO rfl
   i:=λm Y=>by rw[C m Y];exact⟨λU=>i,λU=>I⟩
   h:=lR _
   m:=by show((kq t q z).a 1).c=0;rw[O];rfl
   g:=λm Y=>by rw[C m Y];exact⟨ja _,ja _⟩
   C:=xx _ _
   D:=λm Y e=>absurd (C m Y) e
   B:=λm Y=>by rw[C m Y];exact eH I
   v:=λm Y s U=>by rw[C m Y] at s;exact absurd I s
   A:=λm Y U y a=>by rw[C m Y,i] at a;cases a
   x:=λb j m Y U=>by rw[C m Y];exact j.elim (λe=>by rw[e,p];exact E.1) λe=>by rw[e,B];exact g.1
   z:=λb j=>j.elim (λe=>by rw[e];exact p.symm▸E.2) λe=>by rw[e];exact B.symm▸g.2
   u:=λb j m Y s=>by rw[C m Y] at s;exact absurd I s }
 exact⟨⟨_,G⟩,lR _,I,⟨rfl,λu R=>by rw[gR.1 R];exact ja _,λu R U=>by rw[gR.1 R];exact I,λx Z U=>by rw[C x Z,O];rfl⟩,V,ja _,X,ig _⟩
theorem Gx.ag(h:Gx t T q r)(M:D.b=t.b)(R:D.d=t.d)(C:D.c=t.c)(N:D.g=7)(E:∀f,(D.a f).b=(t.a f).b∧(D.a f).c=(t.a f).c∧(D.a f).a=(t.a f).a∧(D.a f).d=(t.a f).d∧(D.a f).e=(t.a f).e):Gx D T q r:=by
 have o:∀a f,sz D a f=sz t a f:=λa f=>by unfold sz;rw[(E f).2.2.2.1,(E f).2.2.2.2]
 exact{
     d:=λf Y y B=>by rw[(E f).2.2.1] at B;rw[M] at Y ⊢;exact h.d f Y y B
     k:=λf Y y B=>by rw[(E f).2.2.1] at B;rw[M] at Y;exact(E y).2.1.trans (h.k f Y y B)
     o:=λf Y=>by rw[(E f).2.2.1];exact h.o f (M▸Y)
     f:=N
     j:=M▸h.j
     i:=λf Y=>by rw[(E f).1,(E f).2.2.1];exact h.i f (M▸Y)
     h:=by rw[R,M];exact h.h
     m:=by rw[R];exact(E _).2.1.trans h.m
     g:=λf Y=>by rw[C];exact h.g f (M▸Y)
     C:=M▸h.C
     D:=λf Y e=>by rw[(E f).2.1,(E _).2.2.1,M];exact h.D f (M▸Y) (R▸e)
     B:=λf Y=>by rw[(E f).1];exact h.B f (M▸Y)
     v:=λf Y s e=>by rw[(E f).2.2.1];exact h.v f (M▸Y) ((E f).1▸s) e
     A:=λf Y e y B=>by rw[(E f).1,(E y).1];exact h.A f (M▸Y) e y ((E f).2.2.1▸B)
     x:=λb j f Y s=>by rw[o];exact h.x b j f (M▸Y) ((E f).1▸s)
     z:=λb j=>by rw[o,R];exact h.z b j
     u:=λb j f Y s=>by
      rw[(E f).1] at s ⊢;rw[(E f).2.2.1,show sz D b=sz t b from funext (o b)];exact h.u b j f (M▸Y) s }
theorem Lw.N{A:Nat}{B:Int}(h:Lw t R A B)(b:n∈t.b)(S:(t.a n).b=0):Lw (kX { t with i:=n } n) (n::R) A B:=by
 refine fL h.d λT G=>?_;have w:∀m,(kX { t with i:=n } n).a m=if m=n then{ t.a n with f:=t.l+1 } else t.a m:=λm=>rfl;have N:∀m,((kX { t with i:=n } n).a m).b=(t.a m).b∧((kX { t with i:=n } n).a m).c=(t.a m).c∧((kX { t with i:=n } n).a m).a=(t.a m).a∧((kX { t with i:=n } n).a m).d=(t.a m).d∧((kX { t with i:=n } n).a m).e=(t.a m).e:=λm=>by
  rw[w];by_cases e:m=n
  ·rw[if_pos e,e];exact⟨rfl,rfl,rfl,rfl,rfl⟩
  ·rw[if_neg e];exact⟨rfl,rfl,rfl,rfl,rfl⟩
 refine⟨⟨T,G.ag rfl rfl rfl G.f N⟩,b,(N n).1.trans S,⟨?_,λu a=>?_,λu a M=>?_,λx Z s=>?_⟩,h.h,h.a,h.i,h.b⟩
 ·show t.l+1=((R.length+1:Nat):Int);rw[h.e.d];rfl
 ·show u≤t.c
  rcases gy.1 a with e|a
  ·rw[e];exact(G.g n b).2
  ·exact h.e.b u a
 ·rw[(N u).1]
  rcases gy.1 a with e|a
  ·rw[e];exact S
  ·exact h.e.c u a M
 ·rw[w]
  show(if x=n then _ else _:gE).f=if x=n then(R.length:Int)+1 else li R x;by_cases e:x=n
  ·rw[if_pos e,if_pos e,←h.e.d]
  ·rw[if_neg e,if_neg e];exact h.e.a x Z ((N x).1▸s)
structure BF(F:Fr)(R:List Int):Prop where
 a:F 98=d9 .h
 b:F 66=d9 (.b .c)
 c:F 103=d9 (.c eb (eF R.reverse))
theorem BF.f(h:BF F R){i:Nat}{v:eD}(a:i≠98∧i≠66∧i≠103):BF (eL F i v) R:=⟨(if_neg a.1.symm).trans h.a,(if_neg a.2.1.symm).trans h.b,(if_neg a.2.2.symm).trans h.c⟩
noncomputable abbrev Cp:js:=.a 95 (.x 3 (.c (.a 66) 16))
noncomputable abbrev Hl:js:=.l eb [53,56] (.A (.a (.n (.a 95) (.j 39 (.a (.a 98) (.a (.x 0 (.a 95)) .b)))) (.a (.n (.z (.a (.w 14) (.a (.w 13) .b))) (.j 39 (.a (.a 98) (.a (.d 2) .b)))) .b)))
noncomputable abbrev zh:Es:=.a (.a 66) (.a (.a 53) (.a (.n (.z (.a (.F) (.a (.d 4) (.a (.K (.d 4)) .b)))) (.j 39 (.a (.a 98) (.a (.d 3) .b)))) (.a (.a 56) (.a (.h fZ (.j 39 (.a (.a 98) (.a (.d 2) .b))) (.d 1)) .b))))
noncomputable abbrev Hm:js:=.c (.h fZ (.j 39 (.a (.a 98) (.a (.d 2) .b))) (.d 1)) (.a (.a 65 (.j 18 (.a (.a 66) .b))) (.a (.m 103 (.n (.a 65) (.j 39 (.a (.a 98) (.a (.x 0 (.a 65)) .b))))) (.a (.h (.v (.a 66) 32 (.a (.n (.a 103) (.K (.d 1))) .b))) .b))) .b
theorem Cs{i:Nat}{l:List Int}{o:Bool}(h:F i=d9 (.c o (eF l)))(C:l.length≤900):Ev (dd Q j) t F (.x 0 (.a i)) (.a l.length) t:=by
 have:=jM (d:=dd Q j) (t:=t) (fg h) (sD (Q:=Q) (z:=eF l) (by(clear h;cases o)<;>rfl) (by(clear h;cases o)<;>rfl) (by rw[gB];lia));rwa [gB] at this
theorem Lw.k{A:Nat}{B:Int}(h:Lw t R A B):t.b.length≤60:=let⟨_,g⟩ :=h.d;g.j
theorem LC{A:Nat}{B m:Int}{k:Nat}(h:Lw t R A B)(i:B≤9000)(p:F 98=d9 .h)(Y:0<m)(n:Ev (dd eb (k+1)) t F e (.a m) t):
  ∃r,Ev (dd eb (k+1)) t F (.j 39 (.a (.a 98) (.a e .b))) (.a r) { t with e:=t.e+1 }∧0≤r∧r<m∧Lw { t with e:=t.e+1 } R A (B+1):=by
 have:=h.a;refine v5 (k:=k) p Y h.h (by lia) h.i n λr s C Z=>?_;exact(lO r s C Z h.l)
theorem Lw.f{A:Nat}{B m:Int}{k:Nat}(h:Lw t R A B)(i:B≤9000)(p:F 98=d9 .h)(Y:0<m)(n:Ev (dd eb (k+1)) t F e (.a m) t){G:Prop}(N:∀r,Ev (dd eb (k+1)) t F (.j 39 (.a (.a 98) (.a e .b))) (.a r) { t with e:=t.e+1 }->0≤r->r<m->Lw { t with e:=t.e+1 } R A (B+1)->G):G:=nR (LC h i p Y n) N
theorem UD{r:Int}(h:r=0∨r=1):∃a,Ax a∧m7 t (.c eb [.a 1,.a 0]) (.a r)=d9 (.a a):=by
 rcases h with rfl|rfl
 ·exact(eu 1 (eI rfl) rfl)
 ·exact(eu 0 (eH rfl) rfl)
theorem UE{r:Int}(h:r=0∨r=1∨r=2):∃f,m7 t (.c eb [.e,.a 4,.a (-4)]) (.a r)=d9 (jW f):=by
 rcases h with rfl|rfl|rfl
 ·exact⟨eh,rfl⟩
 ·exact⟨d9 4,rfl⟩
 ·exact⟨d9 (-4),rfl⟩
theorem Qy{A:Nat}{B:Int}{k:Nat}(h:Lw t R A B)(i:B≤8000)(f:BF F R):
  ∃n a K H E,Ex (dd eb (k+1)) t F Cp .a t K∧Ex (dd eb (k+1)) t K Hl .a E H∧Lw E R A (B+2)∧n∈E.b∧Ax a∧BF H R∧H 53=d9 (.a n)∧H 56=d9 (.a a):=by
 refine fL h.d λT G=>?_;have C:=h.k;let l:=uA t.b;have d:∀x,x∈l↔x∈t.b:=λx=>(AC _ _).mem_iff;have j:l.length=t.b.length:=(AC _ _).length_eq;have U:0<l.length:=by rw[j];exact DM G.h
 let K:Fr:=eL F 95 (.c eb (eF l));have Y:BF K R:=f.f (by decide);have Z:Ex (dd eb (k+1)) t F Cp .a t K:=fO (jM (ji (f:=0) (v:=.j) f.b rfl G.f) (IN (by lia))) rfl;refine h.f (k:=k) (F:=K) (by lia) Y.a (by lia:(0:Int)<l.length) (Cs (i:=95) (o:=eb) rfl (by lia)) λr s N O J=>?_;refine J.f (m:=2) (k:=k) (F:=K) (by lia) Y.a (by decide) (e:=.d 2) rfl λL p b e c=>?_;refine zI (t:={ t with e:=t.e+1 }) (o:=em) N O (by lia) λn W q=>?_;refine eR (UD (t:={ t with e:=t.e+1+1 }) (by lia:L=0∨L=1)) λa M V=>?_;refine⟨n,a,K,(fV K [56,53] [.a a,.a n]),({ t with e:=t.e+1+1 }),Z,?_,(by rw[show B+2=B+1+1 by lia];exact c),((d n).1 W),M,((Y.f (i:=56) (by decide)).f (by decide)),rfl,rfl⟩;exact oQ (as:=[.a n,.a a]) rfl (kg (J:=[.a n,.a a]) (eV (jh (v:=.c em (eF l)) rfl s q) (eV (jh rfl p V) fJ)) rfl (iO rfl)) rfl
theorem QA{A:Nat}{B:Int}{k:Nat}(h:Lw t R A B)(i:B≤8000)(f:BF F R)(y:F 53=d9 (.a n))(U:F 56=d9 (.a a)):∃l M E,lV (dd eb (k+1)) t F zh [.b .c,.a n,jW l,.a a,.d M] E∧Lw E R A (B+2)∧E.b=t.b:=by
 refine h.f (m:=3) (k:=k) (F:=F) (by lia) f.a (by decide) (e:=.d 3) rfl λr s N O J=>?_;refine J.f (m:=2) (k:=k) (F:=F) (by lia) f.a (by decide) (e:=.d 2) rfl λL p b d x=>?_;refine fL (UE (t:={ t with e:=t.e+1 }) (by lia:r=0∨r=1∨r=2)) λl V=>?_;exact(mT l (eU (L=1)) _ (eV (ip f.b) (eV (fu y) (eV (jh rfl s V) (eV (fu U) (eV (gG p (u:=.a 1) rfl rfl) fJ))))) (by rw[show B+2=B+1+1 by lia];exact x) rfl)
theorem Lw.M{A:Nat}{B:Int}{j:Option Int}{o:Bool}(h:Lw t R A B)(d:A≤40)(W:n∈t.b)(M:Ax a){k:Nat}:
  (∃T,Gx t T 0 0∧(eU (sz t a n-jn j (sz t a n)<LL t T a n)||eU (jn j (sz t a n)<ko a))=eb)∨∃v D,gF eb (k+6) 33 [.b .c,.a n,jW j,.a a,.d o] t=d9 (v,D)∧Lw D R (A+2) B:=by
 refine fL h.d λT G=>?_;by_cases K:sz t a n-jn j (sz t a n)<LL t T a n
 ·exact eH (eu T G (by rw[decide_eq_true K];rfl))
 by_cases I:jn j (sz t a n)<ko a
 ·exact eH (eu T G (by rw[decide_eq_true I];exact pG _))
 have:=h.b;refine mX (Up (g:=0) (o:=o) (k:=k) G (by lia) W M (λk=>Uq (j:=j) (k:=k) G.y W (tl.1 K) (tl.1 I)) (by lia) (tl.1 K) (tl.1 I)) λv D L c w U l=>?_;have S:t.i≠0:=λe=>by have:=(G.g _ h.c).1;lia
 have s:=U.e _ h.c h.g S;refine eI (ib v D c ⟨⟨L,w⟩,U.b▸s,?_,h.e.f U,U.c▸h.h,U.c▸h.a,U.d▸h.i,by lia⟩);rw[U.b];rcases U.a _ s with ⟨_,e,_⟩ |⟨l,_⟩
 ·exact e.trans h.g
 ·exact absurd (G.g _ h.c).2 (rF.2 l)
theorem Qz{A:Nat}{B:Int}{k:Nat}(h:Lw t R A B)(i:B≤8000)(g:R.length≤800)(f:BF F R):∃D Z U,Ex (dd eb (k+3)) t F Hm .a D U∧Lw D Z A (B+2)∧BF U Z∧Z.length≤R.length+1:=by
 refine h.f (m:=2) (k:=k+2) (F:=F) (by lia) f.a (by decide) (e:=.d 2) rfl λr s N O J=>?_;by_cases c:r=1
 ·refine fL J.d λT G=>?_
  refine sX G λm l M=>?_;have z:=wq (k:=k+1) G;have j:(iW { t with e:=t.e+1 } T).length≤60:=im (qA ..) (im (oU G.l G.h) G.j);let K:Fr:=eL F 65 (.c eb (eF (iW { t with e:=t.e+1 } T)));have Y:BF K R:=f.f (by decide);refine J.f (k:=k+2) (F:=K) (by lia) Y.a (by rw[M];show(0:Int)<((l.length+1:Nat):Int);lia) (Cs (i:=65) (o:=eb) rfl (by lia)) λL p b d x=>?_;refine zI (t:={ t with e:=t.e+1+1 }) (o:=em) b d (by lia) λn W q=>?_;refine fe ((sW G).1 W) λV X=>?_;let S:eB:={ t with e:=t.e+1+1 };let H:Fr:=eL K 103 (.c eb (eF (n::R).reverse));have y:Ex (dd eb (k+3)) { t with e:=t.e+1 } K (.m 103 (.n (.a 65) (.j 39 (.a (.a 98) (.a (.x 0 (.a 65)) .b))))) .a S H:=by
   have e:eF R.reverse++[(.a n:Internal.eT)]=eF (n::R).reverse:=by rw[n9,←oJ];rfl
   have v:Ev (dd eb (k+3)) { t with e:=t.e+1 } K (.n (.a 65) (.j 39 (.a (.a 98) (.a (.x 0 (.a 65)) .b)))) (.b (.a n)) S:=jh (v:=.c em (eF (iW { t with e:=t.e+1 } T))) rfl p q;have:=qM v Y.c (by rw[gB,n6];lia);rw[e] at this;exact this
  have a:Ev (dd eb (k+3)) S H (.n (.a 103) (.K (.d 1))) (.a n) S:=jh (v:=.c em (eF (n::R).reverse)) (u:=.a (-1)) rfl rfl (Ho (by lia));have I:Ex (dd eb (k+3)) S H (.h (.v (.a 66) 32 (.a (.n (.a 103) (.K (.d 1))) .b))) .a (kX { S with i:=n } n) H:=j0 (iL (ip Y.b) (eV a fJ) rfl (TZ (Q:=eb) (t:=S) (k:=k) G.f V X));refine(ph _ (n::R) H (jj (nA (y:=1) s rfl c) (eG (fO (gI (eV (ip f.b) fJ) z) rfl) (eG y (eG I fp)))) ?_ ⟨Y.a,Y.b,rfl⟩ (ig _));rw[show B+2=B+1+1 by lia];exact x.N V X
 ·exact(ph _ R F (gU (oj (y:=1) s rfl c) fp) ({ J with a:=by have:=J.a;lia }) f (xC _))
noncomputable abbrev zk:js:=.l eb [108,109] (.A (.a (.p io (.d 3) (.j 39 (.a (.a 98) (.a (.d 70) .b)))) (.a (.p io (.d 2) (.j 39 (.a (.a 98) (.a (.d 50) .b)))) .b)))
theorem QF{A:Nat}{B:Int}{k:Nat}(h:Lw t R A B)(i:B≤8000)(C:F 98=d9 .h):∃l f D,Ex (dd eb (k+1)) t F zk .a D (fV F [109,108] [.a f,.a l])∧Lw D R A (B+2)∧l≤100∧f≤100:=by
 refine h.f (m:=70) (k:=k) (F:=F) (by lia) C (by decide) (e:=.d 70) rfl λr s N O J=>?_;refine J.f (m:=50) (k:=k) (F:=F) (by lia) C (by decide) (e:=.d 50) rfl λL p b d x=>?_;refine(ph (3+r) (2+L) ({ t with e:=t.e+1+1 }) ?_ (by rw[show B+2=B+1+1 by lia];exact x) (by lia) (by lia));exact oQ (as:=[.a (3+r),.a (2+L)]) rfl (kg (J:=[.a (3+r),.a (2+L)]) (eV (hZ (v:=.a 3) rfl s rfl) (eV (hZ (v:=.a 2) rfl p rfl) fJ)) rfl (iO rfl)) rfl
theorem JQ(N:t.g=7)(h:F 66=d9 (.b .c)):Ev d t F (.c (.a 66) 21) (.a t.d) t:=ji (f:=5) (v:=.a t.d) h rfl N
noncomputable abbrev ge(i g:Nat):eW:=.h .GtE (.a i) (.j 40 (.a (.a 66) (.a (.c (.a 66) 21) (.a (.w g) .b))))
theorem GR{b:Nat}{B m:Int}{k:Nat}(h:Gx t T q r)(j:∀n∈t.b,T n<61)(M:Ax a){i g:Nat}(J:F 66=d9 (.b .c))(R:F i=d9 (.a m))(A:wa g=d9 a):Ev (dd eb (k+61)) t F (ge i g) (.d (eU (LL t T a t.d≤m))) t:=
 gG (v:=.a m) (fu R) (gI (eV (ip J) (eV (JQ h.f J) (eV (v:=.a a) (by show(wa g).map _=_;rw[A];rfl) fJ))) (Hp h.y h.B M h.h (k+61) (by have:=j _ h.h;lia))) rfl
noncomputable abbrev uf:eW:=.n (.j 30 (.a (.a 66) .b)) (.d 0)
theorem C8{k:Nat}(h:Gx t T q r)(J:F 66=d9 (.b .c)):Ev (dd Q (k+3)) t F uf (.b (tp [sz t 0 t.d,sz t 1 t.d])) t:=
 jh (v:=.b (CF t T)) (u:=.a 0) (gI (eV (ip J) fJ) (BZ (Q:=Q) (k:=k) h.y h.h)) rfl rfl
theorem HL{l m:List Int}(h:l=m):mS t gd (.b (tp l)) (.b (tp m))=d9 false:=h▸HK (n:=1) (vY (n:=0)) (by decide)
theorem FB{x y z:eW}(K:Ev d t F x (.d em) t)(I:Ev d t F y (.d em) t)(g:Ev d t F z (.d em) t):Ev d t F (.D jw (.a x (.a y (.a z .b)))) (.d em) t:=pU (jR K (jR I (jR g rfl)))
noncomputable abbrev yS:eW:=.h uM (.j 28 (.a (.a 66) .b)) .F
theorem JJ{k:Nat}(h:Gx t T 0 0)(p:Po t)(S:t.i∈t.b)(C:(t.a t.i).b=0)(J:F 66=d9 (.b .c)):Ev (dd eb (k+3)) t F yS (.d em) t:=
 gG (v:=.b .e) (u:=.b .e) (gI (eV (ip J) fJ) (h.te (k:=k) p S C)) rfl rfl
noncomputable abbrev no(e:eW):js:=.c e (.a (.g (.I em)) .b) .b
abbrev z7:js:=no (.D jw (.a (.M (.a 111)) (.a yS (.a (.h gd uf (.A (.a (.a 108) (.a (.a 109) .b)))) .b))))
theorem UM{k:Nat}{q z:Int}(h:Gx t T 0 0)(p:Po t)(S:t.i∈t.b)(C:(t.a t.i).b=0)(J:F 66=d9 (.b .c))(y:F 111=d9 (.d eb))(W:F 108=d9 (.a q))(E:F 109=d9 (.a z))(f:sz t 0 t.d=q∧sz t 1 t.d=z):Ex (dd eb (k+3)) t F z7 .a t F:=
 gU (FB (ya (b:=eb) (fg (v:=.d eb) y)) (JJ h p S C J) (gG (C8 (k:=k) h J) (kg (J:=[.a q,.a z]) (eV (fu W) (eV (fu E) fJ)) rfl (iO rfl)) (HL (l:=[sz t 0 t.d,sz t 1 t.d]) (m:=[q,z]) (by rw[f.1,f.2])))) fp
abbrev z8:js:=no (.M (.j 41 (.a (.a 66) (.a (.c (.a 66) 21) (.a (.a 56) (.a (.a 100) .b))))))
theorem UN{k:Nat}{P:List (Int×eT)}{o:Int->Int->Int}(h:Gx t T 0 0)(j:∀n∈t.b,T n<61)(M:Ax a)(J:F 66=d9 (.b .c))(U:F 56=d9 (.a a))(l:F 100=d9 (.g eb P))(z:∀x∈t.b,P.lookup x=d9 (.f [.a (o 0 x),.a (o 1 x)]))
  (p:∀x∈t.b,Dn t T a (o a) (sz t a) x) (f:∀x∈t.b,LL t T a x≤o a x∧o a x≤100):Ex (dd eb (k+65)) t F z8 .a t F:=
 gU (ya (b:=eb) (gI (eV (ip J) (eV (JQ h.f J) (eV (fu U) (eV (fg l) fJ)))) (Qp h.y h.B M z p (λx Z=>⟨(f x Z).1,jX (f x Z).2 (by decide)⟩) (λx Z=>⟨h.U M Z,jX (h.W M Z) (by decide)⟩) h.h (k+61) (by have:=j _ h.h;lia)))) fp
abbrev y8:js:=no (.D jw (.a (.a 111) (.a (.h gd (.j 30 (.a (.a 66) .b)) (.a 110)) .b)))
theorem Qf{k:Nat}(h:Gx t T q r)(j:∀n∈t.b,T n<61)(J:F 66=d9 (.b .c))(y:F 111=d9 (.d em))(Z:F 110=d9 (.b (CF t T))):Ex (dd em (k+3)) t F y8 .a t F:=
 gU (pU (jR (fg (v:=.d em) y) (jR (gG (v:=.b (CF t T)) (u:=.b (CF t T)) (gI (eV (ip J) fJ) (BZ (Q:=em) (k:=k) h.y h.h)) (fg (v:=.b (CF t T)) Z) (HK (Oo h) (by have:=j _ h.h;lia))) rfl))) fp
abbrev zq:js:=no (.M (.j 43 (.a (.a 98) (.a (.a 66) (.a (.a 103) .b)))))
theorem QG{A:Nat}{B:Int}{k:Nat}{o:Bool}(h:Lw t R A B)(i:B≤9000)(r:R.length≤900)(J:F 66=d9 (.b .c))(C:F 98=d9 .h)(Z:F 103=d9 (.c o (eF R.reverse))):∃D,Ex (dd eb (k+5)) t F zq .a D F∧Lw D R A (B+2):=by
 refine eR (Qo (k:=k) h i r) λD g L=>?_;exact(eu D (gU (ya (b:=eb) (gI (eV (fg (v:=.h) C) (eV (ip J) (eV (fg Z) fJ))) g)) fp) L)
abbrev wm:Ss:=.a (.a 65 (.j 18 (.a (.a 66) .b))) (.a (.l eb [53,57] (.A (.a (.n (.a 65) (.j 39 (.a (.a 98) (.a (.x 0 (.a 65)) .b)))) (.a uf .b)))) (.a (.h (.j 38 (.a (.a 66) (.a (.a 53) .b))))
 (.a (no (.D jw (.a yS (.a (.h gd uf (.a 57)) (.a (.h gd (.j 18 (.a (.a 66) .b)) (.z (.a (.a 53) .b))) .b))))) (.a (.g (.h fZ (.c (.a 66) 22) (.a 53))) .b))))
theorem QH{A:Nat}{B:Int}{k:Nat}(h:Lw t R A B)(o:B≤8000)(J:F 66=d9 (.b .c))(C:F 98=d9 .h):∃D f,f7 (dd eb (k+4)) t F wm (.b (.d eb)) D f:=by
 refine fL h.d λT G=>?_;refine sX G λm l M=>?_;have z:=wq (k:=k+2) G;have j:(iW t T).length≤60:=im (qA ..) (im (oU G.l G.h) G.j);let K:Fr:=eL F 65 (.c eb (eF (iW t T)));refine h.f (k:=k+3) (F:=K) (by lia) C (by rw[M];show(0:Int)<((l.length+1:Nat):Int);lia) (Cs (i:=65) (o:=eb) rfl (by lia)) λr p b d x=>?_;let E:eB:={ t with e:=t.e+1 };refine zI (t:=E) (o:=em) b d (by lia) λn W q=>?_;refine fe ((sW G).1 W) λV X=>?_;have N:Gx E T 0 0:=G.aa _;let Y:Internal.eT:=tp [sz E 0 E.d,sz E 1 E.d];let H:Fr:=fV K [57,53] [Y,.a n];have v:Ev (dd eb (k+4)) t K (.n (.a 65) (.j 39 (.a (.a 98) (.a (.x 0 (.a 65)) .b)))) (.a n) E:=jh (v:=.c em (eF (iW t T))) (fg (v:=.c eb (eF (iW t T))) rfl) p q;have y:Ex (dd eb (k+4)) t K (.l eb [53,57] (.A (.a (.n (.a 65) (.j 39 (.a (.a 98) (.a (.x 0 (.a 65)) .b)))) (.a uf .b)))) .a E H:=
  oQ (as:=[.a n,Y]) rfl (kg (J:=[.a n,.b Y]) (eV v (eV (C8 (k:=k+1) N J) fJ)) rfl (iO rfl)) rfl
 (refine un (PA (k:=k+1) N V X) λD Q w e g O L=>?_;refine i8 L λZ i U U=>?_)
 have P:(D.a D.i).b=0:=by rw[O,Z];exact X
 have s:D.i∈D.b:=by rw[O,i];exact lR n
 have u:[sz D 0 D.d,sz D 1 D.d]=[sz E 0 E.d,sz E 1 E.d]:=by
  rw[g];unfold sz;rw[Z];rfl
 have a:iW D T=[n]:=by
  unfold iW;rw[g,lw w.e (by rw[i];exact lR n),Z,show(zR E n).a=[] from(N.i n V).1 X];exact xt (decide_eq_true (by rw[Z];exact X))
 have S:=wq (k:=k+2) w;rw[a] at S;have I:Ex (dd eb (k+4)) E H (.h (.j 38 (.a (.a 66) (.a (.a 53) .b)))) .a D H:=j0 (gI (eV (ip J) (eV (fu (n:=n) rfl) fJ)) Q);have c:Ex (dd eb (k+4)) D H (no (.D jw (.a yS (.a (.h gd uf (.a 57)) (.a (.h gd (.j 18 (.a (.a 66) .b)) (.z (.a (.a 53) .b))) .b))))) .a D H:=
  gU (FB (JJ (k:=k+1) w e s P J) (gG (C8 (k:=k+1) w J) (fg (v:=.b Y) rfl) (HL u)) (gG (gI (eV (ip J) fJ) S) (qL (eV (fu (n:=n) rfl) fJ) rfl (iO rfl)) (CG (l:=[n]) (m:=[n]) rfl))) fp
 exact⟨D,H,eG (fO (gI (eV (ip J) fJ) z) rfl) (eG y (eG I (eG c (iq (i7 (nA (ji (f:=6) (v:=.a D.i) J rfl w.f) (fu (n:=n) rfl) O) rfl)))))⟩
end
section
variable{c:Cx}{V:eJ}{H M:AH}{P:iE}{d:ir}{j:Bool}{Y:gZ}{B:AH}{F:Fr}{a N:Ad}{t D I:eB}
theorem zQ:oS (KK P) 38 37 35:=⟨⟨_,_,_,_,_,_,_,_,_,_,_,_,_,rfl⟩,by kernel_rfl,by kernel_rfl,by kernel_rfl,(eu _ rfl rfl)⟩
theorem Ue{k:Nat}{e t:et}{u A:ed}{Q:ed->AH->Prop}(F:c.e=KK P)(O:c.d)(l:Lv c (k+1))(n:H e=d9 (.c (lZ 38 t eh)))
  (h:∀i f K,H i=eh->i≠e->Q ez (eQ (eQ (eQ H e (.c (lZ 38 t (d9 i)))) i (.c f)) i (.c K))):lL c (ec 35) [ec e,u,A] V H Q:=by
 refine Be (n:=ei "__init__") (q:=ei "LispSignal.__init__") (E:=(eC (ei "emacs.errors") 194)) (m:=ez) (s:=34) (u:=Internal.fW 2 0) F O l ["self","symbol","data"] rfl (by kernel_rfl) (by exact ij λa b d=>.a (by kernel_rfl)) (by kernel_rfl) rfl λg L r=>?_;have D:oS (iM c g L (kR (ei "LispSignal.__init__") (fD (Internal.fW 2 0)) L 35 (ec 34) [])).e 38 37 35:=by
  show oS c.e 38 37 35;rw[F];exact zQ
 have M:∀x,jg (KK P) 37 x=d9 eh->jg c.e 37 x=d9 none:=λx h=>by rw[F];exact h
 refine kI (pW (lr r (by kernel_rfl) (v:=u) rfl (lr r (by kernel_rfl) (v:=ec e) rfl (eu e rfl (Ob (a:="symbol") r D (M _ (by kernel_rfl)) (by kernel_rfl) n λi f p G I=>?_)) (by kernel_rfl)) (by kernel_rfl)) rfl);refine kI (pW (lr r (by kernel_rfl) (v:=A) rfl (lr r (by kernel_rfl) (v:=ec e) rfl (eu e rfl (Oc (a:="data") r D (M _ (by kernel_rfl)) (by kernel_rfl) ((fw _ _ G.symm).trans (gA _ _ _)) (gA _ _ _) G I λK=>?_)) (by kernel_rfl)) (by kernel_rfl)) rfl);exact qS (h i f K p G)
end
section
variable{c:Cx}{V:eJ}{H M:AH}{P:iE}{d:ir}{Y:gZ}{B:AH}{F:Fr}{a N:Ad}{t D I:eB}
def XQ(a:Ad)(t:eB)(H:AH)(D:eB):et->AH->Prop:=λC M=>C=38∧∃s,fk a t H s D M
theorem vd{s:Ad}{E S:eB}(c:fk a t H s E M):∀C b,XQ s E M S C b->XQ a t H S C b:=λ_ _ ⟨e,v,w⟩ =>⟨e,v,c.d w⟩
noncomputable abbrev wX(w:String):Es:=.a (.G "error") (.a (.z (.a (.G w) .b)) .b)
theorem SQ{k:Nat}{w:String}{z:List eP}{C o D:fE}{Q:gr->eJ->AH->Prop}(b:Bd d P em Y c B F a t V H)(m:c.b.handled=eh)(l:Lv c (k+2))(y:jT Y 44 eY=eb)(Z:(wX w).c z=z)(X:(wX w).f em Y em z=eb):
  qb c (Ea (d9 (jr (gk (ei "LispSignal") C) z [] o)) eh D) V H Q (XQ a t H t):=by
 have K:=b.b.b;refine M2 (C:=38) (N:=37) (n:=35) b.b.a m (K▸zQ) (by rw[←Z];exact mF _ _) (tS (v:=ec 38) K b.b.a (j8 b.b y) (by kernel_rfl) ⟨rfl,?_⟩ (by kernel_rfl));rw[←Z];refine(mM (d:=d) (P:=P) (wX w)).1 (J:=[.b (.h "error"),.c eb [.h w]]) (D:=t) (F:=F) X rfl b λL v T h N U=>⟨by rw[N.b];exact iO rfl,λe u i n=>yl ?_⟩;clear U;obtain⟨J,W,rfl,_,N⟩ :=N;obtain⟨A,W,rfl,_,N⟩ :=N;obtain rfl:W=[]:=N;refine Ue (c:=cA c 38 i) (k:=k) K b.b.a.l l.h (gA _ _ _) λj f I p G=>⟨rfl,j,?_,rfl,v,h.d (.j h.b λx E Z=>?_)⟩
 ·rw[fw _ _ G.symm,fw _ _ G.symm];exact gA _ _ _
 ·have r:x≠e:=λq=>by rw[q,n] at Z;exact nS Z
  have g:x≠j:=λq=>by rw[q] at Z;rw[fw _ _ G,Z] at p;exact iX p
  rw[B2 _ r,fw _ _ g,fw _ _ g,fw _ _ r,fw _ _ r];exact Z
end
section
variable{c:Cx}{V:eJ}{H M:AH}{P:iE}{d:ir}{Y:gZ}{B:AH}{F K:Fr}{a N:Ad}{t D I E:eB}{Q:gr->eJ->AH->Prop}{X:et->AH->Prop}
theorem tT.b{X Z:et->AH->Prop}{e:ed}{s:eZ}(k:∀C M,X C M->Z C M)(h:tT c X e s):tT c Z e s:=by
 refine iH h λz C O n=>?_;exact⟨z,C,O,n.imp (λw=>iH w λV H f x=>⟨V,H,f,k _ _ x⟩) λo=>uq o λV H v d N K I g u=>md u λy J a P x=>⟨V,H,v,d,N,K,I,g,y,J,a,P,k _ _ x⟩⟩
theorem mQ.b{O:List fG}{X Z:et->AH->Prop}(h:mQ c O V H Q X)(k:∀C M,X C M->Z C M):mQ c O V H Q Z:=λE s S a=>h E s S λe P n=>a e P (n.b k)
theorem qb.b{u:fG}{X Z:et->AH->Prop}(h:qb c u V H Q X)(k:∀C M,X C M->Z C M):qb c u V H Q Z:=λE s S a=>h E s S λe P n=>a e P (n.b k)
theorem Bn{s:js}{r:Ss}{z:List fG}(e:(Ss.a s r).e Y z=eb)(h:Ex d t F s .a E K)(b:Bd d P em Y c B F a t V H)(i:fk N I B a t H)
  (k:r.e Y z.tail=eb->∀O w Z,Bd d P em Y c B K O E w Z->fk N I B O E Z->mQ c (r.d z.tail) w Z Q X):mQ c ((Ss.a s r).d z) V H Q X:=by
 refine fq e λA f=>?_;refine yo (M1 (yf s A h b i λg O w Z p y=>?_));rw[show g=fY from y];exact k f O w Z (p.g b) p.a
noncomputable def rX:fG->eP
 |Ea (d9 x) eh _=>x
 |_=>fU
def rS(u:fG):Stmt:=Ea (d9 (jr (gk (ei "LispSignal") (x1 (rX u)).pos) (xl (rX u)) [] (rX u).pos)) eh u.pos
theorem Fh{q:eW}{r:Ss}{z:List fG}{w:String}{k:Nat}(X:(Ss.a (.c q (.a .p .b) .b) r).e Y z=eb)(h:Ev d t F q (.d eb) E)(b:Bd d P em Y c B F a t V H)(g:c.b.handled=eh)(l:Lv c (k+2))(i:jT Y 44 eY=eb)
  (R:(sB (z.headD gH)).headD gH=rS ((sB (z.headD gH)).headD gH)) (m:(wX w).c (xl (rX ((sB (z.headD gH)).headD gH)))=xl (rX ((sB (z.headD gH)).headD gH))) (n:(wX w).f em Y em (xl (rX ((sB (z.headD gH)).headD gH)))=eb):mQ c ((Ss.a (.c q (.a .p .b) .b) r).d z) V H Q (XQ a t H E):=by
 refine fq X λA f=>?_;refine fq A λC e=>?_;refine fq C λj D=>?_;refine yo (MZ ((fR q).2 j h b λO Z p=>?_));rw[if_pos rfl];show mQ c [(sB (z.headD gH)).headD gH] V Z _ _;rw[R];exact yo ((SQ (b.e p) g l i m n).b (vd p))
theorem Bf{g:Nat}{B:List Nat}{s:et}{u:fG}{n q:ft}{E m:ed}{k:Nat}{w:List eD}{A:List ed}{Q:ed->AH->Prop}(Y:gZ)(ok:vf d P k)(F:c.e=KK P)(O:c.d)(l:Lv c (k+1))(y:c.b.handled=eh)(ac:c.i=eh)
  (K:(KK P).lookup (i6 g)=d9 ⟨eK "function",eh,gQ u n q m E (ec s),#[]⟩) (I:pP (KK P) (ec s) q=eb) (j:sF (lJ n q (qg u) (fj u) (fD u) m ez ez E eh (ec s) ez) (B.map nm)) (hc:qq (fD u) (B.map nm)=eb)
  (hs:(fD u).names=(fM Y).names) (J:((Y.all λp=>eU (p.1<113))&&(B.all λi=>eU (i<113))&&eU B.Nodup)=eb) (C:w.length=B.length) (N:jd H a t w A)
  (aa:∀b,jA d P em Y b->FR b H a t (fh B (w.map eD.e)) (iR (B.map nm) A) H->Lv b k->b.b.handled=eh->mQ b (fj u) (iR (B.map nm) A) H (λfl U T=>Q (pA fl) T) X):mP c (ec (i6 g)) A V H Q X:=by
 refine fq J λag af=>?_;refine fq ag λae M=>?_;refine wJ hc λc1 c2 c3 c4 Z=>?_;have W:A.length=(B.map nm).length:=by rw[fC,N.b,C]
 refine Nv O ac (F▸K) (F▸I) l.f (B.map nm) (λau vs N=>D4 (j vs (N.trans W))) c1 c2 c3 c4 Z λg L r=>?_;generalize f:iM c g L (kR q (fD u) L (i6 _) (ec s) [])=b at r;have h:∀x,b.a.kindOf x=(fD u).names.lookup x:=λx=>by rw[←f];rfl
 have z:∀x,b.a.kindOf x≠d9 fK:=λx e=>by rw[h] at e;exact c2 _ (pq e) rfl
 refine aa b ⟨f▸F,r,?_,?_,λi k' R=>?_,λq=>f▸y,λU=>f▸rfl,(eu k (f▸l.e) ok)⟩ ⟨λi v R=>?_,λi ak v v' aq U R U D=>?_,λx e=>absurd e (z x),λx av ad e=>absurd e (z x),f▸.a y⟩ (f▸l.e) (f▸y)
 ·unfold rN;rw[r.b];rfl
 ·unfold xI;rw[r.b];rfl
 ·rw[h,hs];exact(mW (sV ae)).trans R
 ·(refine gY (o6 (l7 M) N R) λm1 S g1=>?_;refine eR g1 λaj o G=>?_)
  exact(fQ aj (eH ⟨(h _).trans (c1 _ (jY m1)),vV (of_decide_eq_true af) (l7 M) G⟩) o (by rw[S];nofun))
 ·refine gY (o6 (l7 M) N R) λU S U=>?_
  rw[S] at D;exact nB D
variable{n C:Int}{j:Option Int}{T:Int->Nat}{A:List ed}{Q:ed->AH->Prop}
theorem IS(n C:Int)(j:Option Int):[eD.b .c,.a n,jW j,.a C].map eD.e=[.b .c,.a n,jW j,.a C]:=by cases j<;>rfl
theorem Ur{k:Nat}(F:c.e=KK P)(O:c.d)(l:Lv c (k+5))(g:c.b.handled=eh)(i:c.i=eh)(w:Wd H a t)(N:jd H a t [.b .c,.a n,jW j,.a C] A)(G:Ok t T)(W:n∈t.b)
  (R:(eU (sz t C n-jn j (sz t C n)<LL t T C n)||eU (jn j (sz t C n)<ko C))=eb):mP c (ec 279) A V H Q (XQ a t H t):=by
 refine Bf (g:=31) (d:=dd eb (k+4)) (k:=k+4) (B:=[66,53,57,56]) (n:=ei "split_parts") (q:=ei "split_parts") (E:=(eC (ei "emacs.splits") 572)) (m:=ez) (s:=278) (u:=(eS 30)) z6 (qf qj _) F O l g i rfl (by kernel_rfl) (by exact ij λa b d e=>.a (by kernel_rfl)) (by kernel_rfl) IA (by kernel_rfl) rfl N λq S f I J=>?_;rw[IS] at f;have z:ub.e z6 (fj (eS 30))=true:=by kernel_rfl
 have M:=IR (j:=j) (k:=k+2) (a:=C) G W;rw[R] at M;rw[←J4];refine Bn z (IO (k:=k+2) G.f W) ⟨S,f,w⟩ (.e w) λz p r Z h D=>?_;refine Bn z IP h D λz v u m y o=>?_;refine Bn z IQ y o λz Y X L K x=>?_;exact(Fh (w:="Window too small for splitting") (k:=k+2) z M K J I (by kernel_rfl) (by kernel_rfl) (by kernel_rfl) (by kernel_rfl)).b (vd x)
end
section
variable{c:Cx}{V:eJ}{H M:AH}{P:iE}{d:ir}{Y:gZ}{B:AH}{F K:Fr}{a N:Ad}{t D I E:eB}{X:et->AH->Prop}{n C:Int}{j:Option Int}{T:Int->Nat}{A:List ed}{Q:ed->AH->Prop}
theorem BW{g:Nat}{w:Es}{x:eP}{J:List eD}{R:List ed->AH->Prop}(X:(eW.j g w).y em Y em x=eb)(h:lV d t F w J E)(b:Bd d P em Y c B F a t V H)
  (k:∀A O Z,fk a t H O E Z->jd Z O E (J.map eD.e) A->R A Z):
  TE c (jy g (x1 x)) V H (λv M=>v=ec (i6 g)∧nv (ec (i6 g))=ec (i6 g)∧(∀u,nv u=ec (i6 g)->u=ec (i6 g))∧nF c (ec (i6 g))∧TA c (w.c (xl x)) V M R):=by
 refine fq X λi f=>?_;refine fq i λC e=>?_;refine fe (GN (P:=P) (of_decide_eq_true e)) λL T=>?_;exact tS b.b.b b.b.a (j8 b.b C) L ⟨rfl,rfl,λu j=>gX j,u9 (b.b.b▸T),(mM w).1 f h b λA O Z p N U=>k A O Z p N.e⟩ (ju g)
theorem NZ{g:Nat}{w:Es}{x:eP}{J:List eD}(e:(eW.j g w).y em Y em x=eb)(h:lV d t F w J E)(b:Bd d P em Y c B F a t V H)
  (k:∀A O Z,fk a t H O E Z->jd Z O E (J.map eD.e) A->mP c (ec (i6 g)) A V Z Q X):BD c ((eW.j g w).u x) V H Q X:=
 NY b.b.a (mF _ _) (BW e h b k)
theorem Fb{y:eJ->et->AH->Prop}{g:Nat}{w:Es}{x:eP}{J:List eD}(X:(eW.j g w).y em Y em x=eb)(h:lV d t F w J E)(b:Bd d P em Y c B F a t V H)
  (k:∀A O Z,fk a t H O E Z->jd Z O E (J.map eD.e) A->mP c (ec (i6 g)) A V Z Q (y V)):BC c ((eW.j g w).u x) V H Q y:=
 NX b.b.a (mF _ _) (BW X h b k)
theorem mP.b{f:ed}{Z:et->AH->Prop}(h:mP c f A V H Q X)(k:∀e M,X e M->Z e M):mP c f A V H Q Z:=λE s J S N d=>h E s J S N λa e M P D Y=>d a e M P D (k _ _ Y)
theorem U1{d:ir}{t:eB}{F:Fr}{i:Nat}(h:F i=d9 (jW j).e):Ev d t F (.a i) (jW j) t:=by
 cases j with
 |none=>exact fg (v:=.b .e) h
 |some s=>exact fu h
theorem Ut{k:Nat}{o:Bool}(F:c.e=KK P)(O:c.d)(l:Lv c (k+6))(g:c.b.handled=eh)(i:c.i=eh)(w:Wd H a t)(N:jd H a t [.b .c,.a n,jW j,.a C,.d o] A)(G:Ok t T)(W:n∈t.b)
  (R:(eU (sz t C n-jn j (sz t C n)<LL t T C n)||eU (jn j (sz t C n)<ko C))=eb):mP c (ec 293) A V H Q (XQ a t H t):=by
 refine Bf (g:=33) (d:=dd eb (k+5)) (k:=k+5) (B:=[66,53,57,56,93]) (n:=ei "split") (q:=ei "split") (E:=(eC (ei "emacs.splits") 572)) (m:=ez) (s:=292) (u:=(eS 32)) zZ (qf qj _) F O l g i rfl (by kernel_rfl) (by exact ij λa q d e f=>.a (by kernel_rfl)) (by kernel_rfl) Iz (by kernel_rfl) rfl N λb S h I J=>?_;let e:eW:=.j 31 (.a (.a 66) (.a (.a 53) (.a (.a 57) (.a (.a 56) .b))));let x:Stmt:=(fj (eS 32)).headD gH;have z:e.y em zZ em (sE x)=true:=by kernel_rfl
 rw[←J3];refine yo (MY (NZ z (eV (ip rfl) (eV (fu (n:=n) rfl) (eV (U1 rfl) (eV (fu (n:=C) rfl) fJ)))) ⟨S,h,w⟩ λA m Z p N=>?_) (nY (e:=e) rfl (sE x) (d9 (iD (jU [69,70] (xl (sT x))) (xk (sT x)) (sT x).pos)) x.pos.line b.a) (zU (e:=e) rfl _ _ _ _ _));rw[IS] at N;exact(Ur (k:=k) S.b S.a I J (S.g rfl) p.b N G W R).b (vd p)
theorem S2{k:Nat}{q z:Int}{h r:Int}(F:c.e=KK P)(O:c.d)(l:Lv c (k+5))(g:c.b.handled=eh)(i:c.i=eh)(w:Wd H a t)(N:jd H a t [.b .c,.a q,.a z] A)(G:Gx t T h r)
  (R:(eU (q<LL t T 0 t.d)||eU (z<LL t T 1 t.d))=eb):mP c (ec 246) A V H Q (XQ a t H t):=by
 refine Bf (g:=26) (d:=dd eb (k+4)) (k:=k+4) (B:=[66,59,60]) (n:=ei "resize_frame") (q:=ei "resize_frame") (E:=(eC (ei "emacs.sizes") 490)) (m:=ez) (s:=245) (u:=(eS 23)) zY (qf qj _) F O l g i rfl (by kernel_rfl) (by exact ij λa b d=>.a (by kernel_rfl)) (by kernel_rfl) Iy (by kernel_rfl) rfl N λj S e I J=>?_;have f:vM.e zY (fj (eS 23))=true:=by kernel_rfl
 have M:=Iv (a:=q) (z:=z) (k:=k+2) G;rw[R] at M;rw[←J2];exact Fh (w:="Frame too small") (k:=k+2) f M ⟨S,e,w⟩ J I (by kernel_rfl) (by kernel_rfl) (by kernel_rfl) (by kernel_rfl)
end
section
variable{c:Cx}{V:eJ}{H M:AH}{P:iE}{d:ir}{Y:gZ}{B:AH}{F K:Fr}{a N:Ad}{t D I E:eB}{Q:ed->AH->Prop}
theorem xc:makesIn (KK P) 164=eb∧rJ (KK P) (ec 164) "__init__"=d9 (d9 (ec 112))∧typeIn (KK P) (ec 112)=d9 (eK "function")∧tz (KK P) (ec 164)=eb∧jg (KK P) ky (eE (nm 45))=d9 (d9 (ec 164)):=⟨by kernel_rfl,by kernel_rfl,by kernel_rfl,by kernel_rfl,by kernel_rfl⟩
theorem zb{f:Nat}{e:eW}{s:fG}{o:List fG}{B m:List (String×ed)}{x j:et}{u:ed}{R:gr->eJ->AH->Prop}(F:c.e=KK P)(O:c.d)(z:c.a.kindOf (eE (nm 50))=d9 ey)(b:V (nm 50)=d9 (ec x))(Z:H x=d9 (.h 164 j))(G:x≠j)(y:16≤f∧f<23)(C:B.length<1000)(W:e.O=eh)(a:kW (gf f) u B=m)
  (N:∀R,R u (eQ H j (.b B))->TE c (e.u (sE s)) V (eQ H j (.b B)) R) (h:TS c o V (eQ H j (.b m)) R):TS c ((js.d (.a 50) f e).v s::o) V (eQ H j (.b B)) R:=
 kI (pW (N _ (lr O z b (eu x rfl (pX O ((fw _ _ G).trans Z) (gA _ _ _) (qe F y).2 C (by rw(occs:=eO) [Ag,a];exact h))) (ju 50))) (nY W _ _ _ _))
noncomputable def t7(a:Ad)(x j D:et):Ad:={ a with e:=x,i:=j,c:=D }
noncomputable def t5(t:eB):eB:={ t with g:=5,c:=0,b:=[],l:=0 }
theorem UJ{x j D:et}(w:Wd H a t)(J:t.g<5)(Z:H x=eh)(C:H j=eh)(Y:H D=eh)(B:(D==mL)=em)(k:∀y o,H y=d9 o->M y=d9 o)(L:M x=d9 (.h 164 j))(T:M j=d9 (.b (jv (t7 a x j D) (t5 t))))(b:M D=d9 (.e [])):fk a t H (t7 a x j D) (t5 t) M:=by
 have r:∀n,¬(t5 t).j n:=λn h=>by have K:=h.1;have I:n≤0:=h.2;lia
 refine⟨⟨k _ _ w.c,k _ _ w.d,w.e,λU=>⟨L,T,b,B,⟨n8,ja _⟩,λn W=>absurd W iI,λn W=>absurd W (r n),λn m W=>absurd W (r n),λn W=>absurd W (r n)⟩⟩,λy o h U=>k y o h,λy o h=>⟨o,k y o h⟩,?_,?_,rfl,rfl,rfl,λh=>absurd h (by lia)⟩
 ·rintro y (h|⟨_,h|h|⟨n,W,_⟩⟩)
  ·exact eH (eH h)
  ·exact eI (h▸C)
  ·exact eI (h▸Y)
  ·exact absurd W (r n)
 ·rintro y ((h|⟨_,h|h|⟨n,W,_⟩⟩)|h|⟨_,h|⟨n,W,_⟩⟩)
  ·exact eH (eH (eH h))
  ·exact eI (h▸C)
  ·exact eI (h▸Y)
  ·exact absurd W (r n)
  ·exact eH (eI (eH h))
  ·exact eI (h▸Z)
  ·exact absurd W (r n)
theorem Qi{k:Nat}{x j:et}{q z:Int}(F:c.e=KK P)(O:c.d)(l:Lv c (k+5))(hh:c.b.handled=eh)(az:Wd H a t)(J:t.g<5)(hx:H x=eh)(C:H j=eh)(G:x≠j)
  (hq:∀a' M,fk a t H a' (kq t q z) M->a'.e=x->Q ez M):lL c (ec 112) [ec x,vi q,vi z,vi 1,vi 3,vi 2] V (eQ (eQ H j (.b [])) x (.h 164 j)) Q:=by
 have aj:((w9.all λp=>eU (p.1<113))&&(([50,59,60,61,62,63]:List Nat).all λi=>eU (i<113))&&eU ([50,59,60,61,62,63]:List Nat).Nodup)=true:=by kernel_rfl
 refine fq aj λau aq=>?_;refine fq au λak ac=>?_;have hc:qq (fD (fW 10 0)) (([50,59,60,61,62,63]:List Nat).map nm)=true:=by kernel_rfl
 refine wJ hc λc1 c2 c3 n c5=>?_;have K:(KK P).lookup 112=d9 ⟨eK "function",eh,gQ (fW 10 0) (ei "__init__") (ei "WindowTree.__init__") (ec 105) (eC (ei "emacs.windows") 227) (ec 111),#[]⟩ :=rfl;refine EW O (F▸K) (F▸(by kernel_rfl:pP (KK P) (.ref 111) (ei "WindowTree.__init__")=true)) l.f (([50,59,60,61,62,63]:List Nat).map nm) (λaA vs X N=>?_) c1 c2 c3 n c5 λg ae r=>?_
 ·(refine ot (n:=5) N λa U e1 K=>?_;(clear N;obtain rfl:=e1))
  (refine ot K λaB U m h2=>?_;(clear K;obtain rfl:=m))
  (refine ot h2 λd U e3 h3=>?_;(clear K h2;obtain rfl:=e3))
  (refine ot h3 λe U e4 h4=>?_;(clear h3;obtain rfl:=e4))
  (refine ot h4 λaC U e5 J=>?_;obtain rfl:=e5)
  (refine ot J λg U e6 h6=>?_;obtain rfl:=e6)
  obtain rfl:=oK.mp h6;exact binds_K (F▸X) rfl rfl rfl rfl rfl
 generalize f:iM c g ae (kR (ei "WindowTree.__init__") (fD (fW 10 0)) ae 112 (ec 111) [])=b at r;have h:∀x,b.a.kindOf x=(fD (fW 10 0)).names.lookup x:=λx=>by rw[←f];rfl
 have ag:∀x,b.a.kindOf x≠d9 fK:=λx e=>by rw[h] at e;exact c2 _ (pq e) rfl
 have I:∀i k,w9.lookup i=d9 k->b.a.kindOf (eE (nm i))=d9 k:=λi k R=>by rw[h,S'];exact(mW (sV ak)).trans R
 have S:jA (dd eb (k+4)) P em w9 b:=by
  refine⟨f▸F,r,?_,?_,I,λU=>f▸hh,λU=>f▸rfl,(eu (k+4) (f▸l.e) (qf qj _))⟩
  ·unfold rN;rw[r.b];rfl
  ·unfold xI;rw[r.b];rfl
 have W:=I 50 _ rfl;rw[←Va];refine kI (pW (E5 r λD Y B=>lr r W (v:=ec x) rfl (eu x rfl (pX (C:=164) (d:=j) (B:=[]) r ?_ ?_ (qe S.b (by decide)).2 (by decide) ?_)) (ju 50)) (nY (e:=.N) rfl _ _ _ _))
 all_goals
  have Z:D≠x:=λe=>by rw[e,gA] at Y;exact iX Y
  have A:eQ H j (.b []) D=none:=(fw _ _ Z).symm.trans Y;have E:D≠j:=λe=>by rw[e,gA] at A;exact iX A
  have af:H D=none:=(fw _ _ E).symm.trans A
 ·rw[fw _ _ Z.symm];exact gA _ _ _
 ·rw[fw _ _ E.symm,fw _ _ G.symm];exact gA _ _ _
 generalize aa:eQ (eQ (eQ H j (.b [])) x (.h 164 j)) D (.e [])=Hb;have L:Hb x=d9 (.h 164 j):=by rw[←aa,fw _ _ Z.symm];exact gA _ _ _
 have bD:Hb D=d9 (.e []):=by rw[←aa];exact gA _ _ _
 have bk:∀y o,H y=d9 o->Hb y=d9 o∧y≠j:=λy o B=>by
  have y1:y≠D:=λe=>by rw[e,af] at B;exact nS B
  have y2:y≠x:=λe=>by rw[e,hx] at B;exact nS B
  have y3:y≠j:=λe=>by rw[e,C] at B;exact nS B
  rw[←aa,fw _ _ y1,fw _ _ y2,fw _ _ y3];exact⟨B,y3⟩
 rw[show kW (gf 16) (ec D) []=[(gf 16,ec D)] from rfl];refine zb (m:=[(gf 16,ec D),(gf 17,vi 0)]) S.b r W rfl L G (by decide) (iO rfl) rfl (by kernel_rfl) mC ?_;refine zb (m:=[(gf 16,ec D),(gf 17,vi 0),(gf 18,vi 0)]) S.b r W rfl L G (by decide) (iO rfl) rfl (by kernel_rfl) mC ?_;refine zb (m:=[(gf 16,ec D),(gf 17,vi 0),(gf 18,vi 0),(gf 19,vi 3)]) S.b r W rfl L G (by decide) (iO rfl) rfl (by kernel_rfl) (tf r (I 62 _ rfl) rfl) ?_;refine zb (m:=[(gf 16,ec D),(gf 17,vi 0),(gf 18,vi 0),(gf 19,vi 3),(gf 20,vi 2)]) S.b r W rfl L G (by decide) (iO rfl) rfl (by kernel_rfl) (tf r (I 63 _ rfl) rfl) ?_;generalize v:eQ Hb j (.b [(gf 16,ec D),(gf 17,vi 0),(gf 18,vi 0),(gf 19,vi 3),(gf 20,vi 2)])=T;have u:fk a t H (t7 a x j D) (t5 t) T:=UJ az J hx C af B (λy o B=>by rw(occs:=eO) [←v,fw _ _ (bk y o B).2];exact(bk y o B).1) (by rw(occs:=eO) [←v,fw _ _ G];exact L) (by rw(occs:=eO) [←v,gA];exact(by kernel_rfl:some (AO.b [(gf 16,ec D),(gf 17,vi 0),(gf 18,vi 0),(gf 19,vi 3),(gf 20,vi 2)])=some (AO.b (jv (t7 a x j D) (t5 t))))) (by rw(occs:=eO) [←v,fw _ _ E];exact bD);have N:jd T (t7 a x j D) (t5 t) [.b .c,.a q,.a z,.a 1,.a 3,.a 2] [ec x,vi q,vi z,vi 1,vi 3,vi 2]:=(fS _ _ rfl ⟨rfl,ig 5⟩ (fS _ _ rfl rfl (fS _ _ rfl rfl (fS _ _ rfl rfl (fS _ _ rfl rfl (fS _ _ rfl rfl rfl))))));have fr:FR b T (t7 a x j D) (t5 t) (fh [50,59,60,61,62,63] ([eD.b .c,.a q,.a z,.a 1,.a 3,.a 2].map eD.e)) (iR (([50,59,60,61,62,63]:List Nat).map nm) [ec x,vi q,vi z,vi 1,vi 3,vi 2]) T:=by
  refine⟨λi aw R=>?_,λi aD aw v' aE U R U ho=>?_,λx e=>absurd e (ag x),λx y ad e=>absurd e (ag x),f▸.a hh⟩
  ·(refine gY (o6 (l7 ac) N R) λm1 m2 g7=>?_;refine eR g7 λav m3 m4=>?_)
   exact(fQ av (eH ⟨(h _).trans (c1 _ (jY m1)),vV (of_decide_eq_true aq) (l7 ac) m4⟩) m3 (by rw[m2];nofun))
  ·refine gY (o6 (l7 ac) N R) λU m2 U=>?_
   rw[m2] at ho;exact nB ho
 refine fL (Qg (t:=t5 t) (k:=k) (q:=q) (z:=z) (F:=fh [50,59,60,61,62,63] ([eD.b .c,.a q,.a z,.a 1,.a 3,.a 2].map eD.e)) ⟨rfl,rfl,rfl,rfl⟩ rfl rfl rfl rfl) λF' w=>?_;have hk:BL.e w9 ((fj (fW 10 0)).drop 5)=true:=by kernel_rfl
 refine qO BL hk w ⟨S,fr,u.b⟩ (.e u.b) λg a' aF H2 p hf=>?_;rw[show g=fY from hf];exact hq a' H2 (u.d p.a) (p.a.c (ig 5)).2.1
theorem Q5{k:Nat}{q z:Int}(F:c.e=KK P)(O:c.d)(l:Lv c (k+6))(g:c.b.handled=eh)(w:Wd H a t)(J:t.g<5)(b:∀s M,fk a t H s (kq t q z) M->Q (ec s.e) M):TC c (ec 164) [vi q,vi z,vi 1,vi 3,vi 2] V H Q:=
 EU O (F▸xc.1) (F▸xc.2.1) (F▸xc.2.2.1) λx j i Z C G=>Qi (c:=cA c 164 i) (k:=k) F O.l l.h g w J Z C G λs M u e=>⟨rfl,e▸b s M u⟩
end
section
variable{c:Cx}{V:eJ}{H M:AH}{P:iE}{d:ir}{Y:gZ}{B:AH}{F K:Fr}{a N:Ad}{t D I E:eB}{Q:fH->gr->eJ->AH->Prop}{X:et->AH->Prop}{n C:Int}{j:Option Int}
theorem FR.m{g:fH}(f:FR c B a t F V H):FR (cg c g) B a t F V H:=⟨f.h,f.d,f.f,f.inj,f.b⟩
theorem FR.o{g:fH}(f:FR (Internal.cg c g) B a t F V H):FR c B a t F V H:=⟨f.h,f.d,f.f,f.inj,f.b⟩
theorem jA.m{g:fH}(b:jA d P em Y c)(O:(Internal.cg c g).d):jA d P em Y (cg c g):=⟨b.b,O,b.h,b.j,b.e,b.f,b.g,b.l.imp λn h=>⟨⟨h.1.b,h.1.a⟩,h.2⟩⟩
structure Gn(c:Cx)(k:Nat):Prop where
 h:c.a=c.n
 g:c.e.In c.m
 f:rI c.p (rK c.p []) c.r c.s c.m
 a:c.b.handled=eh
 d:c.i=eh
 b:Lv c k
theorem Gn.e{k:Nat}{g:fH}(h:Gn c k):Gn (cg c g) k:=⟨h.h,h.g,h.f,h.a,h.d,⟨h.b.b,h.b.a⟩⟩
theorem Gn.i{k:Nat}{p:List (et×fN)}(h:Gn c k):Gn (gO c p) k:=⟨h.h,h.g,h.f,h.a,h.d,⟨h.b.b,h.b.a⟩⟩
theorem Fg{s:js}{r:Ss}{z:List fG}(X:s.G Y (z.headD gH)=eb)(h:Ex d t F s .a E K)(b:Bd d P em Y c B F a t V H)(f:fk N I B a t H)
  (k:∀g O w Z,Bd d P em Y (cg c g) B K O E w Z->fk N I B O E Z->oY (cg c g) (r.d z.tail) w Z Q):oY c ((Ss.a s r).d z) V H Q:=by
 refine vc (Bb b.b.a (yf s X h b f λg O w Z p y=>?_));rw[show g=fY from y];exactλe=>k _ O w Z ⟨b.b.m e,p.d.m,p.a.b⟩ p.a
theorem Bm{s:js}{r:Ss}{z:List fG}(X:(Ss.a s r).e Y z=eb)(h:Ex d t F s .a E K)(b:Bd d P em Y c B F a t V H)(e:fk N I B a t H)
  (k:r.e Y z.tail=eb->∀g O w Z,Bd d P em Y (cg c g) B K O E w Z->fk N I B O E Z->oY (cg c g) (r.d z.tail) w Z Q):oY c ((Ss.a s r).d z) V H Q:=
 let⟨A,f⟩ :=m9.mp X;Fg A h b e (k f)
theorem EZ{f:ed}{A:List ed}{Q:ed->AH->Prop}(h:lL c f A V H Q):mP c f A V H Q X:=λE s J S N U=>h E s J S N
noncomputable def tB:fG->List fG
 |uT b _ _ _ _=>b
 |_=>[]
noncomputable def tH:fG->fE×List fG×fE
 |uT _ [uP (d9 x) eh b p] _ _ _=>(x.pos,b,p)
 |_=>(fU,[],fU)
def JN(u:fG):Stmt:=uT [qH ((eW.j 33 zh).u (sE ((tB u).headD gH))) ((tB u).headD gH).pos] [uP (d9 (gk (ei "LispSignal") (tH u).1)) eh [.Pass ((tH u).2.1.headD gH).pos] (tH u).2.2] [] [] u.pos
def JO(V:eJ)(a:Ad)(t:eB)(H:AH)(D:eB):eJ->et->AH->Prop:=λl C M=>l=V∧XQ a t H D C M
theorem UV{k:Nat}{u:fG}{R:List Int}{A:Nat}{K:Int}(b:Bd (dd eb (k+6)) P em Y c B F a t V H)(G:Gn c (k+6))(q:u=JN u)(X:(eW.j 33 zh).y em Y em (sE ((tB u).headD gH))=eb)(z:jT Y 44 eY=eb)
  (L:Lw t R A K) (d:A≤40) (hB:K≤8000) (f:BF F R) (y:F 53=d9 (.a n)) (ae:F 56=d9 (.a C)) (W:n∈t.b) (hx:Ax C)
  (j:∀g O E Z,Tn c g->fk a t H O E Z->Lw E R (A+2) (K+2)->Q g fY V Z):vn c u V H Q:=by
 rw[q];refine qp (QA (k:=k+5) L hB f y ae) λr o E I J i=>?_;refine MX (C:=38) (N:=37) (n:=35) (X:=JO V a t H E) b.b.a G.d G.h G.g G.f (b.b.b▸zQ) (b.b.b▸(by kernel_rfl:jg (KK P) ky (ei "LispSignal")=some (some (.ref 38)))) (j8 b.b z) (by kernel_rfl) ?_ (λU U U h=>h.2.1) ?_
 ·refine Fe (EP (Fb X I b λus O Z p N=>?_) b.b.h rfl)
  have ac:∀S,Lw S R (A+2) (K+2)->∀v T,fk O E Z v S T->(rZ c [] V T (λf l M=>Q c.f f l M) (JO V a t H E)):=λS x v T m=>Ff (qS (j _ v S T (.a b.b.a) (p.d m) x));have e:[eD.b .c,.a n,jW r,.a C,.d o].map eD.e=[.b .c,.a n,jW r,.a C,.d o]:=by(clear I N;cases r)<;>rfl
  rw[e] at N;rcases J.M (j:=r) (o:=o) d (i▸W) hx (k:=k) with ⟨rk,aa,hr⟩ |⟨aj,S,w,x⟩
  ·exact(Ut (k:=k) b.b.b b.b.a G.b G.a G.d p.b N aa.y (i▸W) hr).b λaf T h=>⟨rfl,vd p _ _ h⟩
  ·exact EZ (qf qj (k+6) c b.b.b b.b.a G.b (λU=>G.a) _ _ _ _ _ w _ _ _ _ _ p.b (.a G.a) N λag v T m U U=>ac S x v T m)
 ·rintro g l M hT ⟨rfl,_,O,D⟩
  exact j g O E M hT D { J with b:=im J.b (xA _ _) }
end
section
variable{c:Cx}{V:eJ}{H M:AH}{P:iE}{d:ir}{Y:gZ}{B:AH}{F K:Fr}{a N:Ad}{t D I E:eB}{n C:Int}{j:Option Int}
abbrev BO:Ss:=.a Cp (.a Hl (.a .p (.a Hm .b)))
structure LJ(c:Cx)(a0:Ad)(t0:eB)(B:AH)(i:Nat)(ρ:eJ)(H:AH):Prop where
 b:∃a t R F,FR c B a t F ρ H∧fk a0 t0 B a t H∧BF F R∧Lw t R (1+2*i) (30+10*i)∧R.length≤1+i
theorem QB{k:Nat}{st:fG}{z:List fG}{i:Nat}{Q:fH->gr->eJ->AH->Prop}{R:List Int}(cx:jA (dd eb (k+6)) P em Y c)(G:Gn c (k+6))(X:BO.e Y z=eb)(q:z.tail.tail.headD gH=JN (z.tail.tail.headD gH))
  (h:(eW.j 33 zh).y em Y em (sE ((tB (z.tail.tail.headD gH)).headD gH))=eb) (hk:jT Y 44 eY=eb) (fr:FR c B a t F V H) (S:fk N I B a t H) (f:BF F R) (aa:Lw t R (1+2*i) (30+10*i)) (hR:R.length≤1+i) (hi:i<10)
  (hq:∀g l M,LJ c N I B (i+1) l M->Q g fY l M):oY c (BO.d z) V H Q:=by
 (refine uq (Qy (k:=k+5) aa (by lia) f) λn C K F2 E O m J L=>?_;refine md L λhn Z j ac ae=>?_)
 refine Bm X O ⟨cx,fr,S.b⟩ S λX L a1 ak H1 d D=>?_;refine Bm X m d D λX T v ag H2 y o=>?_;refine fq X λU af=>?_;refine vc (UV (k:=k) y G.e.e q h hk J (by lia) (by lia) j ac ae hn Z λW a3 t3 H3 U x b w=>?_);refine mX (Qz (k:=k+3) b (by lia) (by lia) j) λp R4 A e4 u f4 aj=>?_;have b3:Bd (dd eb (k+6)) P em Y (cg (cg (cg c L) T) W) B F2 a3 t3 ag H3:=⟨y.b.m w,(y.e x).g.m,x.b⟩;refine Bm af e4 b3 (o.d x) λU g4 r aq H4 b4 s=>Oa b4.b.a (hq _ _ _ ⟨r,p,R4,A,b4.g.o.o.o.o,s,f4,?_,by lia⟩);have e:(30:Int)+10*((i+1:Nat):Int)=30+10*i+10:=by lia
 rw[e];exact{ u with a:=by have:=u.a;lia,b:=by have:=u.b;lia }
theorem Pb{k:Nat}{az:ed->AH->Prop}(F:c.e=KK P)(aF:c.d)(lv:Lv c (k+7))(hh:c.b.handled=eh)(aL:c.i=eh)(aS:c.o=[])(XB:c.e.In c.m)(TB:rI c.p (rK c.p []) c.r c.s c.m)(ba:Wd H a t)(J:t.g<5)(p0:0≤t.e∧t.e≤10)(X:t.k.length≤100)
  (hq:∀a' D M ac aa l,fk a t H a' D M->Lw D ac 15 100->ac.length≤20->M aa=d9 (.f [ec a'.e,ec l])->VR M a' D (.c eb (eF ac.reverse)) (ec l)->H l=eh->az (ec aa) M):lL c (ec 352) [ec a.f] V H az:=by
 have aM:((n5.all λp=>eU (p.1<113))&&(([98]:List Nat).all λi=>eU (i<113))&&eU ([98]:List Nat).Nodup)=true:=by kernel_rfl
 refine fq aM λaQ aP=>?_;refine fq aQ λaO ag=>?_;have hc:qq (fD (eS 42)) (([98]:List Nat).map nm)=true:=by kernel_rfl
 refine wJ hc λc1 c2 c3 n c5=>?_;have h1:(KK P).lookup 352=d9 ⟨eK "function",eh,gQ (eS 42) (ei "_law_built") (ei "_law_built") ez (eC (ei "law_ok0064_01") 676) (ec 351),#[]⟩ :=rfl;have hb:sF (lJ (ei "_law_built") (ei "_law_built") (qg (eS 42)) (fj (eS 42)) (fD (eS 42)) ez ez ez (eC (ei "law_ok0064_01") 676) eh (ec 351) ez) (([98]:List Nat).map nm):=ij λa=>.a (by kernel_rfl);refine Nu aF aL aS (F▸h1) (F▸(by kernel_rfl:pP (KK P) (.ref 351) (ei "_law_built")=true)) lv.f (([98]:List Nat).map nm) (λbf vs N=>D4 (hb vs N)) c1 c2 c3 n c5 λg L r=>?_;generalize f:iM c g L (kR (ei "_law_built") (fD (eS 42)) L 352 (ec 351) [])=b at r;have aq:∀x,b.a.kindOf x=(fD (eS 42)).names.lookup x:=λx=>by rw[←f];rfl
 have z:∀x,b.a.kindOf x≠d9 fK:=λx e=>by rw[aq] at e;exact c2 _ (pq e) rfl
 have I:∀i k,n5.lookup i=d9 k->b.a.kindOf (eE (nm i))=d9 k:=λi k R=>by rw[aq,Tv];exact(mW (sV aO)).trans R
 have au:Lv b (k+6):=f▸lv.e;have cx:jA (dd eb (k+6)) P em n5 b:=by
  refine⟨f▸F,r,?_,?_,I,λU=>f▸hh,λU=>f▸rfl,(eu (k+6) au (qf qj _))⟩
  ·unfold rN;rw[r.b];rfl
  ·unfold xI;rw[r.b];rfl
 have G:Gn b (k+6):=⟨by rw[←f];rfl,f▸XB,f▸TB,f▸hh,f▸rfl,au⟩;have aT:∀a o,¬b.j a o:=λa o h=>by rw[←f] at h;exact h
 have N:jd H a t [.h] [ec a.f]:=(fS _ _ rfl rfl rfl);let O:Fr:=fh [98] [.h];have fr:FR b H a t O (iR (([98]:List Nat).map nm) [ec a.f]) H:=by
  refine⟨λi aZ R=>?_,λi bj aZ v' aa U R U ho=>?_,λx e=>absurd e (z x),λx bc ad e=>absurd e (z x),.a G.a⟩
  ·(refine gY (o6 (w:=[.h]) (l7 ag) N R) λm1 m2 g2=>?_;refine eR g2 λaD m3 m4=>?_)
   exact(fQ aD (eH ⟨(aq _).trans (c1 _ (jY m1)),vV (of_decide_eq_true aP) (l7 ag) m4⟩) m3 (by rw[m2];nofun))
  ·refine gY (o6 (w:=[.h]) (l7 ag) N R) λU m2 U=>?_
   rw[m2] at ho;exact nB ho
 have b0:Bd (dd eb (k+6)) P em n5 b H O a t (iR (([98]:List Nat).map nm) [ec a.f]) H:=⟨cx,fr,ba⟩;rw[←Vv]
 --aC=bg(..)
 refine v5 (e:=.d 40) (k:=k+5) (t:=t) (F:=O) rfl (by decide) p0.1 (by lia) X rfl λZ d1 q0 q1=>?_;refine v5 (e:=.d 30) (k:=k+5) (t:={ t with e:=t.e+1 }) (F:=O) rfl (by decide) (by show 0≤t.e+1;lia) (by show t.e+1≤_;lia) X rfl λy d2 q2 q3=>?_;let E:eB:={ t with e:=t.e+1+1 };let w:Es:=.a (.p io (.d 24) (.j 39 (.a (.a 98) (.a (.d 40) .b)))) (.a (.p io (.d 16) (.j 39 (.a (.a 98) (.a (.d 30) .b)))) (.a (.d 1) (.a (.d 3) (.a (.d 2) .b))));have ev:lV (dd eb (k+6)) t O w [.a (24+Z),.a (16+y),.a 1,.a 3,.a 2] E:=eV (hZ (v:=.a 24) rfl d1 rfl) (eV (hZ (v:=.a 16) rfl d2 rfl) rfl);have aK:w.f em n5 em (xl (sE ((fj (eS 42)).headD gH)))=true:=by kernel_rfl
 have aR:js.G n5 (.a 103 (.z (.a (.c (.a 66) 22) .b))) ((fj (eS 42)).tail.headD gH)=true:=by kernel_rfl
 refine vc (Bb r (tM (tQ (f:=ec 164) r (mF w _) (tS (v:=ec 164) cx.b r (I 45 _ rfl) xc.2.2.2.2 ⟨rfl,rfl,λaD hu=>gX hu,u9 (cx.b▸xc.2.2.2.1),(mM w).1 aK ev b0 λus a1 H1 p N U=>?_⟩ (ju 45))) rfl));clear U;obtain⟨u1,W,rfl,rfl,N⟩ :=N;obtain⟨u2,W,rfl,rfl,N⟩ :=N;obtain⟨u3,W,rfl,rfl,N⟩ :=N;obtain⟨u4,W,rfl,rfl,N⟩ :=N;obtain⟨u5,W,rfl,rfl,N⟩ :=N;obtain rfl:W=[]:=N;refine Q5 (k:=k) cx.b r au G.a p.b J λv H2 aB=>?_;have L2:=US (t:=E) (q:=24+Z) (z:=16+y) (by lia) (by lia) (by show 0≤t.e+1+1;lia) X;refine qR (i:=66) (v:=.b .c) (b0.e (p.d aB)) (p.d aB) (by kernel_rfl) ⟨rfl,iO rfl⟩ (λh=>nB h) (λh=>nB h) λbe H3 U q O3=>?_;have b3:Bd (dd eb (k+6)) P em n5 (cg b b.f) H (eL O 66 (.b .c)) v (kq E (24+Z) (16+y)) be H3:=⟨cx.m O3,q.d.m,q.a.b⟩
 --aY=[aC.selected]
 have m:Ex (dd eb (k+6)) (kq E (24+Z) (16+y)) (eL O 66 (.b .c)) (.a 103 (.z (.a (.c (.a 66) 22) .b))) .a (kq E (24+Z) (16+y)) (eL (eL O 66 (.b .c)) 103 (.c eb [.a 1])):=fO rfl rfl;refine Fg aR m b3 q.a λg4 a4 bu H4 C aW=>?_;generalize af:cg (cg b b.f) g4=n at C;have G4:Gn n (k+6):=af▸G.e.e;have aU:∀a o,¬n.j a o:=λa o h=>by rw[←af] at h;exact aT a o h
 have ak:∀i k,n5.lookup i=d9 k->n.a.kindOf (eE (nm i))=d9 k:=λi k R=>by rw[←af];exact I i k R
 --for bn in bo(1+bh(6))
 have aE:Lw (kq E (24+Z) (16+y)) [1] (1+2*0) 20:={ L2 with a:=by show t.e+1+1≤20;lia,b:=ig _ };have f4:BF (eL (eL O 66 (.b .c)) 103 (.c eb [.a 1])) [1]:=⟨rfl,rfl,rfl⟩;refine aE.f (e:=.d 6) (m:=6) (k:=k+5) (by lia) f4.a (by decide) rfl λr3 d3 s0 s1 L5=>?_;let B:Es:=.a (.p io (.d 1) (.j 39 (.a (.a 98) (.a (.d 6) .b)))) .b;have aG:lV (dd eb (k+6)) (kq E (24+Z) (16+y)) (eL (eL O 66 (.b .c)) 103 (.c eb [.a 1])) B [.a (1+r3)] _:=eV (hZ (v:=.a 1) rfl d3 rfl) fJ;let xs:=(fj (eS 42)).tail.tail;have aI:B.f em n5 em (xl (sE (xs.headD gH)))=true:=by kernel_rfl
 have av:jg (KK P) ky (eE (nm 9))=d9 eh∧uV (eE (nm 9))=d9 (eK "range")∧eE (nm 9)≠"__name__":=⟨by kernel_rfl,by kernel_rfl,by decide+kernel⟩;have aJ:BO.e n5 (sB (xs.headD gH))=true:=by kernel_rfl
 refine vc (MW C.b.a (Y:=[nm 104]) (λbc hy=>by rw[gR.mp hy];exact ak 104 _ rfl) aU (Fi C.b.a G4.a (rT C.b.a (ak 9 _ rfl) (C.b.b▸av.1) av.2.1 av.2.2 ⟨rfl,(mM B).1 aI aG C λus a5 H5 p5 aj U=>?_⟩ (ju 9)) (mF B _)) λU=>rfl);clear U;obtain⟨u1,W,rfl,rfl,aj⟩ :=aj;clear U;obtain rfl:W=[]:=aj;refine fL (Ka (show 0≤1+r3 by lia)) λaV hm=>?_;rw[hm];refine⟨aV,rfl,by lia,LJ n a t H,⟨a5,_,[1],_,(C.e p5).g,aW.d p5,f4,{ L5 with a:=jX L5.a (by decide) },ig _⟩,λU U U U=>trivial,?_,?_⟩
 ·rintro g hT i aw H6 p R ⟨j,d,R6,Q,ae,K,f6,L6,aA⟩
  have aH:FR n H j d (eL Q 104 (.a i)) (ic aw (nm 104) (vi i)) H6:=ae.l (by decide) (ak 104 _ rfl) rfl (λh=>nB h) (λh=>nB h);exact QB (k:=k) (st:=gH) ((C.b.m hT.2).o) G4.e.i aJ (by kernel_rfl) (by kernel_rfl) (by kernel_rfl) aH.m.p K (f6.f (by decide)) L6 aA (by lia) λg' bq M q=>lB q.b λa' D R' A q=>⟨a',D,R',A,q.1.n.o,q.2⟩
 ·rintro g aw H6 hT ⟨j,d,R6,Q,ae,K,f6,L6,aA⟩ O6
  have b6:Bd (dd eb (k+6)) P em n5 (cg n g) H Q j d aw H6:=⟨C.b.m O6,ae.m,K.b⟩
  --return(aC,aY)
  refine b6.h f6.b λu1 Y U U n1=>?_
  (refine fe Y λe3 U=>?_;(clear Y;obtain rfl:=e3))
  refine b6.h f6.c λu2 v2 U u n2=>?_
  (refine eR (u rfl) λl e4 hl=>?_;(clear u;(clear U;obtain rfl:=e4)))
  refine vc (Bb O6 (yk (Bk (jk (n1 _ _ (jk (n2 _ _ (kA ⟨iO rfl,λaa hr=>?_⟩)) λU=>rfl)) λU=>rfl))));have aX:=K.d (.g (o:=.f [ec j.e,ec l]) K.b hr);exact hq j d _ R6 aa l aX { L6 with a:=by have:=L6.a;lia,b:=by have:=L6.b;lia } (by lia) (gA _ _ _) (v2.a (.g K.b hr) K.b) hl
end
section
variable{c:Cx}{V:eJ}{H M:AH}{P:iE}{d:ir}{Y:gZ}{B:AH}{F K:Fr}{a N:Ad}{t D I E:eB}{n C:Int}
noncomputable def iz:gZ:=[(107,ey),(98,ey),(66,fK),(103,ey),(108,ey),(109,ey),(53,ey),(100,ey),(110,ey),(111,ey),(56,ey),(104,ey),(65,ey),(57,ey),(42,eY),(39,eY),(30,eY),(40,eY),(13,eY),(14,eY),(26,eY),(28,eY),(41,eY),(44,eY),(9,eY),(43,eY),(18,eY),(0,eY),(38,eY)]
theorem Ix:(fD (eS 44)).names=(fM iz).names:=by kernel_rfl
theorem NU{y C:eP}{p d:fE}{Q:ed->AH->Prop}{l:et}{a:Array ed}(g:c.f.IsList l a)(f:a.size≤100000)
  (h:TE c y V H (λv Z=>v=ec l∧TE c C V Z (λk T=>∃n:Nat,k=vi n∧∀b,T b=eh->Q (ec b) (eQ T b (.a ((a.toList.map nv).take n)))))):
  TE c (pL y (xJ eh (d9 C) eh p) d) V H Q:=λE s S=>by
 refine KC (fc (h E s S) (λv j G=>?_) λU U x=>x);obtain⟨Z,m,N,G⟩ :=G;obtain rfl:=gX N;refine wpAny_Slice (iA (fc (G E j m) (λk K G=>iA ?_) λU U x=>x));obtain⟨T,r,n,z,G⟩ :=G;obtain⟨t,rfl⟩ :=um z;obtain⟨o,L,e,O,W⟩ :=g;obtain⟨_,F,_⟩ :=r.e;refine IM (P:=K) r (fQ o (F.keep _ _ L) e ⟨O,W⟩) rfl (by rw[fC,tj];exact f) .none (.int n t) .none (by decide) (A:=(a.toList.map nv).take n) (λa R=>?_) rfl G;rw[slicePick_upto',←R];simp
noncomputable def td:gZ:=[(48,ey),(112,ey),(4,eY)]
noncomputable def Uf:eP->eP
 |xJ _ (d9 u) _ _=>u
 |_=>fU
def PG(e:eP):Expr:=pL ((eW.a 107).u (x1 e)) (xJ eh (d9 ((eW.d 63).u (Uf (x2 e)))) eh (x2 e).pos) e.pos
def B3(e:eP):Expr:=pK ((eW.x 4 (.a 112)).u (x1 e)) [⟨jy 112 (xg e).target,PG (xg e).iter,[],0⟩] (fM td) e.pos
def PH(u:fG):Stmt:=lm [jy 98 (sT u)] (AM [B3 ((xl (sE u)).headD fU),(eW.d 0).u ((xl (sE u)).tail.headD fU)] (sE u).pos) u.pos
noncomputable def sd(i:Int):Int:=if i<0 then-i else i
def tI(S:List Int):eB:=⟨λU=>w0 0,0,[],0,0,0,0,0,S,0⟩
theorem Pw{X:List Int}{F:Array ed}{l:et}{e:eP}{Q:ed->AH->Prop}(S:jA d P em iz c)(g:c.b.handled=eh)(n:c.f.IsList l F)(R:F.toList.map nv=X.map vi)(t:X.length≤63)(v:c.a.kindOf (eE (nm 107))=d9 ey)(K:V (nm 107)=d9 (ec l))
  (G:∀M b,(∀x o,H x=d9 o->M x=d9 o)->M b=eh->Q (ec b) (eQ M b (.a ((X.map sd).map vi)))):TE c (B3 e) V H Q:=by
 have W:mf iz [112] td=true:=by kernel_rfl
 have f:F.size=X.length:=by rw[←tj,←fC (f:=nv),R,fC]
 refine E7 S.a (S.g rfl) (Gf λy B e=>?_) (λy B=>?_) (Y:=[nm 112]) (Og g (NU n (by lia) (tf S.a v K _ ⟨rfl,mC _ (eu 63 rfl (λb Y=>(fS b _ rfl (gA _ _ _) ?_)))⟩))) (λU=>rfl) (zN W) rfl (zO W)
 ·have:∀p∈(fM td).names,p.2≠gb:=by
   intro p J
   (refine fP J λq G O=>?_;(clear J;obtain rfl:=O))
   exact of_decide_eq_true (p:=∀q∈td,q.2≠gb) (by kernel_rfl) q G
  exact absurd e (this y B)
 ·obtain rfl:=gR.mp B
  exact(mW (ur W)).trans rfl
 rw[R,Ku (by rw[fC];exact t)];generalize I:eQ H b (.a (X.map vi))=Z;have O:∀x o,H x=d9 o->Z x=d9 o:=λx o h=>I▸rl Y x o h;have s:Z b=d9 (.a (X.map vi)):=I▸gA _ _ _;refine(eu (λi z M=>M=Z∧z=((X.take i).map sd).map vi∧i≤X.length) ⟨⟨rfl,rfl,pJ _⟩,?_,?_⟩ ?_)
 ·rintro i z M ⟨rfl,rfl,h⟩
  refine⟨s,?_⟩;rw[fC,fC,xw];lia
 ·rintro i z M C m r w L ⟨rfl,rfl,h⟩ E
  have L:i<X.length:=by simpa using L
  have N:∀j k,td.lookup j=d9 k->k≠gb->(cc c (fM td) (sI c.a.cells (fM td).names []) C m r).a.kindOf (eE (nm j))=d9 k:=λj k h u=>by
   have:=wg (C:=C) (m:=m) (r:=r) S W h;rw[if_neg u] at this;exact this
  have a:jg (KK P) ky (eE (nm 4))=d9 eh∧uV (eE (nm 4))=d9 (iP "abs")∧eE (nm 4)≠"__name__":=⟨by kernel_rfl,by kernel_rfl,by decide+kernel⟩;refine Bq ?_;rw[if_pos rfl];refine(tQ (f:=iP "abs") E rfl (rT E (N 4 _ rfl nofun) (by show jg c.e _ _=_;rw[S.b];exact a.1) a.2.1 a.2.2 ⟨rfl,rfl,λaa D=>HY D,.a,jk (tf (u:=vi X[i]) E (N 112 _ rfl nofun) ?_ _ (kA (Nc ⟨rfl,?_,L⟩))) λU=>rfl⟩ (ju 4)))
  ·show ic w _ _ _=_
   rw[wx,lD,lE,jF L];rfl
  ·rw[WE L,lb,lb];rfl
 ·rintro z M ⟨rfl,rfl,_⟩ T A
  rw[fC,WC];exact G M T O A
theorem Px{X:List Int}{F:Array ed}{l:et}{e:eP}{m:eP}{i:fE}{Q:ed->AH->Prop}(S:jA d P em iz c)(g:c.b.handled=eh)(C:c.f.IsList l F)(R:F.toList.map nv=X.map vi)(W:X.length≤63)(v:c.a.kindOf (eE (nm 107))=d9 ey)(K:V (nm 107)=d9 (ec l))
  (f:∀a M,(∀x o,H x=d9 o->M x=d9 o)->Wd M a (tI (X.map sd))->H a.f=eh->Q (ec a.f) M):TE c (AM [B3 e,(eW.d 0).u m] i) V H Q:=by
 refine Bi (jk (Pw S g C R W v K λZ D O Y=>jk (mC _ (kA ⟨iO rfl,λb j=>?_⟩)) λU=>rfl) λU=>rfl);have G:b≠D:=λe=>by rw[e,gA] at j;exact iX j
 have I:Z b=none:=(fw _ _ G).symm.trans j;have w:H b=none:=by
  cases q:H b with
  |none=>rfl
  |some o=>rw[O _ _ q] at I;exact iX I
 exact f ⟨b,b,b,b,D,λU=>b,λU=>b,λU=>b,λU=>b,λU=>b⟩ _ (λx o h=>rl j x o (rl Y x o (O x o h))) ⟨gA _ _ _,(fw _ _ (gM G)).trans (gA _ _ _),G,λh=>absurd h (by decide:¬5≤0)⟩ w
end
section
variable{c:Cx}{V:eJ}{H M:AH}{P:iE}{d:ir}{Y:gZ}{B:AH}{F K:Fr}{a N:Ad}{t D I E:eB}{n C:Int}
noncomputable def mh:gZ:=[(48,ey),(53,ey),(66,gb)]
noncomputable def Pu:eP->eP
 |qD k _ _ _ _=>k
 |_=>fU
noncomputable def Pv:eP->eP
 |qD _ v _ _ _=>v
 |_=>fU
noncomputable def B1:eP->Comprehension
 |qD _ _ [g] _ _=>g
 |_=>fU
noncomputable abbrev v6:eW:=.c (.a 66) 16
abbrev B4(f:Nat):eW:=.c (.n v6 (.a 53)) f
def OD(e:eP):Expr:=qD ((eW.a 53).u (Pu e)) ((eW.A (.a (B4 6) (.a (B4 7) .b))).u (Pv e)) [⟨jy 53 (B1 e).target,v6.u (B1 e).iter,[],0⟩] (fM mh) e.pos
def Fz(u:fG):Stmt:=lm [jy 100 (sT u)] (OD (sE u)) u.pos
def KT(H:AH)(g:Int->List Int):List Int->List (Int×ed)->Prop
 |[],A=>A=[]
 |n::X,A=>∃r W,A=(n,ec r)::W∧H r=d9 (.f ((g n).map vi))∧KT H g X W
variable{g:Int->List Int}
theorem KT.e(c:∀x A,H x=d9 (.f A)->M x=d9 (.f A)):∀{X:List Int} {A:List (Int×ed)},KT H g X A->KT M g X A:=by
 intro G
 induction G with
 |nil=>
  intro U a;exact a
 |cons U _ D=>
  intro U L;exact fT L λr W O a S=>⟨r,W,O,c _ _ a,D S⟩
theorem KT.h{n:Int}{r:et}(R:H r=d9 (.f ((g n).map vi))):∀{X:List Int} {A:List (Int×ed)},KT H g X A->KT H g (X++[n]) (A++[(n,ec r)]):=by
 intro G
 induction G with
 |nil=>
  intro U a;exact(fS r ([]) (by rw[show _=[] from a];rfl) R rfl)
 |cons U _ D=>
  intro U Z;exact fT Z λq W O a S=>⟨q,_,by rw[O];rfl,a,D S⟩
theorem KT.b:∀{X:List Int} {A:List (Int×ed)},KT H g X A->A.map (·.1)=X:=by
 intro G
 induction G with
 |nil=>
  intro U a;rw[show _=[] from a];rfl
 |cons U _ D=>
  intro U R;exact fT R λq W O a S=>by rw[O,gj,D S]
theorem KT.i{n:Int}{v:ed}{X:List Int}{A:List (Int×ed)}(c:KT H g X A)(W:n∉X):qu A n v=A++[(n,v)]:=by
 have:¬(A.any λo=>eU (o.1=n))=true:=λq=>by
  refine eR (Ay.mp q) λp J a=>?_;exact W (c.b▸(of_decide_eq_true a)▸jY J)
 exact if_neg this
theorem KT.f{X:List Int}{A:List (Int×ed)}(a:KT H g X A):A.length=X.length:=by rw[←a.b,fC]
theorem Ld:∀{l:List Int},gN H a t (l.map .a) (l.map vi):=by
 intro G
 induction G with
 |nil=>
  exact rfl
 |cons U _ D=>
  exact(fS _ _ rfl rfl D)
theorem LB:∀{X:List Int} {A:List (Int×ed)},KT H g X A->jJ H a t (X.map λn=>(n,tp (g n))) A:=by
 intro G
 induction G with
 |nil=>
  intro U h;exact h
 |cons U _ D=>
  intro U Z;exact fT Z λq W O h S=>⟨_,_,O,⟨q,_,rfl,h,Ld⟩,D S⟩
theorem CM{L:Type}{f:Int->L}:∀{l:List Int} {n:Int},n∈l->(l.map λn=>(n,f n)).lookup n=d9 (f n)
 |x::r,n,h=>by
  rw[gj,iw];cases e:n==x with
  |true=>rw[beq_iff_eq.mp e]
  |false=>exact CM ((gy.mp h).resolve_left λq=>by rw[q,beq_self_eq_true] at e;exact CE e)
theorem N9{O:List fG}{z:et}{o:fN}{P:List (Int×ed)}{Q:gr->eJ->AH->Prop}(p:H z=d9 (.c o))(D:OR c.l c.k (.e P) o)(h:TS c O V (eQ H z (.e P)) Q):TS c O V H Q:=λE s S=>by
 refine h E s (St.y (o:=o) ?_ D);rw[JW p];exact S
theorem tU.h{f:String}{x C z:et}{B:List (String×ed)}{u:ed}{b:Cx}(h:tU c H f x C z B u)(F:b.e=c.e)(e:∀x o,H x=d9 o->(∀k,o≠.e k)->M x=d9 o):tU b M f x C z B u:=
 ⟨e _ _ h.b nofun,e _ _ h.e nofun,h.g,by have:=h.d;unfold CA at this ⊢;rw[F];exact this,h.a⟩
theorem E6{f:Nat}{e:eW}{X C z:et}{B:List (String×ed)}{u:ed}{y:eP}{Q:ed->AH->Prop}(O:c.d)(J:e.Q=eb)(g:tU c M (gf f) X C z B u)(n:∀R:ed->AH->Prop,R (ec X) M->TE c (e.u (x1 y)) V H R)(G:Q u M):TE c ((eW.c e f).u y) V H Q:=
 qP O (wO J _) (n _ ⟨X,C,z,B,u,rfl,g.b,g.e,g.g,g.d,g.a,G⟩)
def ui(t:eB):List (Int×eT):=t.b.map λn=>(n,tp [sz t 0 n,sz t 1 n])
theorem OF{u:fG}{aq:List fG}{Q:gr->eJ->AH->Prop}(b:Bd d P em iz c (λU=>eh) F a t V H)(hh:c.b.handled=eh)(aG:u=Fz u)(hl:((sT u).pos.line==(sE u).pos.line)=eb)(aC:v6.y em iz em (B1 (sE u)).iter=eb)(aa:F 66=d9 (.b .c))(h7:t.g=7)(aK:t.b.length≤100)
  (hq:∀s au M,Bd d P em iz c (λU=>eh) (eL F 100 (.g eb (ui t))) s t au M->fk a t H s t M->TS c aq au M Q):TS c (u::aq) V H Q:=by
 have W:mf iz [53] mh=true:=by kernel_rfl
 have aI:((fM mh).names.any λ(n,k)=>n==eE (nm 100)&&(k==ey||k==fK))=false:=by kernel_rfl
 rw[aG];refine b.h aa λu0 v0 aF U U=>?_
 (refine fe v0 λe1 J=>?_;(clear v0 aF;(clear U;clear U;obtain rfl:=e1)))
 have ev:Ev d t F v6 .j t:=ji (f:=0) (v:=.j) aa rfl h7;refine kI (MO b.b.a (b.b.g rfl) ?_ (b.b.e 100 _ rfl) (CW b W) (λy hy=>?_) (Oe hh ((fR v6).1 aC ev b λu1 O Z p af U=>?_)) (λU=>rfl) (zN W) rfl (zO W))
 ·show(f9 (c.a.blockKind==jH&&c.a.kindOf (eE (nm 100))==d9 ey&&(sT u).pos.line==(sE u).pos.line&&!((fM mh).names.any λ(n,k)=>n==eE (nm 100)&&(k==ey||k==fK))):Sem Bool)=f9 eb
  rw[aI,b.b.j,b.b.e 100 _ rfl,hl];rfl
 ·obtain rfl:=gR.mp hy
  exact(mW (ur W)).trans rfl
 (refine fe af λm U=>?_;(clear af;obtain rfl:=m))
 have b1:=b.e p;have X:=p.b.b J;refine b1.h aa λu2 v2 aE U U=>?_
 (refine fe v2 λe3 U=>?_;(clear v2;obtain rfl:=e3))
 refine kB (aE.resolve_left λq=>by
  have:=b.b.e 66 _ rfl;rw(occs:=eO) [q.1] at this;cases this) λaL ad cl aB=>?_
 refine(kK O.c _ rfl X.h X.c (λo ho U=>?_));generalize N:eQ Z O.c (.c o)=Hr;have g:∀x w,Z x=d9 w->(∀k,w≠.e k)->Hr x=d9 w:=λx w K I=>by
  rw(occs:=eO) [←N,fw _ _ λe=>?_]
  ·exact K
  ·rw(occs:=eO) [e,X.c] at K;exact I _ (eX K).symm
 have l:Hr O.c=d9 (.c o):=N▸gA _ _ _;refine v8 (f:=16) b.b.b p.b (v:=.b .c) ⟨rfl,J⟩ (b:=.j) (show t.n[0]? =d9 .j by rw[v9 h7];rfl) λx0 C0 d0 f0 w0 e0 gT vT U=>?_;cases e0
 (refine fe vT λe4 U=>?_;(clear vT;obtain rfl:=e4))
 refine(eu (λi z M=>(∀x w,Hr x=d9 w->M x=d9 w)∧KT M (λn=>[sz t 0 n,sz t 1 n]) (t.b.take i) z) ⟨⟨λU U h=>h,rfl⟩,?_,?_⟩ ?_)
 ·rintro i z M ⟨e,k⟩
  refine⟨e _ _ l,?_⟩;rw[k.f,xw];lia
 ·rintro i z M C v r av L ⟨e,S⟩ O2
  rw[fC] at L;have kk:∀j k,mh.lookup j=d9 k->(cc c (fM mh) (ki c mh) C v r).a.kindOf (eE (nm j))=d9 (if k=gb then fK else k):=λj k h=>wg b.b W h;have ag:=kk 53 _ rfl;have aj:=kk 66 _ rfl;have aw:(cc c (fM mh) (ki c mh) C v r).a.cells.lookup (eE (nm 66))=d9 ad:=BY cl (eH (Ch (C:=C) (m:=v) (r:=r) b.b W aj).2);have hn:t.b[i]∈t.b:=uG L;generalize ac:t.b[i]=n at hn;have aD:=X.f n hn;have ak:ic av (nm 53) (ej (((t.b.map λn=>(n,ec (O.b n))).map (·.1)).getD i 0) 0) (nm 53)=d9 (vi n):=by
   rw[wx,gJ,lD,lE,jF L,ac];rfl
  have ae:∀{f:Nat} {G:Int} {y:eP} {T:AH} {Q:ed->AH->Prop},((t.a n).n n t.h)[f]? =d9 (.a G)->(∀x w,Hr x=d9 w->T x=d9 w)->Q (vi G) T->TE (cc c (fM mh) (ki c mh) C v r) ((B4 f).u y) (ic av (nm 53) (ej (((t.b.map λn=>(n,ec (O.b n))).map (·.1)).getD i 0) 0)) T Q:=by
   intro f G y T Q A m hQ;refine v8 (f:=f) b.b.b p.b (v:=.b (.d n)) ⟨rfl,J,aD⟩ (b:=.a G) A λx1 C1 d1 f1 w1 e1 gW vW U=>?_;cases e1;obtain rfl:w1=vi G:=vW;refine E6 O2 rfl (gW.h (b:=cc c (fM mh) (ki c mh) C v r) rfl λx o K I=>m _ _ (g _ _ K I)) (λaJ hR=>?_) hQ;refine Bj (E6 O2 rfl (gT.h (b:=cc c (fM mh) (ki c mh) C v r) rfl λx o K I=>m _ _ (g _ _ K I)) (λR' aA=>E4 O2 aj aw (m _ _ (g _ _ aB nofun)) aA (ju 66)) (lr O2 ag ak (Oi (m _ _ l) ho (CM hn) hR λU U=>rfl) (ju 53)))
  refine Bq ?_;rw[if_pos rfl];refine lr O2 ag ak (eu n rfl (Bk (jk (ae (f:=6) (G:=sz t 0 n) rfl e (jk (ae (f:=7) (G:=sz t 1 n) rfl e (kA ⟨iO rfl,λaM R=>?_⟩)) λU=>rfl)) λU=>rfl))) (ju 53);have aH:n∉t.b.take i:=by
   have:=X.g.1;rw[←tt i t.b,qC] at this;exactλq=>this.2.2 n q n (ac▸Ke L▸gp ..) rfl
  refine⟨λx w h=>rl R x w (e x w h),?_⟩;rw[S.i aH,WE L,ac];exact(S.e λx us h=>rl R x _ h).h (gA _ _ _)
 ·rintro z M ⟨e,S⟩ D Y az
  rw[fC,WC] at S;have nD:D≠O.c:=λq=>by rw[q,e _ _ l] at Y;exact iX Y
  refine N9 (z:=O.c) (o:=o) ((fw _ _ (gM nD)).trans (e _ _ l)) ho ?_;have ext:∀x w,Z x=d9 w->eQ (eQ M D (.e z)) O.c (.e (t.b.map λn=>(n,ec (O.b n)))) x=d9 w:=λx w hx=>by
   by_cases q:x=O.c
   ·rw(occs:=eO) [q,gA,←X.c,←hx,q]
   ·rw[fw _ _ q]
    exact rl Y x w (e _ _ (N▸(fw _ _ q).trans hx))
  have p2:=fk.j p.b ext;have p3:=p.d p2;have B:Z D=none:=by
   cases q:Z D with
   |none=>rfl
   |some w=>have:=e D w (N▸(fw _ _ nD).trans q);rw(occs:=eO) [Y] at this;exact nS this
  refine hq O _ _ ⟨b.b,(b1.e p2).g.l (v:=.g eb (ui t)) (by decide) (b.b.e 100 _ rfl) (Ce D z rfl ((fw _ _ nD).trans (gA _ _ _)) (LB (S.e λx us h=>?_)) az (λq=>?_) (λU q=>?_)) (λU=>(eu D rfl rfl)) (λU j w U hw hj U=>u8 b1 p2 B hw hj),p2.b⟩ p3
  ·rw(occs:=eO) [fw _ _ λq=>?_]
   ·exact rl Y x _ h
   ·rw(occs:=eO) [q,e _ _ l] at h;cases h
  ·exact A7 p.b B q
  ·exact A9 p.b B q
end
section
variable{c:Cx}{V:eJ}{H M:AH}{P:iE}{d:ir}{Y:gZ}{B:AH}{F K:Fr}{a N:Ad}{t D I E:eB}{n C:Int}{T:Int->Nat}
theorem Bl{s:js}{r:Ss}{z:List fG}{Q:gr->eJ->AH->Prop}(X:s.G Y (z.headD gH)=eb)(h:Ex d t F s .a E K)(b:Bd d P em Y c B F a t V H)(e:fk N I B a t H)
  (k:∀O w Z,Bd d P em Y c B K O E w Z->fk N I B O E Z->TS c (r.d z.tail) w Z Q):TS c ((Ss.a s r).d z) V H Q:=by
 refine kI (yf s X h b e λg O w Z p y=>?_);rw[show g=fY from y];exact k O w Z (p.g b) p.a
theorem yn{s:js}{r:Ss}{z:List fG}{Q:gr->eJ->AH->Prop}(X:(Ss.a s r).e Y z=eb)(h:Ex d t F s .a E K)(b:Bd d P em Y c B F a t V H)(e:fk N I B a t H)
  (k:r.e Y z.tail=eb->∀O w Z,Bd d P em Y c B K O E w Z->fk N I B O E Z->TS c (r.d z.tail) w Z Q):TS c ((Ss.a s r).d z) V H Q:=
 let⟨A,f⟩ :=m9.mp X;Bl A h b e (k f)
abbrev zm:js:=.j [56] (.a (.A (.a (.w 13) (.a (.w 14) .b)))) (.a z8 .b)
theorem OP{u:fG}{k:Nat}{aa:List (Int×eT)}{o:Int->Int->Int}{ac:gr->eJ->AH->Prop}(b:Bd (dd eb (k+65)) P em iz c B F a t V H)(hh:c.b.handled=eh)(aj:(eW.A (.a (.w 13) (.a (.w 14) .b))).y em iz em (sE u)=eb)(ak:(Ss.a z8 .b).e iz (sB u)=eb)
  (S:fk N I B a t H) (h:Gx t T 0 0) (hb:∀n∈t.b,T n<61) (ag:F 66=d9 (.b .c)) (af:F 100=d9 (.g eb aa)) (z:∀x∈t.b,aa.lookup x=d9 (.f [.a (o 0 x),.a (o 1 x)]))
  (p:∀C,Ax C->∀x∈t.b,Dn t T C (o C) (sz t C) x∧LL t T C x≤o C x∧o C x≤100)
  (G:∀s F' l M,Bd (dd eb (k+65)) P em iz c B F' s t l M->fk N I B s t M->(∀j,j≠56->F' j=F j)->ac fY l M):T1 c (zm.v u) V H ac:=by
 have ev:Ev (dd eb (k+65)) t F (.A (.a (.w 13) (.a (.w 14) .b))) (.b (.f [.a 0,.a 1])) t:=kg (J:=[.a 0,.a 1]) rfl rfl (iO rfl);refine Ba b.b.a (Y:=[nm 56]) (λaz hy=>by rw(occs:=eO) [gR.mp hy];exact b.b.e 56 _ rfl) (Oh hh ((fR _).1 aj ev b λaw O Z ae hv U=>?_)) (λU=>rfl);clear U;obtain⟨r,us,rfl,R,u1,ws,rfl,e1,u2,au,rfl,m,W⟩ :=hv;obtain rfl:=(show u1=vi 0 from e1);obtain rfl:=(show u2=vi 1 from m);obtain rfl:=(show au=[] from W);have d:=b.e ae;have s1:=S.d ae;have Y:=d.g;have w1:=d.f;have g:jV c B F V Z r=d9 (.f [vi 0,vi 1]):=by
  rw(occs:=eO) [wS λq=>?_]
  ·exact R
  ·(refine gY (zA Y q) λU U g1=>?_;refine eR g1 λav K h2=>?_)
   rw[R] at K;exact h2 _ (eX K).symm
 have w:=Ir Y s1;have D:∀x,jV c B F V Z x=eh->B x=none:=λx hx=>w.h hx;refine(fS r _ rfl R (lO (λi l M=>∃s F',FR c (jV c B F V Z) s t F' l M∧fk O t (jV c B F V Z) s t M∧∀j,j≠56->F' j=F j) (fS O F (Ip Y (b.b.g rfl)) (.j (wT Y w1) (λU U=>Iq)) (λU U=>rfl)) ?_ ?_ ?_))
 ·rintro i l M ⟨s,F',_,X,_⟩
  exact X.f _ _ g (nE (wT Y w1) g rfl)
 ·rintro i l M p' hi ⟨s,F',Q,X,e⟩
  have hi:i<2:=hi;have L:([vi 0,vi 1]:List ed).getD i ez=vi i:=by
   rcases i with _|_|i
   ·rfl
   ·rfl
   ·lia
  have ai:Ax (i:Int):=by
   clear L;rcases i with _|_|i
   ·exact eH rfl
   ·exact eI rfl
   ·lia
  show TS _ _ (ic l (nm 56) (([vi 0,vi 1]:List ed).getD i ez)) _ _;rw[L];have f:FR c (jV c B F V Z) s t (eL F' 56 (.a i)) (ic l (nm 56) (vi i)) M:=Q.l (by decide) (b.b.e 56 _ rfl) rfl (λh=>nB h) (λh=>nB h);refine yn (K:=eL F' 56 (.a i)) ak (UN (k:=k) (P:=aa) (o:=o) h hb ai ((e 66 (by decide)).trans ag) rfl ((e 100 (by decide)).trans af) z (λx hx=>(p _ ai x hx).1) λx hx=>(p _ ai x hx).2) ⟨b.b.o,f.p,X.b⟩ X λU v aA H2 y aq=>qS (fS v _ y.g.n aq (λj J=>(if_neg J).trans (e j J)))
 ·rintro l M ⟨s,F',Q,X,e⟩
  exact G s F' l M ⟨b.b,Q.z D,X.b⟩ (w.d X) e
end
section
variable{c:Cx}{V:eJ}{H M:AH}{P:iE}{d:ir}{Y:gZ}{B:AH}{F K:Fr}{a N:Ad}{t D I E:eB}{n C:Int}{T:Int->Nat}{R:List Int}
noncomputable abbrev Ge:eW:=.j 26 (.a (.a 66) (.a (.a 108) (.a (.a 109) .b)))
def JU(u:fG):Stmt:=uT [(js.h Ge).v ((tB u).headD gH),z7.v ((tB u).tail.headD gH),zm.v ((tB u).tail.tail.headD gH)] [uP (d9 (gk (ei "LispSignal") (tH u).1)) eh [y8.v ((tH u).2.1.headD gH)] (tH u).2.2] [] [] u.pos
theorem Lw.j{A:Nat}{K:Int}(L:Lw t R A K)(G:Gx t T 0 0)(w:Gx D T 0 0)(U:Kp 0 t D)(i:D.b=t.b):Lw D R A K:=by
 have s:t.i∈D.b:=i▸L.c;refine⟨⟨T,w⟩,U.b▸s,?_,L.e.f U,U.c▸L.h,U.c▸L.a,U.d▸L.i,i▸L.b⟩;rw[U.b];rcases U.a _ s with ⟨_,e,_⟩ |⟨l,_⟩
 ·exact e.trans L.g
 ·exact absurd (G.g _ L.c).2 (rF.2 l)
theorem FR.G{e:et}{v:fN}{J:Array ed}(f:FR c B a t F V H)(K:H e=d9 (.c v))(I:v.data=fB J)(g:J[2]? =d9 ez):FR (Internal.rj c e) B a t F V H:=⟨f.h,f.d,f.f,f.inj,Lx K I g⟩
theorem FR.L{e:et}(f:FR (Internal.rj c e) B a t F V H)(h:kJ c.b H):FR c B a t F V H:=⟨f.h,f.d,f.f,f.inj,h⟩
theorem S0{A:Nat}{Bo q z:Int}{u:fG}{k:Bool}{Q:gr->eJ->AH->Prop}(b:Bd (dd eb 70) P em iz c B F a t V H)(S:fk N I B a t H)(G:Gn c 80)(aC:c.o=[])(aB:∀a o,¬c.j a o)(aD:u=JU u)
  (av:Ge.y em iz em (sE ((tB u).headD gH))=eb) (f:(Ss.a z7 (.a zm .b)).e iz (tB u).tail=eb) (aw:(eW.A (.a (.w 13) (.a (.w 14) .b))).y em iz em (sE ((tB u).tail.tail.headD gH))=eb) (az:(Ss.a z8 .b).e iz (sB ((tB u).tail.tail.headD gH))=eb) (aA:(Ss.a y8 .b).e iz (tH u).2.1=eb)
  (ac:Lw t R A Bo) (O:Gx t T 0 0) (hb:∀n∈t.b,T n<61) (hw:q≤100) (g:z≤100) (he:k=(eU (LL t T 0 t.d≤q)&&eU (LL t T 1 t.d≤z))) (J:F 66=d9 (.b .c)) (W:F 108=d9 (.a q)) (ae:F 109=d9 (.a z)) (y:F 111=d9 (.d k)) (aq:F 110=d9 (.b (CF t T))) (ak:F 100=d9 (.g eb (ui t)))
  (hq:∀a' D F' l M,Bd (dd eb 70) P em iz c B F' a' D l M->fk N I B a' D M->Lw D R A Bo->(∀j,j≠56->F' j=F j)->Q fY l M):T1 c u V H Q:=by
 rw[aD];have ev:lV (dd eb 70) t F (.a (.a 66) (.a (.a 108) (.a (.a 109) .b))) [.b .c,.a q,.a z] t:=eV (ip J) (eV (fu W) (eV (fu ae) fJ));refine MU (C:=38) (N:=37) (n:=35) (X:=λl aa M=>k=em∧l=V∧XQ a t H t aa M) b.b.a G.d G.h (by unfold fo;rw[aC];rfl) G.g G.f (b.b.b▸zQ) (b.b.b▸(by kernel_rfl:jg (KK P) ky (ei "LispSignal")=some (some (.ref 38)))) (b.b.e 44 _ rfl) (by kernel_rfl) aB ?_ (λU U U h=>h.2.2.1) ?_
 ·refine Fe (EP (Fb av ev b λus a1 H1 p hv=>?_) b.b.h rfl)
  cases e:k with
  |false=>
   refine(S2 (k:=75) b.b.b b.b.a G.b G.a G.d p.b hv O ?_).b λaa H2 h=>⟨rfl,rfl,vd p _ _ h⟩;rw[e] at he;rcases Bool.and_eq_false_iff.mp he.symm with h|h
   ·rw[decide_eq_true (rF.mp (of_decide_eq_false h))];rfl
   ·rw[decide_eq_true (rF.mp (of_decide_eq_false h))];exact pG _
  |true=>
   rw[e] at he y;refine fq he.symm λw q2=>?_
   (refine un (SZ (g:=0) (k:=66) O ⟨of_decide_eq_true w,hw⟩ ⟨of_decide_eq_true q2,g⟩) λt2 aE X po kp hz g1=>?_;refine fe g1 λi hd=>?_)
   have x:=ac.j O X kp i;refine EZ (qf qj 70 c b.b.b b.b.a (G.b.g (by decide)) (λU=>G.a) _ _ _ _ _ aE _ _ _ _ _ p.b (.a G.a) hv λaG a2 H2 m U U=>Ff ?_);have b2:=(b.e p).e m;have au:∀n∈t2.b,T n<61:=i▸hb;refine yn (s:=z7) (r:=.a zm .b) (z:=(tB u).tail) f (UM (k:=67) X po x.c x.g J y W ae hz) b2 ((S.d p).d m) λU a3 aj L K s3=>?_;refine kI (OP (k:=5) (o:=sz t) K G.a aw az s3 X au J ak (λag Z=>CM (i▸Z)) (λC Z ag Y=>?_) λr F4 aF H4 b4 s4 e4=>qS (hq r t2 F4 aF H4 b4 s4 x e4));refine fe (hd C Z ag (i▸Y)) λd1 d2=>?_;exact⟨d1,d2▸O.U Z (i▸Y),O.W Z (i▸Y)⟩
 ·rintro l M e v vs ⟨e0,rfl,_,a1,af⟩ hn h1 h2
  have p:=af.d (.g (o:=.c v) af.b hn);have d:=b.e p;have cx:jA (dd em 70) P em iz (Internal.rj c e):=⟨b.b.b,b.b.a.n,b.b.h,b.b.j,b.b.e,(λh=>nB h),b.b.g,70,(⟨(G.b.g (m:=70) (by decide)).b,(G.b.g (m:=70) (by decide)).a⟩ :Lv (Internal.rj c e) 70),qf qj 70⟩;refine yn (s:=y8) (r:=.b) (z:=(tH u).2.1) aA (Qf (k:=67) O hb J (e0▸y) aq) ⟨cx,d.g.G (gA _ _ _) h1 h2,d.f⟩ (S.d p) λU a3 aj L K s3=>qS (hq a3 t F aj L ⟨b.b,K.g.L (.a G.a),K.f⟩ s3 ac λU U=>rfl)
noncomputable abbrev yO:eW:=.j 42 (.a (.a 98) .b)
abbrev Cq:eW:=.D oM (.a (ge 108 13) (.a (ge 109 14) .b))
noncomputable abbrev zl:js:=.a 110 (.j 30 (.a (.a 66) .b))
abbrev OU:Ss:=.a .p (.a (.l em [66,103] yO) (.a zk (.a .p (.a zl (.a (.a 111 Cq) (.a .p (.a (.j [104] (.a (.j 9 (.a (.d 2) .b))) (.a zq .b)) wm)))))))
theorem Vu:OU.d (fj (eS 44))=fj (eS 44):=by kernel_rfl
abbrev Dc(i:Nat):Stmt:=((fj (eS 44)).drop i).headD gH
noncomputable abbrev B0:AH:=λU=>eh
theorem O9(w:Wd H a t)(J:t.g<5):fk a t B0 a t H:=
 ⟨w,(by intro _ _ h;exact nS h),(by intro _ _ h;exact nS h),λU U=>eI rfl,λU U=>eI rfl,rfl,rfl,rfl,λh=>absurd h (by lia)⟩
theorem QC{u:fG}{d:Nat}{K:Int}{k:gr->eJ->AH->Prop}(b:Bd (dd eb 70) P em iz c B0 F a t V H)(E:fk N I B0 a t H)(g:c.b.handled=eh)(z:(Ss.a zq .b).e iz (sB u)=eb)
  (L:Lw t R d K) (Y:K≤8000) (r:R.length≤900) (w:F 66=d9 (.b .c)) (C:F 98=d9 .h) (Z:F 103=d9 (.c eb (eF R.reverse)))
  (G:∀s D A l M,Bd (dd eb 70) P em iz c B0 A s D l M->fk N I B0 s D M->Lw D R d (K+4)->(∀j,j≠104->A j=F j)->k fY l M):T1 c ((js.j [104] (.a (.j 9 (.a (.d 2) .b))) (.a zq .b)).v u) V H k:=by
 have O:jg (KK P) ky (eE (nm 9))=d9 eh∧uV (eE (nm 9))=d9 (eK "range")∧eE (nm 9)≠"__name__":=⟨by kernel_rfl,by kernel_rfl,by decide+kernel⟩;refine Ba b.b.a (Y:=[nm 104]) (λaa B=>by rw[gR.mp B];exact b.b.e 104 _ rfl) (Fi b.b.a g (rT b.b.a (b.b.e 9 _ rfl) (b.b.b▸O.1) O.2.1 O.2.2 ⟨rfl,jk (mC _ (kA (fQ 2 rfl (by decide) ?_))) λU=>rfl⟩ (ju 9)) rfl) (λU=>rfl);refine(lO (λi l M=>∃s D A,FR c B0 s D A l M∧fk N I B0 s D M∧Lw D R d (K+2*i)∧∀j,j≠104->A j=F j) (ph a t F b.g E ({ L with a:=by have:=L.a;lia }) (λU U=>rfl)) (λU U U U=>trivial) ?_ ?_)
 ·rintro i l M p hi ⟨s,D,A,Q,X,q,e⟩
  have f:FR c B0 s D (eL A 104 (.a i)) (ic l (nm 104) (vi i)) M:=Q.l (by decide) (b.b.e 104 _ rfl) rfl (λh=>nB h) (λh=>nB h);refine eR (QG (F:=eL A 104 (.a i)) (k:=65) q (by lia) r ((e 66 (by decide)).trans w) ((e 98 (by decide)).trans C) ((e 103 (by decide)).trans Z)) λW m x=>?_;refine yn (K:=eL A 104 (.a i)) z m ⟨b.b.o,f.p,X.b⟩ X λU v n T y o=>qS (ph v W _ y.g.n o ?_ (λj J=>(if_neg J).trans (e j J)));rw[show K+2*((i+1:Nat):Int)=K+2*i+2 by lia];exact x
 ·rintro l M ⟨s,D,A,Q,X,q,e⟩
  exact G s D A l M ⟨b.b,Q,X.b⟩ X q e
theorem QE{z:List fG}{A:Nat}{K:Int}{Q:gr->eJ->AH->Prop}(b:Bd (dd eb 70) P em iz c B0 F a t V H)(S:fk N I B0 a t H)(X:wm.e iz z=eb)(L:Lw t R A K)(i:K≤8000)(J:F 66=d9 (.b .c))(C:F 98=d9 .h)
  (G:∀l M,Q (iV (fF eb)) l M):TS c (wm.d z) V H Q:=by
 refine uo (QH (k:=66) L i J C) λD f d=>?_;refine qO wm X d b S λg s l T p y=>?_
 (refine f5 y λu O e U=>?_;(clear y;obtain rfl:=O))
 rw[show u=fF eb from e];exact G _ _
theorem QI{l ad:et}{X:List Int}{F:Array ed}{Q:gr->eJ->AH->Prop}(S:jA (dd eb 70) P em iz c)(G:Gn c 80)(r:c.o=[])(aZ:∀a o,¬c.j a o)(hl:c.f.IsList l F)(hi:F.toList.map nv=X.map vi)(W:X.length≤63)(aS:V (nm 107)=d9 (ec l))
  (ak:∀x,c.a.kindOf x=d9 fK->x=eE (nm 66)) (aY:c.a.cells.lookup (eE (nm 66))=d9 ad) (aU:H ad=d9 (.g eh)) (hq:∀bq M,Q (iV (fF eb)) bq M):TS c (fj (eS 44)) V H Q:=by
 have af:=S.a;have kd:=S.e;rw[←Vu]
 --aP=[..]
 have bh:Dc 0=PH (Dc 0):=by kernel_rfl
 refine kI ?_;show T1 c (Dc 0) _ _ _;rw[bh];refine tM (Px S G.a hl hi W (kd 107 _ rfl) aS λa H1 ext au bG=>?_) rfl;have b0:Bd (dd eb 70) P em iz c B0 (λU=>eh) a (tI (X.map sd)) V H1:=⟨S,⟨λU U h=>nS h,λU U U U U U h=>nS h,λx hx=>(fS ad eh (by rw[ak x hx];exact aY) (ext _ _ aU) (λU=>rfl)),λx bo U hx hy U U=>(ak x hx).trans (ak bo hy).symm,.a G.a⟩,au⟩;refine qR (i:=98) (v:=.h) b0 (O9 au (show 0<5 by decide)) (by kernel_rfl) rfl (λh=>nB h) (λh=>nB h) λaF H2 U w=>?_;have O:Internal.oG (λU=>eh) 98 .h=eL (λU=>eh) 98 .h:=rfl;rw[O] at w;have b1:Bd (dd eb 70) P em iz c B0 (eL (λU=>eh) 98 .h) a (tI (X.map sd)) aF H2:=⟨S,w.d,w.a.b⟩
 --bS,bT=bB(aP)
 let aa:=(fj (eS 44)).tail;have aV:yO.y em iz em (sE (aa.headD gH))=true:=by kernel_rfl
 refine kI (yj (tQ af (mF _ _) (BW aV (eV (fg (v:=.h) rfl) fJ) b1 λus a2 H3 p hv=>yl ?_)) (nY (e:=yO) rfl (sE (aa.headD gH)) (d9 (iD (jU [66,103] (xl (sT (aa.headD gH)))) (xk (sT (aa.headD gH))) (sT (aa.headD gH)).pos)) (aa.headD gH).pos.line c.a) (zU (e:=yO) rfl _ _ _ _ _));obtain⟨u1,ws,rfl,rfl,hv⟩ :=hv;obtain rfl:ws=[]:=hv;refine Pb (k:=73) S.b af G.b G.a G.d r G.g G.f p.b (show 0<5 by decide) ⟨ja 0,(by decide:(0:Int)≤10)⟩ (by show(X.map sd).length≤100;rw[fC];lia) λY C A R bN l3 aC L3 hR hr aB bI=>?_;have K:=(b1.e p).e aC;have s3:=((w.a.d p).d aC);have h7:C.g=7:=let⟨_,g⟩ :=L3.d;g.f;refine Bc G.a hr rfl rfl ?_;refine K.g.g _ (kd 66 _ rfl) λaw v0 g1 g2 g3=>?_;refine tP (Fc af (kd 66 _ rfl) g1 g2 ?_);have f4:=K.g.C (i:=66) (v:=.b .c) (u:=ec Y.e) (by decide) (kd 66 _ rfl) g1 g2 ⟨rfl,by lia⟩ (λh=>nB h) (λh=>nB h);have s4:=s3.s (o:=.g (d9 (ec Y.e))) rfl (A8 s3.b g2 rfl);have b4:Bd (dd eb 70) P em iz c B0 (eL (eL (λU=>eh) 98 .h) 66 (.b .c)) Y C aF (eQ A aw (.g (d9 (ec Y.e)))):=⟨S,f4,s4.b⟩;have v4:VR (eQ A aw (.g (d9 (ec Y.e)))) Y C (.c eb (eF R.reverse)) (ec l3):=by
  refine VR.m (b:=.g v0) g2 (λus e=>by cases e) aB λU e=>?_;refine fT aB λaq us O m U=>?_;rw[e] at O;(clear U;cases O);rw[g2] at m;cases m
 refine tP (qR (i:=103) b4 s4 (by kernel_rfl) v4 (λU=>(eu l3 rfl rfl)) (λU bK au k D U=>?_) λbu H5 U q5=>?_)
 ·unfold eL at k
  split at k
  ·obtain rfl:=eX k;exact nB D
  ·split at k
   ·obtain rfl:=eX k;exact nB D
   ·exact nS k
 have e5:Internal.oG (eL (eL (λU=>eh) 98 .h) 66 (.b .c)) 103 (.c eb (eF R.reverse))=eL (eL (eL (λU=>eh) 98 .h) 66 (.b .c)) 103 (.c eb (eF R.reverse)):=rfl;rw[e5] at q5;generalize aj:eL (eL (eL (λU=>eh) 98 .h) 66 (.b .c)) 103 (.c eb (eF R.reverse))=b at q5;have b5:Bd (dd eb 70) P em iz c B0 b Y C bu H5:=⟨S,q5.d,q5.a.b⟩;have J:b 66=d9 (.b .c):=aj▸rfl;have ag:b 98=d9 .h:=aj▸rfl;have aR:b 103=d9 (.c eb (eF R.reverse)):=aj▸rfl
 --bU,bH
 let u:=aa.tail;have aW:zk.G iz (u.headD gH)=true:=by kernel_rfl
 refine mX (QF (k:=69) L3 (by decide) ag) λq z d x6 t k hh=>?_;refine Bl (z:=u) (s:=zk) (K:=fV b [109,108] [.a z,.a q]) aW x6 b5 q5.a λa6 bX H6 b6 i=>?_
 --bF
 let n:=u.tail;have bj:n.headD gH=Fz (n.headD gH):=by kernel_rfl
 have aT:d.g=7:=let⟨_,g⟩ :=t.d;g.f;refine OF (u:=n.headD gH) b6 G.a bj (by kernel_rfl) (by kernel_rfl) J aT (by have:=t.b;lia) λa7 bY H7 b7 p7=>?_;have s7:=i.d p7
 --bL
 let av:=n.tail;refine fL t.d λbO G0=>?_;refine eR G0.aj λT N j=>?_;have aX:zl.G iz (av.headD gH)=true:=by kernel_rfl
 have x8:Ex (dd eb 70) d (eL (fV b [109,108] [.a z,.a q]) 100 (.g eb (ui d))) zl .a d (eL (eL (fV b [109,108] [.a z,.a q]) 100 (.g eb (ui d))) 110 (.b (CF d T))):=
  fO (gI (eV (ip J) fJ) (BZ (Q:=eb) (k:=67) N.y N.h)) rfl
 refine Bl (z:=av) (s:=zl) aX x8 b7 s7 λa8 aH H8 b8 s8=>?_
 --bJ
 let ac:=av.tail;let s:=eL (eL (fV b [109,108] [.a z,.a q]) 100 (.g eb (ui d))) 110 (.b (CF d T));have aA:(ge 108 13).y em iz em ((xl (sE (ac.headD gH))).headD fU)=eb∧(ge 109 14).y em iz em ((xl (sE (ac.headD gH))).tail.headD fU)=true:=⟨by kernel_rfl,by kernel_rfl⟩;have v1:=GR (b:=0) (B:=0) (F:=s) (m:=q) (k:=9) N j (eH rfl) (i:=108) (g:=13) J rfl rfl;have v2:=GR (b:=0) (B:=0) (F:=s) (m:=z) (k:=9) N j (eI rfl) (i:=109) (g:=14) J rfl rfl;let I:=eU (LL d T 0 d.d≤q)&&eU (LL d T 1 d.d≤z);have te:TE c (Cq.u (sE (ac.headD gH))) aH H8 (λv M=>v=fF I∧∃y,fk a8 d H8 y d M):=by
  refine NK ((fR (ge 108 13)).1 aA.1 v1 b8 λaD y H9 B bc U=>(eu _ bc ?_));cases e:eU (LL d T 0 d.d≤q) with
  |false=>exact⟨congrArg fF (show em=(eU _&&eU _) by rw[e];rfl),y,B⟩
  |true=>
   rw[if_pos rfl];refine(fR (ge 109 14)).1 aA.2 v2 (b8.e B) λaD aK Z be ba U=>⟨(show aD=_ from ba).trans (congrArg fF (show _=(eU _&&eU _) by rw[e];rfl)),aK,B.d be⟩
 refine kI (tM (te.a λv M aq=>?_) (nY (e:=Cq) rfl _ _ _ _))
 (refine Ib aq λm y B=>?_;(clear aq;obtain rfl:=m))
 refine qR (i:=111) (v:=.d I) (b8.e B) (s8.d B) (by kernel_rfl) rfl (λh=>nB h) (λh=>nB h) λaG Z U L=>?_;have aQ:Internal.oG s 111 (.d I)=eL s 111 (.d I):=rfl;have L:gK c B0 a (tI (X.map sd)) [111] aH M d (Internal.oG s 111 (.d I)) y aG Z:=L;rw[aQ] at L;have aL:Bd (dd eb 70) P em iz c B0 (eL s 111 (.d I)) y d aG Z:=⟨S,L.d,L.a.b⟩
 --try
 let ae:=ac.tail;have bn:ae.headD gH=JU (ae.headD gH):=by kernel_rfl
 refine kI ?_;show T1 c (ae.headD gH) _ _ _;refine S0 (q:=q) (z:=z) (k:=I) aL L.a G r aZ bn (by kernel_rfl) (by kernel_rfl) (by kernel_rfl) (by kernel_rfl) (by kernel_rfl) t N j k hh rfl J rfl rfl rfl rfl rfl λbC bP bv bV bz aM bf aI f=>?_
 --bR bM
 let aE:=ae.tail;refine kI (QC (u:=aE.headD gH) aM bf G.a (by kernel_rfl) aI (by decide) (by lia) ((f 66 (by decide)).trans J) ((f 98 (by decide)).trans ag) ((f 103 (by decide)).trans aR) λbE bQ bw bW bA aO bg aJ az=>?_);exact QE (z:=aE.tail) aO bg (by kernel_rfl) aJ (by decide) ((az 66 (by decide)).trans ((f 66 (by decide)).trans J)) ((az 98 (by decide)).trans ((f 98 (by decide)).trans ag)) hq
end
section
def ue(b:kS)(a:eZ)(t y:ft->Option ed)(B:iN):Cx:=
 { l:=pw,k:=b,t:=callerA,b:=callerA.deeper B,m:=a.heap,o:=[],n:=B,a:=B,f:=a.heap,h:=a.heap.objs.size,r:=t,s:=y,p:=qv,e:=KK b.params,u:=a.os,i:=eh,j:=λU U=>False }
theorem Rp{X:gr}(h:nf X=iV (fF eb)):X=iV (fF eb):=by
 cases X with
 |ret v=>exact congrArg iV (zC (Flow.ret.inj h))
 |_=>cases h
theorem Pg{w:kS}{L:eZ}{t y:ft->Option ed}{o:fN}{Q l:et}{E c d:ed}{ac:Array ed}{ns:List Int}{aa:pO->eZ->Prop}(X:(KK w.params).In L.heap)(T:rI qv (rK qv []) t y L.heap)(hg:L.gens=#[])
  (D:L.heap.get? Q=d9 o) (hd:o.data=xH (docDef (ei "law") (qg (eS 44)) (fj (eS 44)) (fD (eS 44)) E c d)) (H:L.heap.CodeRec c (ei "law")) (C:L.heap.IsList l ac) (R:ac.toList.map nv=ns.map vi) (W:ns.length≤63)
  (r:∀P,(∀b o,L.heap.get? b=d9 o->P.heap.get? b=d9 o)->P.os=L.os->P.gens=#[]->aa (kD (iV (fF eb))) P):qJ (jI pw w) callerA (.call (ec Q) ⟨[ec l],[]⟩) aa L:=by
 have J:(iz.all λp=>eU (p.1<113))=true:=by kernel_rfl
 have I:∀i k,iz.lookup i=d9 k->(fD (eS 44)).names.lookup (eE (nm i))=d9 k:=λi k R=>by rw[Ix];exact(mW (sV J)).trans R
 have v:=I 107 _ rfl;have N:∀k,rL k (fD (eS 44)).names []=[(eE (nm 66),k)]:=λk=>by kernel_rfl
 refine call_cells (binds:=[(eE (nm 107),ec l)]) (by decide) D hd T.nolimit H (by kernel_rfl) (λx Z=>by rw[gR.mp Z];exact eH v) (λV tk F Y=>?_) (by kernel_rfl) (by kernel_rfl) (by kernel_rfl);rw[N] at Y;have z:(fD (eS 44)).kind=jH:=by kernel_rfl
 generalize n:mK (ei "law") (fD (eS 44)) L.heap.objs.size Q c=B at F Y ⊢;have m:B.scope=fD (eS 44):=n▸rfl;have O:(ue w L t y B).d:=⟨below_caller _,X,T,D0 rfl,n▸rfl,by show B.scope.kind=_;rw[m,z],by show B.scope.kind=_;rw[m,z],n▸rfl,n▸rfl⟩;have h:∀x,B.kindOf x=(fD (eS 44)).names.lookup x:=λx=>by rw[←n];rfl
 have j:∀i k,iz.lookup i=d9 k->B.kindOf (eE (nm i))=d9 k:=λi k R=>(h _).trans (I i k R);have lv:Lv (ue w L t y B) 80:=⟨by show 302+80≤900;decide,by show 4+3+10*80+1000≤9900;decide⟩;have S:jA (dd eb 70) w.params em iz (ue w L t y B):=by
  refine⟨rfl,O,?_,?_,j,λU=>rfl,λU=>rfl,(eu 70 (lv.g (by decide)) (qf qj _))⟩
  ·unfold rN;rw[O.b];rfl
  ·unfold xI;rw[O.b];rfl
 have G:Gn (ue w L t y B) 80:=⟨rfl,X,T,rfl,rfl,lv⟩;have f:∀x,B.kindOf x=d9 fK->x=eE (nm 66):=λx Z=>by
  rw[h,Ix] at Z;refine fP (pq Z) λp hp e=>?_;have:=of_decide_eq_true (p:=∀p∈iz,p.2=fK->p.1=66) (by kernel_rfl) p hp (congrArg DY e);rw[←this];exact(congrArg kG e).symm
 have g:B.cells.lookup (eE (nm 66))=d9 (L.heap.objs.size+1):=by
  rw[←n];show(rL _ _ _).lookup _=_;rw[N];exact Kl
 have u:St (ue w L t y B) (ic (λU=>eh) (nm 107) (ec l)) (eQ (λU=>eh) (L.heap.objs.size+1) (.g eh)) { L with heap:=V,toks:=tk }:=by
  refine⟨(fQ _ F (n▸rfl) (λx ag Z=>?_)),⟨λa o M=>?_,λa o M=>?_⟩,λa o q=>q.elim,hg,rfl⟩
  ·unfold ic at Z
   split at Z
   ·rename_i e
    subst e;obtain rfl:=eX Z;refine(eu (ec l) ?_ rfl);rw(occs:=eO) [FX,if_pos (j 107 _ rfl)];rw[show([(eE (nm 107),ec l)]:List (ft×ed)).reverse.lookup (eE (nm 107))=d9 (ec l) from Kl]
   ·exact nS Z
  ·by_cases e:a=L.heap.objs.size+1
   ·subst e
    rw[gA] at M;obtain rfl:=eX M;refine eR (Y.cell (eE (nm 66)) _ Kl) λoc K h2=>?_;refine(eu oc K (eu _ h2 ?_));rw(occs:=eO) [FV,j 66 _ rfl,if_neg nofun];rw(occs:=eO) [show([(eE (nm 107),ec l)]:List (ft×ed)).reverse.lookup (eE (nm 66))=eh by kernel_rfl];rfl
   ·rw[fw _ _ e] at M;exact nS M
  ·by_cases e:a=L.heap.objs.size+1
   ·clear M
    subst e;exact⟨Ky _,ku (xC _)⟩
   ·rw[fw _ _ e] at M;exact nS M
 refine fc (QI (c:=ue w L t y B) (Q:=λfl U U=>fl=iV (fF eb)) S G rfl (λU U ae=>ae) C R W wx f g (gA _ _ _) (λU U=>rfl) _ _ u) (λfl P hq=>?_) λU U x=>x;refine iH hq λaj H' A e=>?_;rw[Rp e];refine eR A.e λaf F' U=>?_;exact r P F'.keep A.n A.p
end
section
open PySem.W.X
def dL(p:fE):DefRec:=⟨ei "law",qg (eS 44),fj (eS 44),fD (eS 44),p⟩
theorem Qc{c:ClaimW}{X:ft->Option et}{O:ExcName->Option ed}{w:List WData}{j P:eZ}(R:∀x,c.raises w x=em)(J:c.post w (.bool eb) w=eb)
  (K:∀b o,j.heap.get? b=d9 o->P.heap.get? b=d9 o) (I:P.os=j.os) (g:P.gens=#[]):GoodWG c X O w j (kD (iV (fF eb))) P:=by
 refine GoodW.toG ⟨eH ⟨_,_,[],rfl,R,.bool _,J,λU=>⟨n8,nofun⟩⟩,K,I,g⟩
set_option tactic.hygienic true in
theorem XG{ac:fE}:WalkO qv [] (XL qv []) hk.says (XX.row).toRowW (dL ac) [] (λf J=>xS f J):=by
 intro aj x j t y G aa Q o E s d m k D p H Y b hg w i as M q W N U;have u:=kIn_of aa;refine Ground.open G ?_;intro T B ae V r
 wrow_args M q W N U
 refine enter_call ?_
 rename_i X S e F c Z h L l J a hL z v C O R A ag
 have n:=Dflts.none Y rfl;subst n;have n:=Dflts.noKw Y;subst n;refine Pg u (topRead_of T) hg D (fd_plain p) H hL (by simpa using zd O) (by have:¬(63:Int)<(X.length:Int):=A;omega) λP K I g=>?_;exact Qc (λaf=>by rfl) (by wrow_post) K I g
end
end Mine.Internal
end
open PySem.W.X
open Mine.Internal in
theorem PySem.Challenge.cw_ok0064_01_holds : PySem.Challenge.rw_ok0064_01.Holds := by
 refine holds_law (by kernel_rfl) λsaid=>?_;refine holds_open (q:=qv) (loose:=[]) (Xt:=λs=>xlAt qv [] s&&recOk [] s) (XP:=XL qv []) (Yf:=hk.obs) (Ya:=hk.val) (YP:=hk.says) (N:=5000) XF hk.of hk.keeps (λs e=>xl_of s (Bool.and_eq_true_iff.mp e).1) XL.keeps (by rfl) (by rfl) (by rfl) (λs e=>recFacts_of (Bool.and_eq_true_iff.mp e).2) (by rfl) said (by decide+kernel) ⟨rfl,rfl,rfl,rfl,rfl,by decide+kernel⟩ ?_ XG
 w_on
 w_witness2
