import PyProof.Rows.All
import Wide.All
import OpenK.AllK
import Wide.FinOn
import Lean
import PySem.Challenge.RW_ok0064_01
open Option renaming some→d9,none→eh,map→kH,bind→uM,map_eq_some_iff→uN,map_some→KR,bind_some→Xb,none_or→Xc
open Bool renaming true→eb,false→em,and_eq_true_iff→nj,or_true→pI,and_eq_true→uE,eq_iff_iff→AA,noConfusion→AB,or_eq_true_iff→DE,or_eq_true→Kn,false_eq_true→Wg,false_ne_true→Wh,false_or→Wi,not_true→Wj
open PySem.Value renaming ref→ec,int→ej,none→ez,str→eC,type→eK,bool→fF,builtin→iP,ellipsis→En,isInt_shape→XF
open PySem renaming Value→ed,Addr→et,Expr→eP,Shared→eZ,wpAny_mono→fc,wpAny→fi,Str→ft,wpAny_bind→fv,Pos→fE,Stmt→fG,Heap→fH,Obj→fM,NameKind→fX,Flow→gr,wpAny_pure→iA,Params→iE,Env→iN,eval→jc,Scope→jG,World→jI,model→jJ,Around→j0,mainGlobals→j4,starEach→kB,rawInt→kT,Program→lJ,PyData→mn,sysModules→mO,sizeLine_eq→nC,assign→om,CmpOp→oP,IsZip→pO,Result→pQ,foldedSetIterable→pS,intKind→pT,wpAny_field→pU,Operator→qI,backTo→qK,codeAny→qL,swappedStores→qM,cellsFrom→rN,closureFor→rO,interactive→rP,pyNext→rQ,wpAny_holding→rR,wpAny_standAt→rT,intKind_is→tJ,noteFrame→tK,swapsWith→tL,wpAny_assign_Name→tM,DictEntry→uQ,OsState→uU,bootBuiltins→uY,execs→uZ,wpAny_Call_ofName→u6,call→xX,comprehension→xY,isTrue→xZ,stored→x9,valueAt→ya,wpAny_call→yb,wpAny_execs_nil→yc,wpAny_pyIter_list→yd,Arguments→AU,FuncData→AW,assignEach→A6,importedModules→A7,wpAny_execs_cons→A8,wpAny_newObj_type→A9,BindsTo→Ed,bindArgs→Ey,compPost→Ez,excClassObj→EA,leaving→EB,letOwnedTupleGo→ED,recursionLimit→EE,setItem→EF,standAt→EG,treeTable→EH,typeLookup→EI,wpAny_call_entry→EJ,wpAny_loadPart_at→EK,wpAny_seqItems→EL,wpAny_setField→EM,wpAny_setField_rec→EN,attributeBase→Ld,behindInMarks→Le,codeAny_call_builtin→Lf,codeAny_loop→Lg,constantsAlone→Lh,foldedForSure→Li,keywordEach→Lj,setFlight→Lk,slicePick→Ll,slot_list_getitem→Lm,swapsWithSole→Ln,theTreesLotGoes→Lo,wpAny_callSpecial?_slot→Lp,wpAny_onRaise→Lq,wpAny_storeName_local→Lr,wpAny_truthy_bool→Ls,Spec→XE,codeAny_call_def→XI,exec_Assign_Name_used→XJ,slot_dict_getitem→XM,slot_list_setitem→XN,slot_listiter_next→XO,wpAny_assignInOrder_more→XR,wpAny_assignInOrder_none→XS,wpAny_assign_Tuple→XT,wpAny_getItem_of→XU,wpAny_isInstance→XV,wpAny_pyIter_enum→XW,wpAny_pyIter_listiter→XX,wpAny_pyIter_zip→XY,wpAny_pyNext_list_end→XZ,wpAny_pyNext_list_item→X0,wpAny_typeLookup_exc→X1
open PySem.NameKind renaming «local»→eu,globalImplicit→eY,cell→fK,free→gb
open PySem.Str renaming ofString→eE
open Or renaming inl→eH,inr→eI
open Lean.Meta.Occurrences renaming all→eO
open Decidable renaming decide→eU
open Option.some renaming inj→eX,injEq→Xd
open PySem.Data renaming fields→fB,seq→kR,dict→oQ,func→xL
open List renaming length_map→fC,map_cons→gj,mem_cons_self→gp,mem_cons→gy,mem_cons_of_mem→gC,map_map→gJ,mem_singleton→gR,length_append→il,lookup_cons→iw,all_eq_true→iC,not_mem_nil→iI,replicate→iJ,getElem?_eq_getElem→jF,mem_map_of_mem→jZ,map_congr_left→kh,sum_cons→ky,nodup_cons→kG,flatMap_cons→kY,length_zip→kZ,map_append→lb,mem_append→lc,getD_eq_getElem?_getD→lE,getElem?_map→lF,length_cons→lG,mem_filter→lH,mem_reverse→lI,mem_singleton_self→lS,mem_map→mm,append_nil→mL,append_assoc→nq,map_eq_nil_iff→ny,map_reverse→nz,length_reverse→n9,nodup_nil→og,reverse_cons→oh,length_eq_zero_iff→oN,map→pJ,length→qB,length_filter_le→qC,mem_flatMap→qD,nodup_append→qE,of_mem_zip→rI,mem_of_getElem?→tt,range'→tu,take_append_drop→tv,getElem_mem→uH,map_nil→uI,zipWith→uJ,filter_cons_of_pos→xy,getElem?_eq_some_iff→xz,length_replicate→xA,length_take→xB,pairwise_singleton→xC,zip_cons_cons→xD,any_cons→AE,any_eq_true→AF,getElem?_take_of_lt→AG,mem_range→AI,mem_range'_1→AJ,mergeSort_perm→AK,nil_append→AL,range→AM,size_toArray→AN,any_eq_false→DK,filterMap_cons→DL,filter_nil→DM,find?_cons_of_neg→DN,find?_cons_of_pos→DO,flatMap_nil→DP,getElem?_eq_none→DQ,getElem_zip→DR,getLast_mem→DS,idxOf_lt_length_iff→DT,length_eq_one_iff→DU,length_pos_iff→DV,length_pos_of_mem→DX,lookup→DY,map_eq_cons_iff→DZ,map_fst_zip→D0,mem_append_left→D3,mem_filterMap→D4,mem_iff_getElem?→D5,reverse_nil→D6,toArray→D7,cons_append→Ks,dropLast_concat→Kt,drop_eq_getElem_cons→Ku,exists_mem_of_ne_nil→Kv,filter_cons_of_neg→Kw,filter_map→Kx,forIn_cons→Ky,getElem?_nil→Kz,length_zipIdx→KB,lookup_cons_self→KC,map_id→KD,map_take→KE,mem_iff_getElem→KF,mem_replicate→KG,pairwise_reverse→KH,replicate_succ→KI,sum→KJ,take_of_length_le→KL,Nodup→Wr,all_cons→Wu,any_map→Wv,contains_iff_mem→Wx,drop_length→Wy,filterMap→Wz,filter_append→WA,filter_eq_self→WB,filter_sublist→WC,flatMap_append→WD,getElem?_zip_eq_some→WE,getElem_map→WF,getLast?_concat→WG,length_nil→WH,length_singleton→WI,lookup_append→WJ,lookup_eq_none_iff→WK,lookup_nil→WL,map_drop→WM,map_replicate→WN,map_set→WO,mem_append_right→WP,mem_of_mem_take→WQ,pairwise_mergeSort→WR,perm_middle→WT,reverse_perm→WU,reverse_reverse→WV,take_length→WW,take_nil→WX,take_succ_eq_append_getElem→WY,zipIdx_cons→WZ,zip_map_right→W0
open Inhabited renaming default→fU
open PySem.Flow renaming next→fY,ret→iV
open PySem.CmpOp renaming Eq→fZ,NotEq→gd,Gt→lh,Lt→lj,In→oj,IsNot→uO,NotIn→xJ
open Pure renaming pure→f9
open PySem.Expr renaming Name→gk,Tuple→iD,Call→jr,Attribute→jM,Constant→oR,ListComp→pM,Subscript→pN,DictComp→qG,Slice→xN,UnaryOp→xO,List→AV,BoolOp→Ef,Compare→Eg,Starred→KZ
open List.Mem renaming tail→gu,head→gL
open Ne renaming symm→gM
open PySem.Operator renaming Sub→gS,Add→io,Mult→jb,FloorDiv→pP
open PySem.Heap renaming get?_push_of_some→hY,get?_push_size→jf,get?_none_of_le→kA,SameBut→qH,dictOf_iff→tx,lt_size→ty,size_push→tz,get?_update_other→xQ,get?_update_self→xR,FlyingW→Eh,IsList→K0,NotedW→K2,ExtBut→Xy,get?_update_ne→XC
open Nat renaming le_refl→ig,le_trans→im,le_of_ble_eq_true→iO,lt_irrefl→lg,not_lt_zero→pK,zero_le→pL,ne_of_lt→rJ,lt_succ_self→uK,ne_of_gt→uL,add_assoc→xE,le_add_right→xF,le_of_eq→xG,le_succ→xH,lt_of_le_of_lt→AP,lt_trans→AQ,min_le_left→AS,min_self→D8,succ_le_succ→D9,add_comm→KM,add_sub_cancel_left→KN,not_lt→KO,succ_ne_self→KP,succ_ne_zero→KQ,le_add_left→W1,le_antisymm→W2,le_max_left→W3,lt_asymm→W4,lt_of_lt_of_le→W5,lt_of_sub_pos→W6,lt_succ_of_le→W7,lt_succ_of_lt→W8,min_le_right→W9,not_succ_le_zero→W',sub_self→Xa
open Int renaming le_refl→ja,le_trans→jY,not_le→rH,not_lt→tq,add_mul→xw,le_of_lt→xx,le_of_eq→AD,add_zero→DG,mul_nonneg→DH,one_mul→DI,toNat_natCast→DJ,eq_ofNat_of_zero_le→Kq,le_antisymm→Kr,ediv_nonneg→Wk,fdiv_eq_ediv_of_nonneg→Wl,le_of_mul_le_mul_right→Wm,le_total→Wn,lt_succ→Wo,zero_mul→Wq
open PySem.W renaming nsIn→jg,envX→kS,hideAll→lr,fnOf→lK,boot_heap→mq,codeIn→pR,TopRead→rK,findIn→rL,looseW→rM,keepIn→tG,KtsTurn→uX,boot_drawn→xV,callWith_of→xW,boot_toks→A0,dictOf→A1,hideAll_get→A2,hideAll_none→A3,listOf→A4,of_hideAll→A5,SharedT→Eo,handedIn→Ep,hasDictIn→Er,hideAll_size→Et,nsMap_none_of_in→Eu,plainGet→Ew,codeRec_of→K',isNs_of_in→La,namesBound→Lb,staticsOk→Lc
open PySem.BoolOp renaming Or→jw,And→oO
open PySem.ScopeKind renaming function→jH
open Prod renaming fst→kz,snd→Ea
open Except renaming ok→kF,error→xv
open PySem.Stmt renaming Assign→lm,Expr→qJ,Try→uW,Return→xU,Raise→Em,FunctionDef→K9
open PySem.Value.ref renaming inj→lq
open PySem.PyData renaming int→mo,list→tF,eqvAll→uV,tuple→xT,eqv→AY,canLayAll0→Ei,depthAll→Ej,depth→K7,keyHash→K8
open PyProof.Rows renaming envOfC→mM,tail_any→xI,IntsAre→Eb,Subscript_→KS,floordiv_int→X6,ge_int→X7,gt_int→X8,le_int→X9,mod_int→Yb,mul_int→Yc,neg_int→Yd,notin_list_ints→Ye,sub_int→Yg
open Nat.succ renaming inj→nA
open ForInStep renaming yield→rG
open Array renaming length_toList→tm,mk→xu,getElem?_eq_none_iff→Ay,getElem?_eq_some_iff→Az,getElem?_eq_getElem→DC,getElem?_toList→DD,toList_append→Km,eraseIdxIfInBounds→Wc,getElem?_setIfInBounds_ne→We,toList_eraseIdx→Wf
open ForIn renaming forIn→uF
open List.cons renaming injEq→uG,inj→Ww
open PySem.Code renaming builtin→uP,compLoop→xK,cUnits→KY,weight→Xk
open PySem.ExceptHandler renaming ExceptHandler→uS
open PySem.Obj renaming mapFields→uT,data_mapFields→K5,mapSeq→K6,isFreed_of_fields→XD
open PySem.Env renaming blockKind→xM
open PySem.F renaming plainAttrs_list→xP,plainAttrs_dict→Xm,slot_dict_get→Xn,slot_dict_pop→Xo,slot_int_rmul→Xp,slot_list_extend→Xq,slot_list_index→Xr,slot_list_insert→Xs,slot_list_pop→Xu,slot_list_remove→Xv,slot_zip_next→Xw,store_Exception→Xx
open PySem.Keeper renaming machine→xS
open Iff renaming rfl→AC
open Prod.mk renaming injEq→AT
open PySem.Heap.SameBut renaming refl→AX,update→K4
open PySem.W.Looks renaming of_pure→AZ
open Char renaming toNat→DF
open PySem.Around renaming frames_deeper→Ec
open PySem.BindsTo renaming of_eq→Ee
open PySem.Shared renaming heap→Ek
open Function renaming comp_def→Ko
open PySem.Builtin.List renaming listFitsIndex→KU,listTooLong→KV,listSubscript?→Yh
open PySem.Calls renaming Name_function_global→KW,loadGlobal_global→Xi
open PySem.Heap.IsList renaming push→K1
open PySem.Heap.Ns renaming of_isNs→K3
open Int.ofNat renaming inj→Wp
open List.Perm renaming eq_of_pairwise→Ws
open List.Sublist renaming refl→Wt
open PySem.Builtin.SmallTypes renaming nextOf→Xe,ownedTupleHandOut→Xf,ownedTupleIsFree→Xg
open PySem.Builtin renaming divisionGoesByPylong→Xh
open PySem.Challenge renaming pw_ok0064_01→Xj,rw_ok0064_01→Yj
open PySem.EntryCells renaming newEntry→Xl
open PySem.Heap.UpToSlots renaming of_keeps→Xz,trans→XA
open PySem.Within renaming cons→XG,nil→XH
open List.Pairwise renaming map→X5
open PySem.Builtin.Range renaming rangeSize→Yi
open PySem.Heap.IsSliceOf renaming new→Yk
open PySem.MeetsSeq.EqGives renaming int→Yl
open PySem.W.Fast renaming ofString_ofList→Ym
open PySem PySem.W PyProof.Rows PySem.Calls
set_option Elab.async false
set_option warn.classDefReducibility false
set_option linter.all false
set_option maxRecDepth 100000
set_option genSizeOf false
set_option genCtorIdx false
set_option genInjectivity false
set_option tactic.hygienic false
set_option bootstrap.genMatcherCode false
set_option compiler.extract_closed false
set_option backward.match.sparseCases false
set_option maxHeartbeats 4000000
noncomputable section
namespace Mine.Internal
section
variable{a b c d e:Sort _}{G:Prop}
theorem fe{P Q:Prop}(h:P∧Q)(k:P->Q->G):G:=k h.1 h.2
theorem fL{P:a->Prop}(h:∃x,P x)(k:∀x,P x->G):G:=h.elim k
theorem gY{P Q R:Prop}(h:P∧Q∧R)(k:P->Q->R->G):G:=fe h.2 (k h.1)
theorem It{P:Prop}{Q:a->Prop}(h:P∧∃x,Q x)(k:P->∀x,Q x->G):G:=fL h.2 (k h.1)
theorem eR{P Q:a->Prop}(h:∃x,P x∧Q x)(k:∀x,P x->Q x->G):G:=h.elim λx h=>fe h (k x)
theorem ur{P:a->b->Prop}(h:∃x y,P x y)(k:∀x y,P x y->G):G:=h.elim λx h=>fL h (k x)
theorem zK{L:Type _}{j:Type _}{K:L×j->Prop}{y:L×j->Prop}{G:Prop}(h:∃D:L×j,K D∧y D)(k:∀D:L,∀C:j,K (D,C)->y (D,C)->G):G:=h.elim λx h=>fe h (k x.1 x.2)
theorem i8{P Q R S:Prop}(h:P∧Q∧R∧S)(k:P->Q->R->S->G):G:=gY h.2 (k h.1)
theorem kD{P:Prop}{Q R:a->Prop}(h:P∧∃x,Q x∧R x)(k:P->∀x,Q x->R x->G):G:=eR h.2 (k h.1)
theorem f5{P Q R:a->Prop}(h:∃x,P x∧Q x∧R x)(k:∀x,P x->Q x->R x->G):G:=h.elim λx h=>gY h (k x)
theorem iH{P Q:a->b->Prop}(h:∃x y,P x y∧Q x y)(k:∀x y,P x y->Q x y->G):G:=h.elim λx h=>eR h (k x)
theorem RR{P:a->b->c->Prop}(h:∃x y z,P x y z)(k:∀x y z,P x y z->G):G:=h.elim λx h=>ur h (k x)
theorem mf{P Q R S T:Prop}(h:P∧Q∧R∧S∧T)(k:P->Q->R->S->T->G):G:=i8 h.2 (k h.1)
theorem nU{P Q R S:a->Prop}(h:∃x,P x∧Q x∧R x∧S x)(k:∀x,P x->Q x->R x->S x->G):G:=h.elim λx h=>i8 h (k x)
theorem Iu{P:a->Prop}{Q R:a->b->Prop}(h:∃x,P x∧∃y,Q x y∧R x y)(k:∀x,P x->∀y,Q x y->R x y->G):G:=h.elim λx h=>kD h (k x)
theorem fT{P Q R:a->b->Prop}(h:∃x y,P x y∧Q x y∧R x y)(k:∀x y,P x y->Q x y->R x y->G):G:=h.elim λx h=>f5 h (k x)
theorem oF{P Q:a->b->c->Prop}(h:∃x y z,P x y z∧Q x y z)(k:∀x y z,P x y z->Q x y z->G):G:=h.elim λx h=>iH h (k x)
theorem lC{P:a->b->c->d->Prop}(h:∃x y z u,P x y z u)(k:∀x y z u,P x y z u->G):G:=h.elim λx h=>RR h (k x)
theorem zJ{P Q R S T U:Prop}(h:P∧Q∧R∧S∧T∧U)(k:P->Q->R->S->T->U->G):G:=mf h.2 (k h.1)
theorem oC{P Q R S T:a->Prop}(h:∃x,P x∧Q x∧R x∧S x∧T x)(k:∀x,P x->Q x->R x->S x->T x->G):G:=h.elim λx h=>mf h (k x)
theorem jD{P Q R S:a->b->Prop}(h:∃x y,P x y∧Q x y∧R x y∧S x y)(k:∀x y,P x y->Q x y->R x y->S x y->G):G:=h.elim λx h=>nU h (k x)
theorem qr{P Q R:a->b->c->Prop}(h:∃x y z,P x y z∧Q x y z∧R x y z)(k:∀x y z,P x y z->Q x y z->R x y z->G):G:=h.elim λx h=>fT h (k x)
theorem wL{P Q R S T U V:Prop}(h:P∧Q∧R∧S∧T∧U∧V)(k:P->Q->R->S->T->U->V->G):G:=zJ h.2 (k h.1)
theorem uq{P Q R S T U:a->Prop}(h:∃x,P x∧Q x∧R x∧S x∧T x∧U x)(k:∀x,P x->Q x->R x->S x->T x->U x->G):G:=h.elim λx h=>zJ h (k x)
theorem oE{P Q R S T:a->b->Prop}(h:∃x y,P x y∧Q x y∧R x y∧S x y∧T x y)(k:∀x y,P x y->Q x y->R x y->S x y->T x y->G):G:=h.elim λx h=>oC h (k x)
theorem mZ{P Q R S:a->b->c->Prop}(h:∃x y z,P x y z∧Q x y z∧R x y z∧S x y z)(k:∀x y z,P x y z->Q x y z->R x y z->S x y z->G):G:=h.elim λx h=>jD h (k x)
theorem RS{P Q R S:a->b->c->d->Prop}(h:∃x y z u,P x y z u∧Q x y z u∧R x y z u∧S x y z u)(k:∀x y z u,P x y z u->Q x y z u->R x y z u->S x y z u->G):G:=h.elim λx h=>mZ h (k x)
theorem ut{P Q R S:a->b->c->d->e->Prop}(h:∃x y z u v,P x y z u v∧Q x y z u v∧R x y z u v∧S x y z u v)(k:∀x y z u v,P x y z u v->Q x y z u v->R x y z u v->S x y z u v->G):G:=h.elim λx h=>RS h (k x)
end
section
@[elab_as_elim] theorem rwE {L:Sort _} {a b:L} {m:L->Prop} (h:a=b) (k:m b):m a:=h▸k
@[elab_as_elim] theorem rwF {L:Sort _} {a b:L} {m:L->Prop} (h:a=b) (k:m a):m b:=h▸k
end
open Lean in
local macro_rules (kind := Lean.Parser.Tactic.rewriteSeq)
  | s => do
    let a := s[2][1].getSepArgs
    if s[1][0].getNumArgs != 0 then Macro.throwUnsupported
    if a.size > 1 then return mkNullNode (a.map fun r => s.setArg 2 (s[2].setArg 1 (mkNullNode #[r])))
    let n := a[0]![0].isNone
    let h : Lean.Term := ⟨a[0]![1]⟩
    if s[3].isNone then
      let q ← `(?_)
      let u ← `(_)
      let f n t : Syntax := mkNode ``Parser.Tactic.refine #[mkAtom "refine ", Syntax.mkApp (mkIdent n) #[t, q]]
      let g t : Syntax := mkNode `group #[mkAtom "| ", mkNode ``Parser.Tactic.tacticSeq #[mkNode ``Parser.Tactic.tacticSeq1Indented #[mkNullNode #[f `rwE t]]]]
      return if n then mkNode ``Parser.Tactic.first #[mkAtom "first", mkNullNode #[g h, g (Syntax.mkApp h #[u]), g (Syntax.mkApp h #[u, u])]] else f `rwF h
    let l := s[3][0][1][0]
    let x : Ident := ⟨l[0]⟩
    if n && x.raw.isIdent && l.getNumArgs == 1 then `(tactic| replace $x := $h ▸ $x) else Macro.throwUnsupported
section
section
variable{a b c d e:Sort _}
theorem ey{P Q:a->Prop}(x:a)(h:P x)(O:Q x):∃x,P x∧Q x:=⟨x,h,O⟩
theorem fQ{P Q R:a->Prop}(x:a)(h:P x)(O:Q x)(g:R x):∃x,P x∧Q x∧R x:=⟨x,h,O,g⟩
theorem lP{P Q R S:a->Prop}(x:a)(h:P x)(O:Q x)(g:R x)(j:S x):∃x,P x∧Q x∧R x∧S x:=⟨x,h,O,g,j⟩
theorem wg{P Q R S T:a->Prop}(x:a)(h:P x)(O:Q x)(g:R x)(j:S x)(m:T x):∃x,P x∧Q x∧R x∧S x∧T x:=⟨x,h,O,g,j,m⟩
theorem Co{P Q R S T U:a->Prop}(x:a)(h:P x)(O:Q x)(g:R x)(j:S x)(m:T x)(C:U x):∃x,P x∧Q x∧R x∧S x∧T x∧U x:=⟨x,h,O,g,j,m,C⟩
theorem ib{P Q:a->b->Prop}(x:a)(y:b)(h:P x y)(O:Q x y):∃x y,P x y∧Q x y:=⟨x,y,h,O⟩
theorem fS{P Q R:a->b->Prop}(x:a)(y:b)(h:P x y)(O:Q x y)(g:R x y):∃x y,P x y∧Q x y∧R x y:=⟨x,y,h,O,g⟩
theorem kM{P Q R S:a->b->Prop}(x:a)(y:b)(h:P x y)(O:Q x y)(g:R x y)(j:S x y):∃x y,P x y∧Q x y∧R x y∧S x y:=⟨x,y,h,O,g,j⟩
theorem zf{P Q R S T:a->b->Prop}(x:a)(y:b)(h:P x y)(O:Q x y)(g:R x y)(j:S x y)(m:T x y):∃x y,P x y∧Q x y∧R x y∧S x y∧T x y:=⟨x,y,h,O,g,j,m⟩
theorem Cp{P Q R S T U:a->b->Prop}(x:a)(y:b)(h:P x y)(O:Q x y)(g:R x y)(j:S x y)(m:T x y)(C:U x y):∃x y,P x y∧Q x y∧R x y∧S x y∧T x y∧U x y:=⟨x,y,h,O,g,j,m,C⟩
theorem pi{P Q:a->b->c->Prop}(x:a)(y:b)(z:c)(h:P x y z)(O:Q x y z):∃x y z,P x y z∧Q x y z:=⟨x,y,z,h,O⟩
theorem mV{P Q R:a->b->c->Prop}(x:a)(y:b)(z:c)(h:P x y z)(O:Q x y z)(g:R x y z):∃x y z,P x y z∧Q x y z∧R x y z:=⟨x,y,z,h,O,g⟩
theorem pj{P Q R S:a->b->c->Prop}(x:a)(y:b)(z:c)(h:P x y z)(O:Q x y z)(g:R x y z)(j:S x y z):∃x y z,P x y z∧Q x y z∧R x y z∧S x y z:=⟨x,y,z,h,O,g,j⟩
theorem Cq{P Q R S T:a->b->c->Prop}(x:a)(y:b)(z:c)(h:P x y z)(O:Q x y z)(g:R x y z)(j:S x y z)(m:T x y z):∃x y z,P x y z∧Q x y z∧R x y z∧S x y z∧T x y z:=⟨x,y,z,h,O,g,j,m⟩
theorem wh{P Q R S T:a->b->c->d->Prop}(x:a)(y:b)(z:c)(u:d)(h:P x y z u)(O:Q x y z u)(g:R x y z u)(j:S x y z u)(m:T x y z u):∃x y z u,P x y z u∧Q x y z u∧R x y z u∧S x y z u∧T x y z u:=⟨x,y,z,u,h,O,g,j,m⟩
end
theorem nS{L:Type _}{a:L}{C:Prop}(h:eh=d9 a):C:=nomatch h
theorem iX{L:Type _}{a:L}{C:Prop}(h:d9 a=eh):C:=nomatch h
theorem nB{C:Prop}(h:em=eb):C:=nomatch h
theorem CP{C:Prop}(h:eb=em):C:=nomatch h
theorem nL{L:Type _}{a:L}{l:List L}{C:Prop}(h:[]=a::l):C:=nomatch h
theorem wI{L:Type _}{a:L}{l:List L}{C:Prop}(h:a::l=[]):C:=nomatch h
theorem nZ{n:Nat}{C:Prop}(h:0=n+1):C:=nomatch h
theorem rB{n:Nat}{C:Prop}(h:n+1=0):C:=nomatch h
theorem fq{a b:Bool}(h:(a&&b)=eb){G:Prop}(k:a=eb->b=eb->G):G:=fe (nj.mp h) k
theorem fP{L j:Type _}{f:L->j}{l:List L}{b:j}(h:b∈l.map f){G:Prop}(k:∀a,a∈l->f a=b->G):G:=eR (mm.1 h) k
theorem qo{L:Type _}{a:L}{l:List L}(h:(a::l).Nodup){G:Prop}(k:a∉l->l.Nodup->G):G:=fe (kG.mp h) k
theorem rA{L j:Type _}{f:L->List j}{l:List L}{b:j}(h:b∈l.flatMap f){G:Prop}(k:∀a,a∈l->b∈f a->G):G:=eR (qD.1 h) k
theorem wG{L j:Type _}{o:Option L}{f:L->j}{b:j}(h:o.map f=d9 b){G:Prop}(k:∀a,o=d9 a->f a=b->G):G:=eR (uN.mp h) k
theorem wm{L:Type _}{o:Option L}(h:o.isSome=eb){G:Prop}(k:∀a,o=d9 a->G):G:=fL (Option.isSome_iff_exists.mp h) k
theorem CN{L u j:Type _}{f:L×u->j}{l:List (L×u)}{b:j}(h:b∈l.map f){G:Prop}(k:∀x y,(x,y)∈l->f (x,y)=b->G):G:=zK (mm.1 h) k
end
section
noncomputable def nv:ed->ed
 |ej i _=>ej i 0
 |eC s _=>eC s 0
 |.float b _=>.float b 0
 |.bytes b _=>.bytes b 0
 |v=>v
noncomputable abbrev vi(i:Int):Value:=ej i 0
theorem uo{v:ed}{i:Int}(h:nv v=ej i 0):∃t,v=ej i t:=by
 cases v<;>first|exact⟨0,h⟩ |(cases h;exact⟨_,rfl⟩)|cases h
theorem ik{v:ed}{i:Int}(h:nv v=ej i 0){G:Prop}(N:∀t,v=ej i t->G):G:=fL (uo h) N
theorem RQ{v:ed}{x:ft}(h:nv v=eC x 0):∃t,v=eC x t:=by
 cases v<;>first|exact⟨0,h⟩ |(cases h;exact⟨_,rfl⟩)|cases h
theorem gX{v:ed}{a:et}(h:nv v=ec a):v=ec a:=by
 cases v<;>first|exact h|cases h
theorem wK{v:ed}(h:nv v=ez):v=ez:=by
 cases v<;>first|exact h|cases h
theorem zH{v:ed}{b:Bool}(h:nv v=fF b):v=fF b:=by
 cases v<;>first|exact h|cases h
theorem zI{v:ed}{b:String}(h:nv v=eK b):v=eK b:=by
 cases v<;>first|exact h|cases h
theorem Ip{v:ed}{b:String}(h:nv v=iP b):v=iP b:=by
 cases v<;>first|exact h|cases h
theorem GD(s:String):eE s=⟨(s.toList.map DF).toArray⟩ :=by
 have:=Ym s.toList;rwa [String.ofList_toList] at this
theorem oG{a b:String}:eE a=eE b↔a=b:=by
 constructor
 ·intro h
  rw[GD,GD] at h;have K:=congrArg (λx=>x.cps.toList) h;simp only at K;have L:∀(x y:List Char),x.map DF=y.map DF->x=y:=by
   intro x
   induction x with
   |nil=>intro y h;cases y<;>simp_all
   |cons c r D=>
    intro y h;cases y with
    |nil=>simp at h
    |cons d t=>
     simp only[gj,uG] at h;have:c=d:=by
      apply Char.ext;have:=h.1;unfold DF at this;exact UInt32.toNat_inj.mp this
     rw[this,D t h.2]
  exact String.toList_inj.mp (L _ _ K)
 ·rintro rfl;rfl
set_option genCtorIdx false in
set_option genInjectivity true in
inductive AO where
 |a (vs:List ed)
 |f (vs:List ed)
 |e (kvs:List (Int×ed))
 |h (C d:et)
 |b (fs:List (String×ed))
 |g (v:Option ed)
 |c (o:fM)
noncomputable def AO.ctorIdx(o:AO):Nat:=AO.casesOn (motive:=λU=>Nat) o (λU=>0) (λU=>1) (λU=>2) (λU U=>3) (λU=>4) (λU=>5) (λU=>6)
abbrev AH:=et->Option AO
noncomputable def eQ(H:AH)(a:et)(o:AO):AH:=λb=>if b=a then d9 o else H b
theorem gA(H:AH)(a:et)(o:AO):eQ H a o a=d9 o:=if_pos rfl
theorem fw(H:AH){a b:et}(o:AO)(h:b≠a):eQ H a o b=H b:=if_neg h
section
variable(Z:lJ)(w:jI)
def OR:AO->fM->Prop
 |.a J,o=>∃F n,o=A4 F n∧F.toList.map nv=J
 |.f J,o=>∃F n,o={ cls:=eK "tuple",data:=kR F n }∧F.toList.map nv=J
 |.e G,o=>∃a,o.IsDictOf (pT Z w) a∧a.map (λp=>(p.1,nv p.2))=G
 |.h C d,o=>o=instObj C d
 |.b y,o=>∃c n,o=A1 c n∧c.map (λe=>(nv e.key,nv e.val))=y.map (λp=>(eC (eE p.1) 0,p.2))
 |.g v,o=>∃b,o.data=.cell b∧b.map nv=v
 |.c X,o=>o=X
end
set_option genInjectivity false in
structure Cx where
 l:lJ
 k:jI
 t:j0
 b:j0
 m:fH
 o:List iN
 n:iN
 a:iN
 f:fH
 h:et
 r:ft->Option ed
 s:ft->Option ed
 p:lJ
 e:Frag
 u:uU
 i:Option (ft->Option ed)
 j:et->fM->Prop
noncomputable abbrev Cx.g(c:Cx):Model:=jJ c.l c.k
structure Cx.d(c:Cx):Prop where
 g:Below c.t c.m c.o c.f
 a:c.e.In c.f
 d:rK c.p (rM c.p []) c.r c.s c.f
 e:c.b.frames=d9 (c.n::c.o)
 f:c.n.frame=d9 c.h
 h:c.n.scope.kind=jH
 b:c.a.scope.kind=jH
 i:c.a.globals=j4
 j:c.a.builtins=builtinsNs
abbrev eJ:=String->Option ed
noncomputable def ic(V:eJ)(x:String)(v:ed):eJ:=λy=>if y=x then d9 v else V y
def j6(V:eJ)(m:ft->Option ed):Prop:=∀x v,V x=d9 v->∃b,m (eE x)=d9 b∧nv b=v
theorem j6.a{V:eJ}{m:ft->Option ed}(h:j6 V m)(x:String)(v:ed):j6 (ic V x (nv v)) (λy=>if y=eE x then d9 v else m y):=by
 intro y u B;unfold ic at B;by_cases R:y=x
 ·rw[if_pos R] at B
  cases B;exact⟨v,by dsimp only;rw[if_pos (by rw[R])],rfl⟩
 ·rw[if_neg R] at B
  obtain⟨b,K,I⟩ :=h y u B;exact⟨b,by dsimp only;rw[if_neg (λe=>R (oG.mp e))];exact K,I⟩
structure jQ(c:Cx)(H:AH)(h:fH):Prop where
 f:∀a o,H a=d9 o->∃ro,h.get? a=d9 ro∧OR c.l c.k o ro
 b:∀a o,H a=d9 o->a≠c.h∧c.f.get? a=eh
structure St(c:Cx)(ρ:eJ)(H:AH)(s:eZ):Prop where
 e:∃m,Fr c.f c.h s.heap m∧(match c.i with
  |none=>c.a.locals=c.h∧j6 ρ m
  |some m₀=>m=m₀∧∃mc,s.heap.Ns c.a.locals mc∧j6 ρ mc∧c.a.locals≠c.h∧c.f.get? c.a.locals=eh∧H c.a.locals=eh)
 b:jQ c H s.heap
 d:∀a o,c.j a o->s.heap.get? a=d9 o∧a≠c.h∧a≠c.a.locals∧c.f.get? a=eh∧H a=eh
 n:s.gens=#[]
 l:s.os=c.u
def TE(c:Cx)(e:eP)(V:eJ)(H:AH)(Q:ed->AH->Prop):Prop:=
 ∀E s,St c V H s->fi c.g c.b (jc e c.a) (λv P=>∃M,St c V M P∧Q (nv v) M) E s
def TB(c:Cx)(e:eP)(V:eJ)(H:AH)(Q:Bool->AH->Prop):Prop:=
 ∀E s,St c V H s->fi c.g c.b (xZ e c.a (jc e c.a)) (λv P=>∃M,St c V M P∧Q v M) E s
def nf:gr->gr
 |iV v=>iV (nv v)
 |f=>f
def T1(c:Cx)(u:fG)(V:eJ)(H:AH)(Q:gr->eJ->AH->Prop):Prop:=
 ∀E s,St c V H s->fi c.g c.b (exec u c.a) (λf P=>∃l M,St c l M P∧Q (nf f) l M) E s
def TS(c:Cx)(Z:List fG)(V:eJ)(H:AH)(Q:gr->eJ->AH->Prop):Prop:=
 ∀E s,St c V H s->fi c.g c.b (uZ Z c.a) (λf P=>∃l M,St c l M P∧Q (nf f) l M) E s
variable{c:Cx}{V:eJ}{H:AH}
theorem qV{Q:gr->eJ->AH->Prop}(h:Q fY V H):TS c [] V H Q:=λE s S=>
 yc ⟨V,H,S,h⟩
theorem kJ{u:fG}{o:List fG}{Q:gr->eJ->AH->Prop}
  (h:T1 c u V H (λf l M=>match f with|fY=>TS c o l M Q|f=>Q f l M)):TS c (u::o) V H Q:=λE s S=>by
 refine A8 (fc (h E s S) (λf P G=>?_) λU U x=>x);obtain⟨l,M,R,G⟩ :=G;cases f with
 |next=>exact G E P R
 |brk=>exact⟨l,M,R,G⟩
 |cont=>exact⟨l,M,R,G⟩
 |ret v=>exact⟨l,M,R,G⟩
theorem M9{j B L d}{Q:gr->eJ->AH->Prop}
  (h:TB c j V H (λb M=>if b then TS c B V M Q else TS c L V M Q)):T1 c (.If j B L d) V H Q:=λE s S=>by
 refine wpAny_If (fc (h E s S) (λb P G=>?_) λU U x=>x);obtain⟨M,R,G⟩ :=G;cases b
 ·exact G E P R
 ·exact G E P R
theorem yp{e d}{Q:gr->eJ->AH->Prop}(h:TE c e V H (λv M=>Q (iV v) V M)):T1 c (xU (d9 e) d) V H Q:=λE s S=>by
 refine wpAny_Return_some (fc (h E s S) (λv P G=>?_) λU U x=>x);obtain⟨M,R,G⟩ :=G;exact⟨V,M,R,G⟩
theorem M'{d}{Q:gr->eJ->AH->Prop}(h:Q (iV ez) V H):T1 c (xU eh d) V H Q:=λE s S=>
 wpAny_Return_none ⟨V,H,S,h⟩
theorem tQ{e d}{Q:gr->eJ->AH->Prop}(h:TE c e V H (λv M=>Q fY V M))
  (D:rP c.a=em) (O:tL e eh d.line c.a=f9 em):T1 c (qJ e d) V H Q:=λE s S=>by
 refine wpAny_Expr_any (fc (h E s S) (λv P G=>?_) λU U x=>x) D O;obtain⟨M,R,G⟩ :=G;exact⟨V,M,R,G⟩
theorem TE.a{e:eP}{Q j:ed->AH->Prop}(h:TE c e V H Q)(O:∀v M,Q v M->j v M):TE c e V H j:=λE s S=>
 fc (h E s S) (λv P Y=>eR Y λM d b=>⟨M,d,O _ _ b⟩) λU U x=>x
end
section
theorem l9{h:fH}{a:et}{o:fM}(e:h.get? a=d9 o):a<h.objs.size:=ty e
noncomputable def sh(q:fH)(L:et)(h:fH):List (et×fM):=
 (AM h.objs.size).filterMap λa=>if a=L∨(q.get? a).isSome then eh else(h.get? a).map λo=>(a,o)
set_option tactic.hygienic true in
theorem wH{q:fH}{L:et}{h:fH}{p:et×fM}:p∈sh q L h↔h.get? p.1=d9 p.2∧p.1≠L∧q.get? p.1=none:=by
 unfold sh;rw(occs:=eO) [D4]
 constructor
 ·rintro⟨a,M,K⟩
  split at K
  ·exact nS K
  ·rename_i W
   rw[not_or] at W
   (refine wG K λo y R=>?_;(clear K;obtain rfl:=R))
   exact⟨y,W.1,by simpa using W.2⟩
 ·rintro⟨K,I,b⟩
  refine(ey p.1 (AI.mpr (l9 K)) ?_);rw[if_neg (by rw[not_or];exact⟨I,by rw[b];simp⟩),K];rfl
theorem Ia{q:fH}{L:et}{h:fH}:News q L h (sh q L h):=λU J=>wH.mp J
set_option tactic.hygienic true in
theorem OZ{q:fH}{L:et}{h:fH}{d:et}{o:fM}(K:h.get? d=d9 o)(I:d≠L)(W:q.get? d=eh):
  ∃i f,sh q L h=i++(d,o)::f∧(∀p∈i,p.1≠d)∧∀p∈f,p.1≠d:=by
 have G:((sh q L h).map (·.1)).Nodup:=by
  unfold sh;have g:∀(l:List Nat),l.Nodup->((l.filterMap λa=>if a=L∨(q.get? a).isSome then eh else(h.get? a).map λo=>(a,o)).map (·.1)).Nodup:=by
   intro l
   induction l with
   |nil=>intro _;exact og
   |cons x r D=>
    intro c;refine qo c λZ E=>?_;rw[DL]
    split
    ·exact D E
    ·rename_i y B
     rw[gj];refine kG.mpr ⟨?_,D E⟩;intro Y;refine fP Y λp J C=>?_;refine eR (D4.mp J) λa M j=>?_;have R:y.1=x:=by
      split at B
      ·exact nS B
      ·(refine wG B λo U O=>?_;(clear Y C B;obtain rfl:=O));rfl
     have O:p.1=a:=by
      split at j
      ·exact nS j
      ·(refine wG j λo U b=>?_;(clear J C j;obtain rfl:=b));rfl
     rw[←O,C,R] at M;exact Z M
  exact g _ List.nodup_range
 refine ur (List.append_of_mem (wH (q:=q) (L:=L) (h:=h) (p:=(d,o)) |>.mpr ⟨K,I,W⟩)) λi f e=>?_;refine(fS i f e ?_ ?_)
 ·intro p J A
  rw[e,lb,gj,qE] at G;exact G.2.2 _ (jZ J) _ (gp) A
 ·intro p J A
  rw[e,lb,gj,qE] at G;exact(kG.mp G.2.1).1 (mm.mpr (ey p J A))
def Fz(L d:et)(h u:fH):Prop:=∀a o,a≠d->a≠L->h.get? a=d9 o->u.get? a=d9 o
theorem Pw{q h u:fH}{L d:et}{m X:ft->Option ed}{b:fM}{i f:List (et×fM)}{o:fM}(F:Fr q L h m)(A:Fr q L u X)
  (e:sh q L h=i++(d,o)::f) (g:News q L u (i++(d,b)::f)):Fz L d h u:=λa x S I Z=>by
 cases G:q.get? a with
 |some y=>
  have:=F.keep a y G;rw[Z] at this;(replace this:=eX this;subst this);exact A.keep a x G
 |none=>
  have Y:=(wH (p:=(a,x))).mpr ⟨Z,I,G⟩;rw[e] at Y;rcases lc.mp Y with Y|Y
  ·exact(g (a,x) (lc.mpr (eH Y))).1
  ·rcases gy.mp Y with Y|Y
   ·clear I Z G
    cases Y;exact absurd rfl S
   ·exact(g (a,x) (lc.mpr (eI (gu _ Y)))).1
variable{c:Cx}{V:eJ}{H:AH}
theorem jQ.d{h:fH}(R:jQ c H h)(a:et)(o:AO)(e:H a=d9 o){G:Prop}(k:∀n,h.get? a=d9 n->OR c.l c.k o n->G):G:=eR (R.f a o e) k
theorem St.y(O:c.d){s:eZ}(S:St c V H s):c.e.In s.heap:=by
 refine eR S.e λm F U=>?_;exact O.a.keeps F.keep
theorem St.v{s:eZ}(S:St c V H s){u:fH}{d:et}{o X:AO}{L:fM}(D:H d=d9 o)
  (k:∃m,Fr c.f c.h u m∧(match c.i with
   |none=>c.a.locals=c.h∧j6 V m
   |some aa=>m=aa∧∃T,s.heap.Ns c.a.locals T∧j6 V T∧c.a.locals≠c.h∧c.f.get? c.a.locals=eh∧H c.a.locals=eh)) (j:Fz c.h d s.heap u) (l:u.get? d=d9 L) (y:OR c.l c.k X L) {q:Nat}:
  St c V (eQ H d X) { s with heap:=u,toks:=q }:=by
 obtain⟨_,R,P,B,N⟩ :=S;refine eR k λm F Y=>?_;refine⟨(ey m F ?_),⟨λa x Z=>?_,λa x Z=>?_⟩,λa x Z=>?_,B,N⟩
 ·cases i:c.i with
  |none=>rw[i] at Y;exact Y
  |some aa=>
   rw[i] at Y
   (refine kD Y λK T I E=>?_;refine i8 E λW O J U=>?_)
   have b:c.a.locals≠d:=λe=>by rw[e,D] at U;exact iX U
   refine⟨K,T,?_,W,O,J,by rw[fw _ _ b];exact U⟩;refine oF I λh w A C r=>?_;exact(pi h w A (j _ _ b O C) r)
 ·by_cases M:a=d
  ·clear D j
   subst M;rw[gA] at Z;(replace Z:=eX Z;subst Z);exact(ey L l y)
  ·rw[fw _ _ M] at Z
   refine R.d a x Z λf K I=>?_;exact(ey f (j a f M (R.b a x Z).1 K) I)
 ·by_cases M:a=d
  ·clear j l Z
   subst M;exact R.b a o D
  ·rw[fw _ _ M] at Z;exact R.b a x Z
 ·refine mf (P a x Z) λv g p n t=>?_
  have M:a≠d:=λe=>by rw[e,D] at t;exact iX t
  exact⟨j a x M g v,g,p,n,by rw[fw _ _ M];exact t⟩
theorem St.r{s:eZ}(S:St c V H s){u:fH}{d:et}{X:AO}{L:fM}(W:s.heap.get? d=eh)
  (z:∀T o,s.heap.get? T=d9 o->u.get? T=d9 o) (l:u.get? d=d9 L) (y:OR c.l c.k X L) {k:Nat}:
  H d=eh∧St c V (eQ H d X) { s with heap:=u,toks:=k }:=by
 obtain⟨⟨m,F,Y⟩,R,P,B,N⟩ :=S;have q:H d=none:=by
  cases h:H d with
  |none=>rfl
  |some x=>refine R.d d x h λf K aa=>?_;rw[W] at K;exact nS K
 refine⟨q,(ey m (F.keeps z) ?_),⟨λa x Z=>?_,λa x Z=>?_⟩,λa x Z=>?_,B,N⟩
 ·cases i:c.i with
  |none=>rw[i] at Y;exact Y
  |some ac=>
   rw[i] at Y
   (refine kD Y λK Q I b=>?_;refine i8 b λv O J U=>?_)
   have E:c.a.locals≠d:=λe=>by
    refine oF I λj w A C r=>?_;rw[e,W] at C;exact nS C
   exact⟨K,Q,I.keeps z,v,O,J,by rw[fw _ _ E];exact U⟩
 ·by_cases M:a=d
  ·clear W q
   subst M;rw[gA] at Z;(replace Z:=eX Z;subst Z);exact(ey L l y)
  ·rw[fw _ _ M] at Z
   refine R.d a x Z λf K I=>?_;exact(ey f (z a f K) I)
 ·by_cases M:a=d
  ·clear l q Z
   subst M
   constructor
   ·rintro rfl
    refine oF F.ns λj w A C r=>?_;rw[W] at C;exact nS C
   ·cases h:c.f.get? a with
    |none=>rfl
    |some G=>have:=F.keep a G h;rw[W] at this;exact nS this
  ·rw[fw _ _ M] at Z;exact R.b a x Z
 ·refine mf (P a x Z) λD g p n t=>?_
  have M:a≠d:=λe=>by rw[e,W] at D;exact nS D
  exact⟨z a x D,g,p,n,by rw[fw _ _ M];exact t⟩
theorem St.i{s:eZ}(S:St c V H s){u:fH}{d:et}{X:AO}{L:fM}(W:s.heap.get? d=eh)
  (z:∀a o,s.heap.get? a=d9 o->u.get? a=d9 o) (l:u.get? d=d9 L) (y:OR c.l c.k X L) {k:Nat} {G:Prop} (N:H d=eh->St c V (eQ H d X) { s with heap:=u,toks:=k }->G):G:=fe (St.r S W z l y) N
theorem St.k{s:eZ}(S:St c V H s){u:fH}(z:∀L o,s.heap.get? L=d9 o->u.get? L=d9 o){k:Nat}:St c V H { s with heap:=u,toks:=k }:=by
 obtain⟨⟨m,F,Y⟩,R,P,B,N⟩ :=S;refine⟨(ey m (F.keeps z) ?_),⟨λa x Z=>?_,R.b⟩,λa x Z=>⟨z a x (P a x Z).1,(P a x Z).2⟩,B,N⟩
 ·cases i:c.i with
  |none=>rw[i] at Y;exact Y
  |some d=>
   rw[i] at Y;refine kD Y λK Q I W=>?_;exact⟨K,Q,I.keeps z,W⟩
 ·refine R.d a x Z λf K I=>?_
  exact(ey f (z a f K) I)
theorem St.g{s:eZ}(S:St c V H s)(k:Nat):St c V H { s with toks:=k }:=S.k (u:=s.heap) λU U e=>e
theorem St.N{s:eZ}(S:St c V H s){M:AH}(z:∀a o,M a=d9 o->H a=d9 o):St c V M s:=by
 obtain⟨⟨m,F,Y⟩,R,P,B,N⟩ :=S;refine⟨(ey m F ?_),⟨λa x Z=>R.f a x (z _ _ Z),λa x Z=>R.b a x (z _ _ Z)⟩,λa x Z=>?_,B,N⟩
 rotate_left
 ·refine mf (P a x Z) λD g p n t=>?_
  refine⟨D,g,p,n,?_⟩;cases h:M a with
  |none=>rfl
  |some y=>rw[z _ _ h] at t;exact iX t
 cases i:c.i with
 |none=>rw[i] at Y;exact Y
 |some d=>
  rw[i] at Y
  (refine kD Y λK Q b I=>?_;refine i8 I λW O J U=>?_)
  refine⟨K,Q,b,W,O,J,?_⟩;cases h:M c.a.locals with
  |none=>rfl
  |some x=>rw[z _ _ h] at U;exact iX U
noncomputable def pg(H:AH)(a:et):AH:=λb=>if b=a then eh else H b
theorem Cc(H:AH){a b:et}(h:b≠a):pg H a b=H b:=if_neg h
theorem yV(H:AH)(a:et):pg H a a=none:=if_pos rfl
noncomputable def gO(c:Cx)(p:List (et×fM)):Cx:={ c with j:=λa o=>(a,o)∈p∨c.j a o }
theorem Cx.d.k(O:c.d){p:List (et×fM)}:(gO c p).d:=⟨O.g,O.a,O.d,O.e,O.f,O.h,O.b,O.i,O.j⟩
structure rW(c:Cx)(H:AH)(a:et):Prop where
 g:a≠c.h
 e:a≠c.a.locals
 f:c.f.get? a=eh
 d:H a=eh
 b:∀o,¬c.j a o
theorem St.Q{s:eZ}(S:St c V H s){a:et}{o:AO}(M:H a=d9 o):a≠c.h∧a≠c.a.locals∧c.f.get? a=eh∧∀o,¬c.j a o:=by
 refine fe (S.b.b a o M) λK I=>?_;refine⟨K,?_,I,λx Z=>?_⟩
 ·obtain⟨⟨m,F,Y⟩,_⟩ :=S
  cases i:c.i with
  |none=>rw[i] at Y;rw[Y.1];exact K
  |some d=>
   rw[i] at Y
   (refine kD Y λU U U j=>?_;refine i8 j λU U U b=>?_)
   rintro rfl;rw[M] at b;exact iX b
 ·have:=(S.d a x Z).2.2.2.2
  rw[M] at this;exact iX this
theorem St.h{s:eZ}(S:St c V H s){a:et}(W:s.heap.get? a=eh):rW c H a:=by
 obtain⟨⟨m,F,Y⟩,R,P,_,_⟩ :=S;refine⟨?_,?_,?_,?_,λo y=>?_⟩
 ·rintro rfl
  refine oF F.ns λj w A C r=>?_;rw[W] at C;exact nS C
 ·cases i:c.i with
  |none=>
   rw[i] at Y;rw[Y.1];rintro rfl;refine oF F.ns λj w A C r=>?_;rw[W] at C;exact nS C
  |some d=>
   rw[i] at Y;refine kD Y λU U I U=>?_;rintro rfl;refine oF I λj w A C r=>?_;rw[W] at C;exact nS C
 ·cases h:c.f.get? a with
  |none=>rfl
  |some b=>have:=F.keep a b h;rw[W] at this;exact nS this
 ·cases h:H a with
  |none=>rfl
  |some x=>refine R.d a x h λf K U=>?_;rw[W] at K;exact nS K
 ·have:=(P a o y).1;rw[W] at this;exact nS this
theorem St.f{s:eZ}{p v:List (et×fM)}(S:St (gO c p) V H s)(l:∀a∈p,∀o,¬c.j a.1 o){u:fH}(z:∀aa o,(∀a∈p,a.1≠aa)->s.heap.get? aa=d9 o->u.get? aa=d9 o)
  (J:∀a∈v,u.get? a.1=d9 a.2∧((∃o,(a.1,o)∈p)∨s.heap.get? a.1=eh)) {n:Nat}:St (gO c v) V H { s with heap:=u,toks:=n }:=by
 have U:=S;obtain⟨⟨m,F,Y⟩,R,P,B,N⟩ :=S;have X:∀a∈p,a.1≠c.h∧a.1≠c.a.locals∧c.f.get? a.1=eh∧H a.1=none:=λa G=>(P a.1 a.2 (eH G)).2;have k:Fr c.f c.h u m:=by
  obtain⟨⟨j,w,A,C,r⟩,h,M⟩ :=F;exact⟨(pi j w A (z _ _ (λa G=>(X a G).1) C) r),λaa x e=>z aa x (λa G O=>by have:=(X a G).2.2.1;rw[O] at this;have e:c.f.get? aa=d9 x:=e;rw[e] at this;exact iX this) (h aa x e),M⟩
 refine⟨(ey m k ?_),⟨λaa x Z=>?_,R.b⟩,λaa x Z=>?_,B,N⟩
 ·have Y:(match c.i with
   |none=>c.a.locals=c.h∧j6 V m
   |some d=>m=d∧∃Q,s.heap.Ns c.a.locals Q∧j6 V Q∧c.a.locals≠c.h∧c.f.get? c.a.locals=eh∧H c.a.locals=eh):=Y
  show(match c.i with
   |none=>c.a.locals=c.h∧j6 V m
   |some d=>m=d∧∃Q,u.Ns c.a.locals Q∧j6 V Q∧c.a.locals≠c.h∧c.f.get? c.a.locals=eh∧H c.a.locals=eh)
  cases i:c.i with
  |none=>rw[i] at Y;exact Y
  |some d=>
   rw[i] at Y
   (refine kD Y λK Q E W=>?_;refine oF E λj w A C r=>?_)
   exact⟨K,Q,(pi j w A (z _ _ (λa G=>(X a G).2.1) C) r),W⟩
 ·refine R.d aa x Z λf L T=>?_
  exact(ey f (z aa f (λa G e=>by have:=(X a G).2.2.2;rw[e,Z] at this;exact iX this) L) T)
 ·rcases Z with Z|Z
  ·refine fe (J (aa,x) Z) λL T=>?_
   rcases T with ⟨o,y⟩ |b
   ·exact⟨L,X (aa,o) y⟩
   ·have I:=U.h b
    exact⟨L,I.g,I.e,I.f,I.d⟩
  ·refine fe (P aa x (eI Z)) λD g=>?_
   exact⟨z aa x (λa G e=>l a G x (e▸Z)) D,g⟩
theorem St.j{s:eZ}{p:List (et×fM)}(S:St (gO c p) V H s):St c V H s:=by
 obtain⟨f,R,P,B,N⟩ :=S;exact⟨f,⟨R.f,R.b⟩,λa o h=>P a o (eI h),B,N⟩
theorem St.u{s:eZ}{a:et}{o:fM}(S:St c V (eQ H a (.c o)) s)(W:H a=eh):St (gO c [(a,o)]) V H s:=by
 have Y:=S.Q (gA _ _ _);refine S.b.d a _ (gA _ _ _) λf L T=>?_;obtain rfl:f=o:=T;have g:=S.N (M:=H) λb x Z=>by
  rw[fw _ _ (λe=>by rw[e,W] at Z;exact nS Z)];exact Z
 obtain⟨d,R,P,B,N⟩ :=g;refine⟨d,⟨R.f,R.b⟩,λb x Z=>?_,B,N⟩;rcases Z with Z|Z
 ·clear S
  obtain⟨rfl,rfl⟩ :b=a∧x=f:=by simpa using Z
  exact⟨L,Y.1,Y.2.1,Y.2.2.1,W⟩
 ·exact P b x Z
theorem St.F{s:eZ}{a:et}{o:fM}(S:St (gO c [(a,o)]) V H s)(l:∀T,¬c.j a T):H a=eh∧St c V (eQ H a (.c o)) s:=by
 have f:=S.j;obtain⟨Q,q,y,u,L⟩ :=S;refine mf (y a o (eH (by simp))) λD g p n t=>?_;obtain⟨⟨m,F,Y⟩,R,P,B,N⟩ :=f;refine⟨t,(ey m F ?_),⟨λb T Z=>?_,λb T Z=>?_⟩,λb T Z=>?_,B,N⟩
 ·cases i:c.i with
  |none=>rw[i] at Y;exact Y
  |some d=>
   rw[i] at Y
   (refine kD Y λK h I C=>?_;refine i8 C λW O J U=>?_)
   exact⟨K,h,I,W,O,J,(fw _ _ (gM p)).trans U⟩
 ·by_cases j:b=a
  ·clear l y g p n t
   clear Q q L;subst j;rw[gA] at Z;(replace Z:=eX Z;subst Z);exact(ey o D rfl)
  ·rw[fw _ _ j] at Z;exact R.f b T Z
 ·by_cases j:b=a
  ·clear l y D p t Z
   clear Q q L;rw[j];exact⟨g,n⟩
  ·rw[fw _ _ j] at Z;exact R.b b T Z
 ·refine mf (P b T Z) λA r X k z=>?_
  have j:b≠a:=λe=>l T (e▸Z);exact⟨A,r,X,k,by rw[fw _ _ j];exact z⟩
theorem St.B{s:eZ}(S:St c V H s):∃m,s.heap.Ns c.a.locals m∧j6 V m:=by
 obtain⟨⟨m,F,Y⟩,R,P,B,N⟩ :=S;cases i:c.i with
 |none=>rw[i] at Y;exact(ey m (Y.1▸F.ns) Y.2)
 |some d=>rw[i] at Y;(refine kD Y λK Q I J=>?_;refine fe J λW U=>?_);exact(ey Q I W)
theorem St.w{s:eZ}(S:St c V H s){u:fH}{x:String}{v:ed}{m:ft->Option ed}(C:s.heap.Ns c.a.locals m)(Y:j6 V m)
  (W:u.Ns c.a.locals (λaa=>if aa=eE x then d9 v else m aa)) (j:qH c.a.locals s.heap u) {k:Nat}:St c (ic V x (nv v)) H { s with heap:=u,toks:=k }:=by
 obtain⟨⟨X,F,A⟩,R,P,B,N⟩ :=S;have G:∀a o,c.j a o->u.get? a=d9 o∧a≠c.h∧a≠c.a.locals∧c.f.get? a=eh∧H a=none:=λa x Z=>by
  refine i8 (P a x Z) λD g p n=>?_;exact⟨(j.2 a p).trans D,g,p,n⟩
 cases i:c.i with
 |none=>
  rw[i] at A;have T:c.a.locals=c.h:=A.1;rw[T] at W j C;refine⟨(ey _ (F.set W j) ?_),⟨λa x Z=>?_,R.b⟩,G,B,N⟩
  ·rw[i];exact⟨T,Y.a x v⟩
  ·refine R.d a x Z λf K I=>?_
   exact(ey f ((j.2 a (R.b a x Z).1).trans K) I)
 |some d=>
  rw[i] at A
  (refine kD A λK Q I q=>?_;refine i8 q λe O J U=>?_)
  refine⟨(ey X (F.change j O J) ?_),⟨λa aa Z=>?_,R.b⟩,G,B,N⟩
  ·rw[i];exact⟨K,_,W,Y.a x v,O,J,U⟩
  ·refine R.d a aa Z λf L b=>?_
   refine(ey f ((j.2 a ?_).trans L) b);rintro rfl;rw[U] at Z;exact nS Z
theorem lw{x:String}{d:fE}{v:ed}{Q:ed->AH->Prop}(O:c.d)(Z:c.a.kindOf (eE x)=d9 eu)(N:V x=d9 v)(h:Q v H)
  (D:(eE x==("__debug__":ft))=em):TE c (gk (eE x) d) V H Q:=λE s S=>by
 refine eR S.B λm W Y=>?_
 (refine eR (Y x v N) λb K e=>?_;(clear N;obtain rfl:=e))
 exact wpAny_Name (wpAny_loadName_local O.b Z W K (ey H S h)) D
theorem N7{x:String}{d:fE}{v:ed}{Q:ed->AH->Prop}(O:c.d)(Z:c.a.kindOf (eE x)=d9 eY)
  (e:jg c.e j4 (eE x)=d9 (d9 v)) (h:Q (nv v) H)
  (D:(eE x==("__debug__":ft))=em):TE c (gk (eE x) d) V H Q:=λE s S=>by
 refine eR S.e λm F U=>?_;exact KW O.b Z (Xi (O.i▸O.d.g.keeps F.keep) (mg_of O.a O.d.g e) (ey H S h)) D
theorem rV{x:String}{d:fE}{v:ed}{Q:ed->AH->Prop}(O:c.d)(Z:c.a.kindOf (eE x)=d9 eY)
  (e:jg c.e j4 (eE x)=d9 eh) (N:uY (eE x)=d9 v) (W:eE x≠"__name__") (h:Q (nv v) H)
  (D:(eE x==("__debug__":ft))=em):TE c (gk (eE x) d) V H Q:=λE s S=>by
 refine eR S.e λm F U=>?_;exact KW O.b Z (loadGlobal_builtin (O.i▸O.d.g.keeps F.keep) (mg_none_of O.a O.d.g e) (O.j▸O.d.b.keeps F.keep) ((O.d.builtins _ W).trans N) (ey H S h)) D
def TN(c:Cx)(x:String)(v:ed)(V:eJ)(H:AH)(Q:eJ->AH->Prop):Prop:=
 ∀E s b,St c V H s->nv b=v->fi c.g c.b (storeName c.a (eE x) b) (λU P=>∃l M,St c l M P∧Q l M) E s
theorem oU{x:String}{v:ed}{Q:eJ->AH->Prop}(O:c.d)(Z:c.a.kindOf (eE x)=d9 eu)(h:Q (ic V x v) H):TN c x v V H Q:=λE s b S N=>by
 refine eR S.B λm W Y=>?_;refine Lr Z W (λu K I=>(ib _ H (S.w W Y K I) (N▸h))) ?_;rw[O.b];rfl
theorem tP{x:String}{z:fE}{e:eP}{d:fE}{Q:gr->eJ->AH->Prop}
  (h:TE c e V H (λv M=>TN c x v V M (λl i=>Q fY l i)))
  (O:tL e (d9 (gk (eE x) z)) d.line c.a=f9 em):T1 c (lm [gk (eE x) z] e d) V H Q:=λE s S=>by
 refine wpAny_Assign_Name (fc (h E s S) (λv P G=>?_) λU U x=>x) O;refine eR G λM R A=>?_;exact fc (A E P v R rfl) (λU g A=>A) λU U x=>x
theorem yr{i:Int}{k d}{Q:ed->AH->Prop}(h:Q (vi i) H):TE c (oR (.int i) k d) V H Q:=λE s S=>
 wpAny_Constant_int (ey H (S.g _) h)
theorem Fn{k d}{Q:ed->AH->Prop}(h:Q ez H):TE c (oR .none k d) V H Q:=λE s S=>wpAny_Constant_none (ey H S h)
theorem Fg{b k d}{Q:ed->AH->Prop}(h:Q (fF b) H):TE c (oR (.bool b) k d) V H Q:=λE s S=>wpAny_Constant_bool (ey H S h)
theorem Od{x:ft}{k d}{Q:ed->AH->Prop}(h:Q (eC x 0) H):TE c (oR (.str x) k d) V H Q:=λE s S=>wpAny_Constant_str (ey H (S.g _) h)
end
section
variable{c:Cx}{V:eJ}{H:AH}
def TA(c:Cx)(w:List eP)(V:eJ)(H:AH)(Q:List ed->AH->Prop):Prop:=
 ∀E s d,St c V H s->fi c.g c.b (spliced (qK d (kB w c.a))) (λJ P=>∃M,St c V M P∧Q (J.map nv) M) E s
def TC(c:Cx)(f:ed)(w:List ed)(V:eJ)(H:AH)(Q:ed->AH->Prop):Prop:=
 ∀E s J,St c V H s->J.map nv=w->fi c.g c.b (xX f J []) (λv P=>∃M,St c V M P∧Q (nv v) M) E s
theorem kC{Q:List ed->AH->Prop}(h:Q [] H):TA c [] V H Q:=λE s d S=>spliced_nil (ey H S h)
theorem jk{e:eP}{w:List eP}{Q:List ed->AH->Prop}(h:TE c e V H (λv Z=>TA c w V Z (λJ T=>Q (v::J) T)))
  (n:∀B,kB (e::w) B=(em,jc e B)::kB w B):TA c (e::w) V H Q:=λE s d S=>by
 rw[n];refine spliced_cons (fc (h E s S) (λv P G=>?_) λU U x=>x);refine eR G λM R A=>?_;exact fc (A E P d R) (λJ g Y=>eR Y λi a b=>⟨i,a,b⟩) λU U x=>x
def nH(c:Cx)(f:ed):Prop:=∀h,c.e.In h->∃k,(k=Keeper.frame∨k=xS∨k=Keeper.boundFrame)∧Looks c.g h (keeperOf f) k
theorem vc{f:ed}(h:tG c.e f=eb):nH c f:=λJ X=>keeps_K h J X
theorem nH.b{T:String}:nH c (eK T):=λJ X=>(ey (xS) (eI (eH rfl)) (AZ rfl))
theorem nH.a{T:String}:nH c (iP T):=λJ X=>(ey (xS) (eI (eH rfl)) (AZ rfl))
noncomputable def iQ:List eP->Bool
 |[]=>eb
 |KZ .. ::_=>em
 |_::r=>iQ r
theorem tf{e:eP}{r:List eP}(h:iQ (e::r)=eb):iQ r=eb∧(∀B,kB (e::r) B=(em,jc e B)::kB r B)∧∀B,A6 (e::r) B=(em,om e B)::A6 r B:=by
 cases e<;>first|exact⟨h,λU=>rfl,λU=>rfl⟩ |exact absurd h Wh
theorem qp{d:fE}{B:iN}{w:List eP}(h:iQ w=eb):(qK d (kB w B)).any (·.1)=false:=by
 induction w with
 |nil=>rfl
 |cons e r D=>rw[(tf h).2.1];exact D (tf h).1
theorem sQ{M:Model}{A:j0}{E:ed->eZ->Prop}{s:eZ}{f:ed}{d:fE}{B:iN}{w:List eP}{Q:Args->eZ->Prop}(W:iQ w=eb)
  (h:fi M A (spliced (qK d (kB w B))) (λJ P=>Q ⟨J,[]⟩ P) E s):fi M A (evalArgs f eb (qK d (kB w B)) []) Q E s:=by
 cases w with
 |nil=>exactλL p R=>evalArgs_nil3 (h L p R) L p R
 |cons e r=>rw[(tf W).2.1] at h ⊢;exact evalArgs_plain h
theorem Br{f:ed}{first:List ed}{w:List eP}{d:fE}{Q:ed->AH->Prop}(O:c.d)(W:iQ w=eb)(z:nH c f)
  (h:TA c w V H (λJ M=>TC c f (first.map nv++J) V M Q)) {E s} (S:St c V H s):
  fi c.g c.b (callWith d f first (qK d (kB w c.a)) []) (λv P=>∃M,St c V M P∧Q (nv v) M) E s:=by
 refine xW (P:=λh=>c.e.In h) (by rw[qp W];rfl) z (sQ W (fc (h E s d S) (λJ P G=>?_) λU U x=>x));refine eR G λM R A=>?_;exact⟨R.y O,A E P (first++J) R (by rw[lb])⟩
theorem tT{x:ft}{r d:fE}{w:List eP}{Q:ed->AH->Prop}{f:ed}(O:c.d)(W:iQ w=eb)
  (l:TE c (gk x r) V H (λv M=>v=f∧nv f=f∧(∀u,nv u=f->u=f)∧nH c f∧TA c w V M (λJ i=>TC c f J V i Q))):TE c (jr (gk x r) w [] d) V H Q:=λE s S=>by
 refine u6 (fc (l E s S) (λv P G=>?_) λU U x=>x);refine uq G λM R A K I z Z=>?_;clear l K;clear G;obtain rfl:=I v A;exact Br (first:=[]) O W z (by simpa using Z) R
noncomputable def ke(H:AH)(h:fH):List (et×fM):=(AM h.objs.size).filterMap λa=>if(H a).isSome then(h.get? a).map λo=>(a,o) else eh
theorem s9{H:AH}{h:fH}{p:et×fM}:p∈ke H h↔(H p.1).isSome=eb∧h.get? p.1=d9 p.2:=by
 unfold ke;rw(occs:=eO) [D4]
 constructor
 ·rintro⟨a,M,K⟩
  split at K
  ·rename_i W
   (refine wG K λo y R=>?_;(clear K;obtain rfl:=R))
   exact⟨W,y⟩
  ·exact nS K
 ·rintro⟨K,I⟩
  refine(ey p.1 (AI.mpr (l9 I)) ?_);rw[if_pos K,I];rfl
theorem jQ.l{h:fH}(R:jQ c H h):News c.f c.h h (ke H h):=λp J=>by
 refine fe (s9.mp J) λK I=>?_;refine wm K λo y=>?_;exact⟨I,R.b _ _ y⟩
set_option backward.match.sparseCases true in
noncomputable def pC:gr->ed
 |iV v=>v
 |_=>ez
theorem C6(f:gr):pC (nf f)=nv (pC f):=by cases f<;>rfl
noncomputable def iM(c:Cx)(g:fH)(a:et)(B:iN):Cx:=
 { c with t:=c.b,b:=c.b.deeper B,o:=c.n::c.o,n:=B,a:=B,f:=g,h:=a,i:=eh,j:=λU U=>False }
noncomputable def iR(Y:List String)(w:List ed):eJ:=λx=>((Y.zip w).reverse).lookup x
theorem HO{Y:List String}{J:List ed}(x:String):((Y.map eE).zip J).reverse.lookup (eE x)=((Y.zip J).reverse).lookup x:=by
 have g:∀(l:List (String×ed)),(l.map λp=>(eE p.1,p.2)).lookup (eE x)=l.lookup x:=by
  intro l
  induction l with
  |nil=>rfl
  |cons p r D=>
   rw[gj,iw,iw,D];by_cases Z:x=p.1
   ·rw[Z];simp
   ·have:(eE x==eE p.1)=false:=by
     rw(occs:=eO) [beq_eq_false_iff_ne];exactλe=>Z (oG.mp e)
    rw[this,beq_eq_false_iff_ne.mpr Z]
 rw(occs:=eO) [←g,nz]
 congr 2
 rw(occs:=eO) [List.zip_map_left];rfl
theorem B4{Y:List String}{J:List ed}:j6 (iR Y (J.map nv)) (λy=>((Y.map eE).zip J).reverse.lookup y):=by
 intro x v N;unfold iR at N;dsimp only;rw[HO];have g:∀(l:List (String×ed)),(l.map λp=>(p.1,nv p.2)).lookup x=d9 v->∃b,l.lookup x=d9 b∧nv b=v:=by
  intro l
  induction l with
  |nil=>intro h;exact nS h
  |cons p r D=>
   intro h;rw[gj,iw] at h;rw[iw]
   split at h
   ·rename_i e;exact(ey p.2 (by simp_all) (by simpa using h))
   ·exact D h
 refine g _ ?_;rw[nz];rw[W0] at N;exact N
set_option backward.match.sparseCases true in
def lM(c:Cx)(f:ed)(w:List ed)(V:eJ)(H:AH)(Q:ed->AH->Prop):Prop:=
 ∀(E:ed->eZ->Prop) (s:eZ) (J:List ed),St c V H s->J.map nv=w->qL c.g c.b (.call f ⟨J,[]⟩) (λ(r:pQ) (P:eZ)=>match r with|kF (iV v)=>(∃M,St c V M P∧Q (nv v) M)|kF _=>False|xv e=>E e P) s
theorem yq{f:ed}{w:List ed}{Q:ed->AH->Prop}(h:lM c f w V H Q):TC c f w V H Q:=λE s J S N=>yb (h E s J S N)
theorem St.I{G:pQ->eZ->Prop}{s:eZ}(S:St c V H s)(O:c.d):∃m,Fr c.f c.h s.heap m∧Fr c.f c.h (lr s.heap ((ke H s.heap).map (·.1))) m∧Below c.b c.m (c.n::c.o) (lr s.heap ((ke H s.heap).map (·.1)))∧c.f.StaysIn (lr s.heap ((ke H s.heap).map (·.1)))∧
  ∀{ac:iN} {ae:eJ} {H':AH} {s':eZ} {aa:ed},St (iM c (lr s.heap ((ke H s.heap).map (·.1))) s.heap.objs.size ac) ae H' s'->(St c V H' s'->G (kF (iV aa)) s')->G (kF (iV aa)) s':=by
 obtain⟨⟨m,F,Y⟩,R,P,af,aj⟩ :=S;refine i8 (groundX (R:=G) O.g F R.l O.e O.f O.h) λZ T u lv=>?_;refine(wg m F Z T u λ{ac ae H' s' aa} I k=>?_);obtain⟨⟨X,L,ag⟩,y,_,b,E⟩ :=I;have B:∀a o,(lr s.heap ((ke H s.heap).map (·.1))).get? a=d9 o->H' a=none:=λa o l=>by
  cases z:H' a with
  |none=>rfl
  |some x=>
   have:(lr s.heap ((ke H s.heap).map (·.1))).get? a=none:=(y.b _ _ z).2;rw[l] at this;exact iX this
 have N:∀a o,s.heap.get? a=d9 o->H a=eh->(lr s.heap ((ke H s.heap).map (·.1))).get? a=d9 o:=λa o K I=>A2 _ K λq=>by
  refine fP q λaq M n=>?_;have:=(s9.mp M).1;rw[n,I] at this;exact nB this
 refine lv _ _ (mV s.heap.objs.size X (ke H' s'.heap) L y.l (λh d=>k ⟨(ey m h ?_),⟨y.f,λa o e=>?_⟩,λa o e=>?_,b,E⟩))
 ·cases i:c.i with
  |none=>rw[i] at Y;exact Y
  |some ak=>
   rw[i] at Y;obtain⟨K,Q,⟨j,w,A,C,r⟩,W,v,J,U⟩ :=Y;have l:=N _ _ C U;exact⟨K,Q,(pi j w A (L.keep _ _ l) r),W,v,J,B _ _ l⟩
 ·refine y.d a o e λf K I=>?_
  exact(d (a,f) (s9.mpr ⟨by rw[e];rfl,K⟩)).2
 ·obtain⟨D,g,p,z4,t⟩ :=P a o e
  have l:=N _ _ D t;exact⟨L.keep _ _ l,g,p,z4,B _ _ l⟩
noncomputable def qA(H:AH)(L:et)(i:List (Option ed)):AH:=λa=>if L<a then(i[a-(L+1)]?).map .g else H a
def vY(t:jG)(Y:List String)(w:List ed):eJ:=λx=>if t.names.lookup (eE x)=d9 eu then iR Y w x else eh
theorem Gl(k:ft->Option fX)(y:ft):∀(d:List (ft×ed)) (m:ft->Option ed),
  bindL k d m y=if k y=d9 eu then(match d.reverse.lookup y with|some v=>d9 v|none=>m y) else m y:=by
 intro d
 induction d with
 |nil=>intro m;exact(ite_self (m y)).symm
 |cons p r D=>
  intro m;obtain⟨n,v⟩ :=p;show bindL k r (if k n=d9 eu thenλy=>if y=n then d9 v else m y else m) y=_;rw[D,oh,WJ];by_cases z:k y=d9 eu
  ·simp only[z,if_true]
   cases E:r.reverse.lookup y with
   |some u=>simp
   |none=>
    by_cases W:y=n
    ·subst W;simp[z]
    ·simp only[Xc,iw,WL,beq_eq_false_iff_ne.mpr W]
     split<;>simp[W]
  ·simp only[z,if_false]
   split
   ·rename_i K;simp only[ite_eq_right_iff];rintro rfl;exact absurd K z
   ·rfl
theorem Gk(k:ft->Option fX)(y:ft):∀(d:List (ft×ed)) (m:ft->Option ed),
  bindC k d m y=if k y=d9 eu then m y else(match d.reverse.lookup y with|some v=>d9 v|none=>m y):=by
 intro d
 induction d with
 |nil=>intro m;exact(ite_self (m y)).symm
 |cons p r D=>
  intro m;obtain⟨n,v⟩ :=p;show bindC k r (if k n=d9 eu then m elseλy=>if y=n then d9 v else m y) y=_;rw[D,oh,WJ];by_cases z:k y=d9 eu
  ·simp only[z,if_true]
   split
   ·rfl
   ·rename_i K;simp only[ite_eq_right_iff];rintro rfl;exact absurd z K
  ·simp only[z,if_false]
   cases E:r.reverse.lookup y with
   |some u=>simp
   |none=>
    by_cases W:y=n
    ·subst W;simp[z]
    ·simp only[Xc,iw,WL,beq_eq_false_iff_ne.mpr W]
     split<;>simp[W]
theorem OU{n a:Nat}(h:n<a):a=n+1+(a-(n+1)):=by omega
theorem OT(n i:Nat):n+1+i≠n:=by lia
theorem FM(n i:Nat):¬n+1+i<n:=by lia
theorem Fa{f:et}{w:List ed}{Q:ed->AH->Prop}{af W:ft}{v:AU}{ac:List fG}{t:jG}{T kV r E d ct oc:ed}{an od:Option et}{aZ:Array (Option ed)}(O:c.d)
  (ho:c.e.lookup f=d9 ⟨oc,od,xL (lK af W v ac t T kV r E an d ct),aZ⟩) (aC:pR c.e d W=eb) (l:c.b.depth<EE)
  (Y S:List String) (aB:∀s J,c.e.In s.heap->J.length=w.length->Ed s (lK af W v ac t T kV r E an d ct) ⟨J,[]⟩ ((Y.map eE).zip J))
  (aK:∀x∈Y,t.names.lookup (eE x)=d9 eu∨(t.names.lookup (eE x)=d9 fK∧x∈S))
  (aD:∀k,rN k t.names []=((S.map eE).zip (tu k S.length)).reverse)
  (aO:S.Nodup) (aE:∀x∈S,t.names.lookup (eE x)=d9 fK)
  (aF:t.isCoroutine=em) (aH:t.isGenerator=em) (z:t.kind=jH)
  (aA:∀g L,(iM c g L (mM W t L f d)).d->(∀a o,H a=d9 o->a<L)->
   TS (iM c g L (mM W t L f d)) ac (vY t Y w) (qA H L (S.map (iR Y w))) (λj U M=>Q (pC j) M)):
  lM c (ec f) w V H Q:=λav s J hs ae=>by
 have aJ:J.length=w.length:=by rw[←ae,fC]
 refine oC (hs.I O (G:=λ(au:pQ) (P:eZ)=>match au with|kF (iV ag)=>(∃M,St c V M P∧Q (nv ag) M)|kF _=>False|xv e=>av e P)) λba F FG BG u aw=>?_;obtain⟨_,R,_,aI,aS⟩ :=hs;have ak:∀i x k,S[i]? =d9 x->(rN k t.names []).lookup (eE x)=d9 (k+i):=by
  intro i x k Z;refine fL (xz.mp Z) λD n=>?_;rw[aD];apply lookup_of_mem_nodup
  ·rw[nz,D0 (by simp)]
   refine KH.mpr (X5 _ (λa b (e:a≠b)=>?_) aO);exactλq=>e (oG.mp q).symm
  ·rw(occs:=eO) [lI,KF]
   refine⟨i,by simpa using D,?_⟩;rw(occs:=eO) [DR];simp[n]
 have C:∀k,∀y∈(Y.map eE).zip J,t.names.lookup y.1=d9 eu∨(t.names.lookup y.1=d9 fK∧((rN k t.names []).lookup y.1).isSome=eb):=by
  intro k y B;refine fP (rI B).1 λx Z n=>?_;rw[←n];refine(aK x Z).imp id λq=>⟨q.1,?_⟩;refine fL (D5.mp q.2) λi D=>?_;rw[ak i x k D];rfl
 refine(codeAny_call_function (fd:=lK af W v ac t T kV r E an d ct) l (F.keep _ _ (O.a _ _ ho)) rfl aF aH rfl (K' (O.a.keeps F.keep) aC) (aB s J (O.a.keeps F.keep) aJ _ _ _ _ ?_));refine wpAny_newFunctionEnv_cells z (C _) λaz n bc x=>?_;have aG:az=mM W t s.heap.objs.size f d:=n;clear n;subst aG;have h:=x.toInCall.keep;refine⟨(O.d.nolimit.keeps F.keep).keeps h,codeAny_func ?_⟩;refine iH x.done λX tk aW U=>?_;subst aW;have A:Fr (lr s.heap ((ke H s.heap).map (·.1))) s.heap.objs.size X (bindL (mM W t s.heap.objs.size f d).kindOf ((Y.map eE).zip J) λU=>eh):=⟨x.toInCall.ns,λb o e=>h b o (A5 _ e),xG (Et _ _)⟩;have m:(iM c (lr s.heap ((ke H s.heap).map (·.1))) s.heap.objs.size (mM W t s.heap.objs.size f d)).d:=⟨BG,O.a.keeps u,O.d.keeps u,Ec O.e,rfl,z,z,rfl,rfl⟩;have aM:∀a o,H a=d9 o->a<s.heap.objs.size:=λa o aa=>by
  refine R.d a o aa λro K U=>?_;exact l9 K
 have aj:∀a o,qA H s.heap.objs.size (S.map (iR Y w)) a=d9 o->H a=d9 o∨∃i y,S[i]? =d9 y∧a=s.heap.objs.size+1+i∧o=.g (iR Y w y):=by
  intro a o aa;unfold qA at aa
  split at aa
  ·rename_i aL
   rw[lF,Option.map_map,uN] at aa
   (refine eR aa λy B e1=>?_;(clear aa;obtain rfl:=e1))
   exact eI (fS _ y B (OU aL) rfl)
  ·exact eH aa
 have aV:St (iM c (lr s.heap ((ke H s.heap).map (·.1))) s.heap.objs.size (mM W t s.heap.objs.size f d)) (vY t Y w) (qA H s.heap.objs.size (S.map (iR Y w))) { s with heap:=X,toks:=tk }:=by
  refine⟨(ey _ A ?_),⟨λa o aa=>?_,λa o aa=>?_⟩,(λa o q=>q.elim),aI,aS⟩
  ·refine⟨rfl,?_⟩
   intro y ag N;unfold vY at N
   split at N
   ·rename_i B
    rw(occs:=eO) [Gl];rw(occs:=eO) [if_pos (show(mM W t s.heap.objs.size f d).kindOf (eE y)=d9 eu from B)];refine eR (B4 (Y:=Y) (J:=J) y ag (ae▸N)) λv' K I=>?_;dsimp only at K;exact(ey v' (by rw(occs:=eO) [K]) I)
   ·exact nS N
  ·rcases aj a o aa with G|⟨i,y,B,rfl,rfl⟩
   ·refine R.d a o G λro K I=>?_
    exact(ey ro (h _ _ K) I)
   ·have I:=ak i y (s.heap.objs.size+1) B
    refine eR (x.cell _ _ I) λaY aQ aR=>?_;refine(ey aY aQ (ey _ aR ?_));rw(occs:=eO) [Gk];have aP:(mM W t s.heap.objs.size f d).kindOf (eE y)=d9 fK:=aE y (tt B);rw(occs:=eO) [aP];simp only[reduceCtorEq,if_false,Xd];have hz:iR Y w y=(((Y.map eE).zip J).reverse.lookup (eE y)).map nv:=by
     rw[HO,←ae];unfold iR;rw[W0,←nz];generalize (Y.zip J).reverse=aX
     induction aX with
     |nil=>rfl
     |cons p au ih=>
      rw(occs:=eO) [gj,iw,iw];dsimp only[Prod.map];by_cases hp:y=p.1
      ·rw[hp];simp
      ·have aq:(y==p.1)=false:=beq_eq_false_iff_ne.mpr hp
       have aT:(y==id p.1)=false:=aq;rw[aq,aT];exact ih
    rw[hz];cases((Y.map eE).zip J).reverse.lookup (eE y)<;>rfl
  ·rcases aj a o aa with G|⟨i,y,B,rfl,rfl⟩
   ·refine R.d a o G λro K I=>?_
    exact⟨rJ (l9 K),A3 _ (jZ (s9 (p:=(a,ro)) |>.mpr ⟨by rw[G];rfl,K⟩))⟩
   ·refine⟨OT _ _,?_⟩
    cases q:(lr s.heap ((ke H s.heap).map (·.1))).get? (s.heap.objs.size+1+i) with
    |none=>exact q
    |some o=>exact absurd (l9 (A5 _ q)) (FM _ _)
 refine fc (aA _ _ m aM _ _ aV) (λj P G=>?_) λU U x=>x;refine iH G λbe M I aU=>?_;exact aw I λh3=>(ey M h3 (C6 j▸aU))
theorem Ig{l:List (ft×fX)}{k:Nat}{z:List (ft×et)}(h:∀x∈l,x.2≠fK):rN k l z=z:=by
 induction l with
 |nil=>rfl
 |cons p r D=>
  show(if(p.2==fK)=eb then _ else rN k r z)=z;rw[if_neg (by simpa using h p (gp ..))];exact D λx Z=>h x (gC _ Z)
theorem E9{f:et}{w:List ed}{Q:ed->AH->Prop}{D W:ft}{v:AU}{B:List fG}{t:jG}{T i r E d N C:ed}{S G:Option et}{K:Array (Option ed)}(O:c.d)
  (ho:c.e.lookup f=d9 ⟨C,G,xL (lK D W v B t T i r E S d N),K⟩) (aa:pR c.e d W=eb) (l:c.b.depth<EE)
  (Y:List String) (u:∀s J,c.e.In s.heap->J.length=w.length->Ed s (lK D W v B t T i r E S d N) ⟨J,[]⟩ ((Y.map eE).zip J))
  (I:∀x∈Y,t.names.lookup (eE x)=d9 eu) (A:∀x∈t.names,x.2≠fK)
  (b:t.isCoroutine=em) (F:t.isGenerator=em) (z:t.kind=jH)
  (h:∀g L,(iM c g L (kS W t L f d [])).d->TS (iM c g L (kS W t L f d [])) B (iR Y w) H (λj U M=>Q (pC j) M)):
  lM c (ec f) w V H Q:=by
 refine Fa O ho aa l Y [] u (λx Z=>eH (I x Z)) (λk=>Ig A) og (λU h=>absurd h iI) b F z λg L m y=>?_;have R:mM W t L f d=kS W t L f d []:=by unfold mM;rw[Ig A]
 have n:qA H L ([].map (iR Y w))=H:=funext λa=>by
  show(if L<a then eh else H a)=H a
  split
  ·rename_i q;cases e:H a with
   |none=>rfl
   |some o=>exact absurd (y a o e) (W4 q)
  ·rfl
 have p:vY t Y w=iR Y w:=funext λx=>by
  show(if _ then _ else eh)=_
  split
  ·rfl
  ·rename_i q
   cases e:iR Y w x with
   |none=>rfl
   |some ac=>
    refine iH (List.lookup_eq_some_iff.mp e) λX l2 P U=>?_;exact absurd (I x (rI (lI.mp (P▸WP X (gp ..)))).1) q
 rw[R] at m ⊢;rw[n,p];exact h g L m
noncomputable def kW(a:String)(v:ed):List (String×ed)->List (String×ed)
 |[]=>[(a,v)]
 |p::r=>if p.1=a then(p.1,v)::r else p::kW a v r
theorem zV{a:String}{v:ed}{p:String×ed}{r:List (String×ed)}:kW a v (p::r)=if p.1=a then(p.1,v)::r else p::kW a v r:=rfl
theorem IB{D:ft}{Z:Int}{k v:ed}{e:uQ}{r:List uQ}:putL D Z k v (e::r)=if e.key.isStr D then⟨e.hash,e.key,v⟩ ::r else e::putL D Z k v r:=rfl
theorem wq{k:ed}{a:String}:k.isStr (eE a)=eb↔nv k=eC (eE a) 0:=by
 cases k<;>simp[Value.isStr,nv]
set_option tactic.hygienic true in
theorem Il{w:List uQ}{y:List (String×ed)}{a:String}{u:ed}(h:w.map (λe=>(nv e.key,nv e.val))=y.map (λp=>(eC (eE p.1) 0,p.2)))
  (C:y.lookup a=d9 u):∃v,getL (eE a) w=d9 (d9 v)∧nv v=u:=by
 induction y generalizing w with
 |nil=>exact nS C
 |cons p r D=>
  cases w with
  |nil=>exact nL h
  |cons e w=>
   rw[gj,gj,uG,AT] at h
   (refine fe h λL W=>?_;refine fe L λK I=>?_)
   rw[iw] at C;by_cases J:a=p.1
   ·clear D
    subst J;simp only[beq_self_eq_true,Xd] at C;refine(ey e.val ?_ (by rw[I,C]));unfold getL;rw[DO (by exact wq.mpr K)]
   ·rw[beq_eq_false_iff_ne.mpr J] at C
    refine eR (D W C) λv F H=>?_;refine(ey v ?_ H);have Y:¬(e.key.isStr (eE a)=eb):=λq=>by
     rw[wq,K] at q;injection q with q
     exact J (oG.mp q).symm
    have O:∃G,w.find? (·.key.isStr (eE a))=d9 G∧G.val=v:=by
     unfold getL at F
     split at F
     ·rename_i G Z;exact(ey G Z (by simpa using F))
     ·split at F<;>cases F
    refine eR O λG s j=>?_;unfold getL;rw[DN (by exact Y),s];exact congrArg (λz=>d9 (d9 z)) j
theorem RL{w:List uQ}{y:List (String×ed)}(h:w.map (λe=>(nv e.key,nv e.val))=y.map (λp=>(eC (eE p.1) 0,p.2))):
  w.any (·.refKey)=false:=by
 rw(occs:=eO) [DK];intro e n;have Y:(nv e.key,nv e.val)∈y.map (λp=>(eC (eE p.1) 0,p.2)):=h▸jZ n;refine fP Y λp J G=>?_;rw[AT] at G;refine fL (RQ G.1.symm) λt z=>?_;simp[DictEntry.refKey,z]
theorem Im{w:List uQ}{y:List (String×ed)}{a:String}(h:w.map (λe=>(nv e.key,nv e.val))=y.map (λp=>(eC (eE p.1) 0,p.2)))
  (C:y.lookup a=eh):getL (eE a) w=d9 none:=by
 unfold getL;have l:w.find? (·.key.isStr (eE a))=none:=by
  rw(occs:=eO) [List.find?_eq_none];intro e n q;have Y:(nv e.key,nv e.val)∈y.map (λp=>(eC (eE p.1) 0,p.2)):=h▸jZ n;refine fP Y λp J G=>?_;rw[AT,wq.mp q] at G;have:p.1=a:=by have:=G.1;injection this with this;exact oG.mp this
  rw[WK] at C;have:=C p J
  simp_all
 rw[l,RL h];rfl
theorem RM{w:List uQ}{y:List (String×ed)}{a:String}{Z:Int}{t:Tok}{v:ed}(h:w.map (λe=>(nv e.key,nv e.val))=y.map (λp=>(eC (eE p.1) 0,p.2))):
  (putL (eE a) Z (eC (eE a) t) v w).map (λe=>(nv e.key,nv e.val))=(kW a (nv v) y).map (λp=>(eC (eE p.1) 0,p.2)):=by
 induction y generalizing w with
 |nil=>
  cases w with
  |nil=>rfl
  |cons e w=>exact wI h
 |cons p r D=>
  cases w with
  |nil=>exact nL h
  |cons e w=>
   rw[gj,gj,uG,AT] at h
   (refine fe h λT W=>?_;refine fe T λK I=>?_)
   rw[IB,zV];by_cases J:p.1=a
   ·clear D
    subst J;rw[if_pos (wq.mpr K),if_pos rfl,gj,gj,K,W]
   ·have Y:¬(e.key.isStr (eE a)=eb):=λq=>by
     rw[wq,K] at q;injection q with q
     exact J (oG.mp q)
    rw[if_neg Y,if_neg J,gj,gj,K,I,D W]
theorem S3{D:ft}{Z:Int}{k v:ed}:∀w:List uQ,(putL D Z k v w).length≤w.length+1:=by
 intro w
 induction w with
 |nil=>exact ig _
 |cons e r a=>
  rw[IB];by_cases h:e.key.isStr D=eb
  ·rw[if_pos h];exact xH _
  ·rw[if_neg h];exact D9 a
def PB(w:eP):Prop:=∀(R:ft) (B:iN) (Z:Sem ed),Ld w R B Z=Z
def CA(c:Cx)(C:et)(a:String):Prop:=Ew c.e C (eE a)=eb∧Er c.e C=eb∧rL c.e (ec C) (eE a)=d9 eh
def CS(c:Cx)(C:et)(a:String):Prop:=rL c.e (ec C) "__setattr__"=d9 (d9 (iP "object.__setattr__"))∧plainOver c.e C=eb∧takerIn c.e C (eE a)=d9 eh∧Er c.e C=eb
theorem jQ.m{h:fH}(R:jQ c H h){x C d:et}{y:List (String×ed)}(Z:H x=d9 (.h C d))(D:H d=d9 (.b y)):
  ∃w n,h.get? d=d9 (A1 w n)∧w.map (λa=>(nv a.key,nv a.val))=y.map (λp=>(eC (eE p.1) 0,p.2))∧InstAt h x (instObj C d) C (d9 (A1 w n)):=by
 refine R.d x _ Z λT K I=>?_
 (refine R.d d _ D λG W A=>?_;refine iH A λw n O J=>?_)
 have I:T=instObj C d:=I;clear A;subst I O;exact(fS w n W J ⟨K,rfl,rfl,W⟩)
theorem qR{w:eP}{a:String}{g:fE}{Q:ed->AH->Prop}(O:c.d)(j:PB w)
  (h:TE c w V H (λv M=>∃x C d y u,v=ec x∧M x=d9 (.h C d)∧M d=d9 (.b y)∧y.lookup a=d9 u∧CA c C a∧Ep u=eb∧Q u M)):
  TE c (jM w (eE a) g) V H Q:=λE s S=>by
 refine Attribute_any_ (fc (h E s S) (λv P G=>?_) λU U x=>x) ?_
 ·obtain⟨M,R,x,C,d,y,u,N,Z,D,e,⟨p,t,z⟩,B,G⟩ :=G
  obtain rfl:=gX N;obtain⟨i,n,L,T,I⟩ :=R.b.m Z D;obtain⟨b,X,f⟩ :=Il T e;obtain⟨m,F,_⟩ :=R.e;refine get_own F O.a I p t z rfl X ?_ (ey M (R.g _) (f▸G));clear e G;subst f;clear X;cases b<;>first|rfl|exact B
 ·show(do let o←Ld w (eE a) c.a (jc w c.a);EG g.atName;let r←holding [o] (getAttr o (eE a) eb);letTemporaryGo w o r;f9 r)=_
  rw[j _ _ _]
def qf(c:Cx)(r:ed)(a:String)(v:ed)(V:eJ)(H:AH)(Q:AH->Prop):Prop:=
 ∀E s b,St c V H s->nv b=v->fi c.g c.b (setAttr r (eE a) b) (λU P=>∃M,St c V M P∧Q M) E s
theorem pZ{x C d:et}{y:List (String×ed)}{a:String}{v:ed}{Q:AH->Prop}(O:c.d)(Z:H x=d9 (.h C d))(D:H d=d9 (.b y))(X:CS c C a)(M:y.length<1000)
  (h:Q (eQ H d (.b (kW a v y)))):qf c (ec x) a v V H Q:=λE s b S r=>by
 refine i8 X λp t z J=>?_;refine fT (S.b.m Z D) λw n L T I=>?_;have B:=S;obtain⟨⟨m,F,Y⟩,R,P,aa,ae⟩ :=S;refine fe (R.b _ _ D) λj q=>?_;refine fT (OZ L j q) λi f e p1 p2=>?_;have N:=Ia (q:=c.f) (L:=c.h) (h:=s.heap);have g:News c.f c.h s.heap (i++(d,A1 w n)::f):=e▸N;have ac:w.length=y.length:=by have:=congrArg qB T;simpa using this
 have o:(lookIn (eE a) (A1 w n)).isSome=true:=by
  rw(occs:=eO) [lookIn_dict];cases k:y.lookup a with
  |some af=>refine eR (Il T k) λW l1 U=>?_;rw(occs:=eO) [l1];rfl
  |none=>rw(occs:=eO) [Im T k];rfl
 refine set_plain (O.a.keeps F.keep) I p ?_;refine osa_dict (s:={ s with toks:=s.toks+1 }) (es:=putL (eE a) (K8 c.k.params (eE a)) (eC (eE a) (s.toks+1)) b w) (n:=putN (eE a) w n) F g (O.a.keeps F.keep) I rfl t z J o p1 p2 (putName_dict _ _ _ _ _ _) rfl ?_ λu A K=>?_
 ·have:=@S3 (eE a) (K8 c.k.params (eE a)) (eC (eE a) (s.toks+1)) b w
  lia
 ·have G:=Pw F A e K
  have l:=(K (d,_) (lc.mpr (eI (gL _)))).1;exact(ey _ (B.v (X:=.b (kW a v y)) D (ey m A Y) G l (ib _ _ rfl (r▸RM T))) h)
theorem pY{o:eP}{a:String}{p d:fE}{e:eP}{Q:gr->eJ->AH->Prop}
  (h:TE c e V H (λv Z=>TE c o V Z (λr T=>∃x,r=ec x∧qf c (ec x) a v V T (λL=>Q fY V L))))
  (O:tL e (d9 (jM o (eE a) p)) d.line c.a=f9 em):T1 c (lm [jM o (eE a) p] e d) V H Q:=λE s S=>by
 refine plainObj_wpAny_Assign_Attribute (fc (h E s S) (λv P G=>?_) λU U x=>x) O;refine eR G λM R A=>?_;refine fc (A E P R) (λr g A=>?_) λU U x=>x;obtain⟨i,F,x,f,A⟩ :=A;obtain rfl:=gX f;exact fc (A E g v F rfl) (λU K Y=>eR Y λC a b=>⟨V,C,a,b⟩) λU U x=>x
theorem Bs{I:List eP}{d:fE}{Q:ed->AH->Prop}(h:TA c I V H (λJ M=>J.length≤sizeLine∧∀a,M a=eh->Q (ec a) (eQ M a (.a J)))):
  TE c (AV I d) V H Q:=λE s S=>by
 refine wpAny_List (fc (h E s d S) (λJ P G=>?_) λU U x=>x);refine f5 G λM R C A=>?_;refine⟨by simpa using C,?_⟩;refine R.i (d:=P.heap.objs.size) (X:=.a (J.map nv)) (L:={ cls:=eK "list",data:=kR J.toArray }) (u:=P.heap.push _) (k:=P.toks)
  (kA (ig _)) (λb o e=>hY _ e) (jf _ rfl) (ib _ _ rfl (by simp)) λW q=>?_
 exact(ey _ q (A _ W))
theorem Bu{I:List eP}{k:Nat}{d:fE}{Q:ed->AH->Prop}(h:TA c I V H (λJ M=>J.length≤sizeLine∧∀a,M a=eh->Q (ec a) (eQ M a (.f J)))):
  TE c (iD I k d) V H Q:=λE s S=>by
 refine wpAny_Tuple_spliced (fc (h E s d S) (λJ P G=>?_) λU U x=>x);refine f5 G λM R C A=>?_;refine⟨by simpa using C,?_⟩;refine R.i (d:=P.heap.objs.size) (X:=.f (J.map nv)) (L:={ cls:=eK "tuple",data:=kR J.toArray }) (u:=P.heap.push _) (k:=P.toks)
  (kA (ig _)) (λb o e=>hY _ e) (jf _ rfl) (ib _ _ rfl (by simp)) λW q=>?_
 exact(ey _ q (A _ W))
theorem Rq{o:eP}{D:ft}{g d:fE}{w:List eP}{B:iN}(j:PB o)(W:iQ w=eb)(C:w.length<30)(q:(g.endLine==d.line)=eb):
  jc (jr (jM o D g) w [] d) B=(do
   let R←jc o B
   EG g.atName
   let(f,first)←holding [R] (getMethod R D (do return(←importBound o B).getD eb))
   callWith d f first (qK d (kB w B)) (backToKw d (Lj [] B))):=by
 have Y:methodCallForm (w.length+([]:List Keyword).length) (qK d (kB w B)) (backToKw d (Lj [] B))=true:=by
  unfold methodCallForm;have K:=qp (d:=d) (B:=B) W;have I:(qK d (kB w B)).all (λx=>!x.1)=true:=by
   rw[DK] at K;rw(occs:=eO) [iC];intro x Z;simpa using K x Z
  rw[I];exact decide_eq_true (p:=w.length<30) C
 show(do
  let R←Ld o D B (jc o B)
  EG g.atName
  methodCall o D g d B R (w.length+([]:List Keyword).length) (qK d (kB w B)) (backToKw d (Lj [] B)))=_
 rw[j _ _ _];unfold methodCall;rw[Y];unfold calleeOf methodCallPos;simp only[if_true,Wj,Wi,q];rfl
def yx(c:Cx)(C:et)(a:String)(f:et):Prop:=Ew c.e C (eE a)=eb∧rL c.e (ec C) (eE a)=d9 (d9 (ec f))∧isFn c.e (ec f)=eb∧tG c.e (ec f)=eb
theorem N9{o:eP}{a:String}{g b:fE}{w:List eP}{Q:ed->AH->Prop}(O:c.d)(j:PB o)(W:iQ w=eb)(e:w.length<30)(q:(g.endLine==b.line)=eb)
  (h:TE c o V H (λv M=>∃x C d y f,v=ec x∧M x=d9 (.h C d)∧M d=d9 (.b y)∧y.lookup a=eh∧yx c C a f∧TA c w V M (λk i=>TC c (ec f) (ec x::k) V i Q))):
  TE c (jr (jM o (eE a) g) w [] b) V H Q:=λE s S=>by
 refine methodCall_KW (pl:=do return(←importBound o c.a).getD eb) (fc (h E s S) (λv P G=>?_) λU U x=>x) (Rq j W e q);obtain⟨M,R,x,C,d,y,f,N,Z,D,Y,⟨p,t,z,J⟩,G⟩ :=G;obtain rfl:=gX N;obtain⟨l,n,L,T,I⟩ :=R.b.m Z D;obtain⟨m,F,_⟩ :=R.e;refine method_inst F O.a I p t z (Im T Y) ?_;exact Br (first:=[ec x]) O W (vc J) G R
theorem qS{o:eP}{a:String}{g d:fE}{w:List eP}{T id:String}{Q:ed->AH->Prop}(O:c.d)(j:PB o)(W:iQ w=eb)(C:w.length<30)(q:(g.endLine==d.line)=eb)
  (z:PlainAttrs T) (m:Slot T (eE a) id) (A:typeOf (iP id)=f9 (eK "method_descriptor"))
  (h:TE c o V H (λv M=>∃x Y,v=ec x∧M x=d9 Y∧(∀X,OR c.l c.k Y X->X.cls=eK T∧X.dict=eh)∧TA c w V M (λJ i=>TC c (iP id) (ec x::J) V i Q))):
  TE c (jr (jM o (eE a) g) w [] d) V H Q:=λE s S=>by
 refine wpAny_Call_method (j _ _ _) ?_ q z m A (fc (h E s S) (λv P G=>?_) λU U x=>x)
 ·have K:=qp (d:=d) (B:=c.a) W
  have I:(qK d (kB w c.a)).all (λx=>!x.1)=true:=by
   rw[DK] at K;rw(occs:=eO) [iC];intro x Z;simpa using K x Z
  rw[I];exact decide_eq_true (p:=w.length<30) C
 ·obtain⟨M,R,x,Y,N,Z,y,G⟩ :=G
  obtain rfl:=gX N;obtain⟨f,e,L⟩ :=R.b.f x Y Z;obtain⟨K,I⟩ :=y f L;refine⟨(ey f e K),?_,?_⟩
  ·intro b j
   (replace j:=lq j;subst j)
   exact(ey f e I)
  ·exact Br (first:=[ec x]) O W nH.a G R
theorem uw{c:Cx}{J:List ed}:∀X,OR c.l c.k (.a J) X->X.cls=eK "list"∧X.dict=none:=by
 rintro X ⟨F,n,rfl,_⟩;exact⟨rfl,rfl⟩
theorem ve{T id:String}{D:ft}{b:Builtin}{x:ed}{w:List ed}{Q:ed->AH->Prop}(m:Slot T D id)(j:entryFor table id=d9 b)
  (h:∀s v J,St c V H s->nv v=x->J.map nv=w->s.TypeIs v T∧argsOk id ⟨v::J,[]⟩ ∧∃S:XE,Meets (b ⟨v::J,[]⟩) S∧
   ∀A E,S A (wants (λr P=>∃M,St c V M P∧Q (nv r) M) E) s):TC c (iP id) (x::w) V H Q:=λE s J a k=>by
 cases J with
 |nil=>exact nL k
 |cons v J=>
  rw[gj,uG] at k
  (refine gY (h s v J a k.1 k.2) λK I L=>?_;refine eR L λS W O=>?_)
  refine yb (Lf m.plain j (m.check _ _ _ _ _ _ _ _ K I ?_));exact W c.l c.k c.b _ s (O c.b E)
theorem jQ.i{h:fH}(R:jQ c H h){l:et}{J:List ed}(C:H l=d9 (.a J)):∃F n,h.get? l=d9 (A4 F n)∧F.toList.map nv=J:=by
 (refine R.d l _ C λf K T=>?_;refine iH T λF n a I=>?_;(clear T;obtain rfl:=a))
 exact(ib F n K I)
theorem jQ.e{h:fH}(R:jQ c H h){l:et}{J:List ed}(C:H l=d9 (.a J)){G:Prop}(N:∀F n,h.get? l=d9 (A4 F n)->F.toList.map nv=J->G):G:=iH (jQ.i R C) N
theorem jQ.j{h:fH}(R:jQ c H h){l:et}{J:List ed}(C:H l=d9 (.f J)):∃F n,h.get? l=d9 ({ cls:=eK "tuple",data:=kR F n }:fM)∧F.toList.map nv=J:=by
 (refine R.d l _ C λf K E=>?_;refine iH E λF n p I=>?_;(clear E;obtain rfl:=p))
 exact(ib F n K I)
theorem jQ.k{h:fH}(R:jQ c H h){l:et}{J:List ed}(C:H l=d9 (.f J)){G:Prop}(N:∀F n,h.get? l=d9 ({ cls:=eK "tuple",data:=kR F n }:fM)->F.toList.map nv=J->G):G:=iH (jQ.j R C) N
theorem LX{h:fH}(R:jQ c H h){d:et}{G:List (Int×ed)}(C:H d=d9 (.e G)):∃a,h.DictOf (pT c.l c.k) d a∧a.map (λp=>(p.1,nv p.2))=G:=by
 refine Iu (R.f d _ C) λf K a I W=>?_;exact(ey a (tx.mpr (ey f K I)) W)
theorem jQ.g{h:fH}(R:jQ c H h){d:et}{b:List (Int×ed)}(C:H d=d9 (.e b)){G:Prop}(N:∀a,h.DictOf (pT c.l c.k) d a->a.map (λp=>(p.1,nv p.2))=b->G):G:=eR (LX R C) N
theorem iU{h:fH}{l:et}{F:Array ed}{n:Nat}(x:h.get? l=d9 (A4 F n)):h.IsList l F:=(fQ _ x rfl ⟨n,rfl⟩)
theorem Cu{h:fH}{l:et}{F:Array ed}{n:Nat}(x:h.get? l=d9 ({ cls:=eK "tuple",data:=kR F n }:fM)):IsTup h l F:=(fQ _ x rfl ⟨n,rfl⟩)
theorem St.p{s:eZ}(S:St c V H s){u:fH}{d:et}{o X:AO}{L:fM}(D:H d=d9 o)(j:qH d s.heap u)(l:u.get? d=d9 L)(y:OR c.l c.k X L){k:Nat}:
  St c V (eQ H d X) { s with heap:=u,toks:=k }:=by
 obtain⟨⟨m,F,Y⟩,R,P,B,N⟩ :=S;refine fe (R.b _ _ D) λK I=>?_;exact St.v ⟨(ey m F Y),R,P,B,N⟩ D (ey m (F.change j K I) Y) (λa o M U e=>(j.2 a M).trans e) l y
theorem St.t{s:eZ}(S:St c V H s){l:et}{F:Array ed}{n:Nat}{J X:List ed}{f:Array ed->Array ed}(C:H l=d9 (.a J))(b:s.heap.get? l=d9 (A4 F n))
  (a:(f F).toList.map nv=X) {k:Nat}:St c V (eQ H l (.a X)) { s with heap:=s.heap.update l (K6 f),toks:=k }:=by
 refine S.p C (K4 _ _ _) (xR _ b rfl) ?_;exact(ib (f F) _ rfl a)
theorem He{F:Array ed}{J:List ed}(h:F.toList.map nv=J){k:Nat}{u:ed}(z:J[k]? =d9 u):∃v,F[k]? =d9 v∧nv v=u:=by
 rw[←h,lF,uN] at z;refine eR z λv K I=>?_;exact(ey v (by rw[←DD];exact K) I)
theorem rv{F:Array ed}{J:List ed}(h:F.toList.map nv=J){k:Nat}{u:ed}(z:J[k]? =d9 u){G:Prop}(N:∀v,F[k]? =d9 v->nv v=u->G):G:=eR (He h z) N
theorem kg{F:Array ed}{J:List ed}(h:F.toList.map nv=J):F.size=J.length:=by
 rw[←h];simp
def qZ(B:eP):Prop:=∀o i:ed,subscripted B em o i=operate [o,i] (getItem o i)
def re(c:Cx)(w B:eP)(o i:ed)(V:eJ)(H:AH)(Q:ed->AH->Prop):Prop:=
 ∀E s v u,St c V H s->nv v=o->nv u=i->fi c.g c.b (subscriptTail w B v u) (λr P=>∃M,St c V M P∧Q (nv r) M) E s
theorem Bt{w B:eP}{d:fE}{Q:ed->AH->Prop}(h:TE c w V H (λo Z=>TE c B V Z (λi T=>re c w B o i V T Q))):TE c (pN w B d) V H Q:=λE s S=>by
 refine KS (fc (h E s S) (λv P G=>?_) λU U x=>x);refine eR G λM R A=>?_;refine fc (A E P R) (λu g A=>?_) λU U x=>x;refine eR A λa F y=>?_;exact y E g v u F rfl rfl
theorem yv{w B:eP}{l:et}{J:List ed}{i:Int}{u:ed}{Q:ed->AH->Prop}(C:H l=d9 (.a J))(d:0≤i)(K:i<2^63)(g:J[i.toNat]? =d9 u)(h:Q u H)
  (W:qZ B):re c w B (ec l) (vi i) V H Q:=λE s v k S N z=>by
 obtain rfl:=gX N
 (refine ik z λt Z=>?_;(clear z;obtain rfl:=Z))
 refine S.b.e C λF a L T=>?_
 (refine rv T g λx r n=>?_;(clear g;obtain rfl:=n))
 exact xI (iU L).typeIs Lm.lookup (wpAny_getItem_list (iU L) d K r (ey H S h)) (W _ _)
theorem OB{w B:eP}{l:et}{J:List ed}{i:Int}{u:ed}{Q:ed->AH->Prop}(C:H l=d9 (.a J))(d:i<0)(K:-(2^63)≤i)(I:-(J.length:Int)≤i)(g:J[(i+J.length).toNat]? =d9 u)(h:Q u H)
  (W:qZ B):re c w B (ec l) (vi i) V H Q:=λE s v k S N z=>by
 obtain rfl:=gX N
 (refine ik z λt Y=>?_;(clear z;obtain rfl:=Y))
 refine S.b.e C λF n L T=>?_;rw[←kg T] at g I
 (refine rv T g λx r m=>?_;(clear g;obtain rfl:=m))
 exact xI (iU L).typeIs Lm.lookup (wpAny_getItem_list_neg (iU L) d I K r (ey H S h)) (W _ _)
theorem OC{w B:eP}{l:et}{J:List ed}{i:Int}{u:ed}{Q:ed->AH->Prop}(C:H l=d9 (.f J))(d:0≤i)(K:i<2^63)(g:J[i.toNat]? =d9 u)(h:Q u H)
  (W:qZ B):re c w B (ec l) (vi i) V H Q:=λE s v k S N z=>by
 obtain rfl:=gX N
 (refine ik z λt f=>?_;(clear z;obtain rfl:=f))
 refine S.b.k C λF n L T=>?_
 (refine rv T g λx r U=>?_;(clear g;obtain rfl:=U))
 have y:i.toNat<F.size:=(Az.mp r).1;refine xI (Cu L).typeIs slot_tuple_getitem.lookup (getItem_tuple (j:=i.toNat) (Cu L) (by lia) K ?_ r (ey H S h)) (W _ _);unfold seqIndex?;simp only[show¬(i<0) by lia,if_false];have:i.toNat<F.size:=y
 first|(rw[if_pos (by lia)])|(simp;lia)
theorem Du{a:List (Int×ed)}{G:List (Int×ed)}(h:a.map (λp=>(p.1,nv p.2))=G){k:Int}{u:ed}(z:G.lookup k=d9 u):∃v,ya a k=d9 v∧nv v=u:=by
 subst h
 induction a with
 |nil=>exact nS z
 |cons p r D=>
  rw[gj,iw] at z;unfold ya;by_cases J:p.1=k
  ·rw[DO (by simpa using J)]
   clear D;subst J;simp at z;exact(ey p.2 rfl z)
  ·rw[DN (by simpa using J)]
   have:(k==p.1)=false:=by rw(occs:=eO) [beq_eq_false_iff_ne];exactλe=>J e.symm
   rw[this] at z;exact D z
theorem Kb{a:List (Int×ed)}{G:List (Int×ed)}(h:a.map (λp=>(p.1,nv p.2))=G){k:Int}:(ya a k).isSome=(G.lookup k).isSome:=by
 subst h
 induction a with
 |nil=>rfl
 |cons p r D=>
  rw[gj,iw];unfold ya;by_cases J:p.1=k
  ·rw[DO (by simpa using J)]
   clear D;rw[J];simp
  ·rw[DN (by simpa using J)]
   have:(k==p.1)=false:=by rw(occs:=eO) [beq_eq_false_iff_ne];exactλe=>J e.symm
   rw[this];exact D
theorem By{w B:eP}{d:et}{G:List (Int×ed)}{i:Int}{u:ed}{Q:ed->AH->Prop}(C:H d=d9 (.e G))(g:G.lookup i=d9 u)(h:Q u H)
  (W:qZ B):re c w B (ec d) (vi i) V H Q:=λE s v k S N z=>by
 obtain rfl:=gX N
 (refine ik z λt F=>?_;(clear z;obtain rfl:=F))
 refine S.b.g C λa L T=>?_
 (refine eR (Du T g) λx r e=>?_;(clear g;obtain rfl:=e))
 exact xI L.typeIs XM.lookup (XU (tJ _ _ _ _) L.mapOf r (ey H (S.g _) h)) (W _ _)
theorem qq{F:Array ed}{J:List ed}(h:F.toList.map nv=J)(P:J.length≤100000):F.size≤sizeLine:=by
 rw[kg h,nC];lia
theorem O4{x:ed}{J:List ed}{a:ed}(h:J.map nv=[a]):∃v,J=[v]∧nv v=a:=by
 cases J with
 |nil=>exact nL h
 |cons v r=>cases r with
  |nil=>simp at h;exact(ey v rfl h)
  |cons=>simp at h
theorem BS{J:List ed}{a b:ed}(h:J.map nv=[a,b]):∃v u,J=[v,u]∧nv v=a∧nv u=b:=by
 (refine fT (DZ.mp h) λv U q K g=>?_;(clear h;obtain rfl:=q))
 (refine fT (DZ.mp g) λu U O I k=>?_;(clear g;obtain rfl:=O))
 obtain rfl:=ny.mp k;exact(fS v u rfl K I)
theorem Nv{l:et}{J:List ed}{v:ed}{Q:ed->AH->Prop}(C:H l=d9 (.a J))(P:J.length≤100000)(h:Q ez (eQ H l (.a (J++[v])))):
  TC c (iP "list.append") [ec l,v] V H Q:=λE s f S g=>by
 (refine fT (BS g) λx y j Z Y=>?_;(clear g;obtain rfl:=j);obtain rfl:=Y)
 obtain rfl:=gX Z;refine S.b.e C λF n L T=>?_;refine append_at (hsz:=qq T P) L λu K I=>(ey _ (S.p (X:=.a (J++[nv y])) C K I (ib (F.push y) (n+1) rfl ?_)) h);simp[T]
theorem NF{l:et}{J:List ed}{v:ed}{Q:ed->AH->Prop}(C:H l=d9 (.a (J++[v])))(P:J.length<100000)(h:Q v (eQ H l (.a J))):
  TC c (iP "list.pop") [ec l] V H Q:=by
 refine ve Xu F.entry_list_pop λs x f S Z g=>?_;obtain rfl:=gX Z;obtain rfl:f=[]:=by simpa using g
 refine S.b.e C λa n L T=>?_;have r:=kg T;simp only[il,lG,WH] at r;have B:∃y,a[a.size-1]? =d9 y∧nv y=v:=by
  apply He T;rw[r];simp
 (refine eR B λy j Y=>?_;(clear B;obtain rfl:=Y))
 refine⟨(iU L).typeIs,F.args_list_pop_1 _,_,MeetsSeq.list_pop_last l a n y j (qq T (by simp;lia)),λA E=>⟨L,_,S.t C L ?_,h⟩⟩;rw[Wc,dif_pos (by lia),Wf,r];have R:a.toList=a.toList.take J.length++a.toList.drop J.length:=(tv _ _).symm;have O:(a.toList.take J.length).map nv=J:=by rw[KE,T];simp
 have p:(a.toList.take J.length).length=J.length:=by rw[xB];simp;lia
 have d:(a.toList.drop J.length).length=1:=by rw[List.length_drop];simp;lia
 rw[R,List.eraseIdx_append_of_length_le (by rw[p];simp),lb,O,p];refine fL (DU.1 d) λz D=>?_;rw[D];simp
theorem Ny{l b:et}{J A:List ed}{Q:ed->AH->Prop}(C:H l=d9 (.a J))(j:H b=d9 (.a A))(P:J.length+A.length≤100000)(h:Q ez (eQ H l (.a (J++A)))):
  TC c (iP "list.extend") [ec l,ec b] V H Q:=by
 refine ve Xq F.entry_list_extend λs x e S Z g=>?_;obtain rfl:=gX Z
 (refine eR (O4 (x:=ez) g) λy o B=>?_;(clear g;obtain rfl:=o))
 obtain rfl:=gX B;refine S.b.e C λa n L T=>?_;refine S.b.e j λO f m R=>?_;have I:=kg T;have Y:=kg R;refine⟨(iU L).typeIs,F.args_list_extend_2 _ _,_,AutoSeq1.list_extend_list_list_0 l a n b O f ?_ ?_ ?_,λd E=>⟨L,m,_,S.t C L ?_,h⟩⟩
 ·have:KV (a.size+O.size)=false:=by
   unfold KV;rw[I,Y];have:=nC;simp;lia
  rw[this];simp
 ·exact qq T (by lia)
 ·have K:a.size+O.size≤100000:=by rw[I,Y];exact P
  exact im K (by rw[nC];lia)
 ·rw[Km,lb,T,R]
theorem NA{l:et}{J:List ed}{i:Int}{v:ed}{Q:ed->AH->Prop}(C:H l=d9 (.a J))(d:0≤i)(K:i≤J.length)(P:J.length<100000)(h:Q ez (eQ H l (.a (J.take i.toNat++v::J.drop i.toNat)))):
  TC c (iP "list.insert") [ec l,vi i,v] V H Q:=by
 refine ve Xs F.entry_list_insert λs x f S Z g=>?_;obtain rfl:=gX Z
 (refine fT (BS g) λy u R B Y=>?_;(clear g;obtain rfl:=R);obtain rfl:=Y)
 (refine ik B λt z=>?_;(clear B;obtain rfl:=z))
 refine S.b.e C λa n L T=>?_;have I:=kg T;refine⟨(iU L).typeIs,F.args_list_insert_3 _ _ _,_,AutoListH.list_insert_list_int_val_1 l a n i t u ?_ (qq T (by lia)),λA E=>⟨L,_,S.t C L ?_,h⟩⟩
 ·have:KU i=true:=by
   unfold KU;simp;lia
  rw[this];simp
 ·simp only[show¬i<0 by lia,if_false]
  rw[show min i.toNat a.size=i.toNat by lia];simp only[Km,Array.toList_push,Array.toList_extract,lb,nq,gj,uI];rw[←T];simp only[List.extract_eq_take_drop,List.drop_zero,Nat.sub_zero,←KE,←WM,AL,Ks,List.append_cancel_left_eq,uG,true_and,tm];rw[KL (by simp)]
structure Lv(c:Cx)(n:Nat):Prop where
 b:c.b.depth+n≤900
 a:c.b.units+10*n+1000≤9900
theorem Lv.f{n m:Nat}(h:Lv c n)(Y:m≤n):Lv c m:=⟨by have:=h.b;lia,by have:=h.a;lia⟩
theorem Lv.e{n:Nat}(h:Lv c (n+1)){g:fH}{L:et}{B:iN}:Lv (iM c g L B) n:=
 ⟨by have:=h.b;show c.b.depth+1+n≤900;lia,by have:=h.a;show c.b.units+3+10*n+1000≤9900;lia⟩
theorem Lv.g{n:Nat}(h:Lv c n):c.b.depth<recursionLimit:=by have:=h.b;show c.b.depth<1000;lia
def Rd(H:AH)(a:ed)(d:mn):Prop:=∀(c:Cx) (h:fH),jQ c H h->∀v,nv v=a->∃as,Reads h v d as
def qb(H:AH)(a:List ed)(d:List mn):Prop:=∀(c:Cx) (h:fH),jQ c H h->∀v,v.map nv=a->∃as,ReadsAll h v d as
theorem Rd.f:Rd H ez .none:=λU U U v N=>wK N▸⟨_,.none⟩
theorem Rd.g(c:Bool):Rd H (fF c) (.bool c):=λU U U v N=>zH N▸⟨_,.bool c⟩
theorem Rd.d(i:Int):Rd H (ej i 0) (mo i):=λU U U v N=>let⟨t,c⟩ :=uo N;c▸⟨_,.int i t⟩
theorem Rd.a{i:et}{J:List ed}{j:List mn}(C:H i=d9 (.a J))(M:qb H J j):Rd H (ec i) (tF j):=λc h R v N=>by
 refine R.e C λF n L T=>?_;refine fL (M c h R F.toList T) λas E=>?_;exact gX N▸⟨_,.list L rfl rfl E⟩
theorem Rd.e{i:et}{J:List ed}{j:List mn}(C:H i=d9 (.f J))(M:qb H J j):Rd H (ec i) (xT j):=λc h R v N=>by
 obtain⟨F,n,L,T⟩ :=R.j C;obtain⟨as,E⟩ :=M c h R F.toList T;exact gX N▸⟨_,.tuple L rfl rfl E⟩
theorem qb.b:qb H [] []:=λU U U v N=>ny.mp N▸⟨_,.nil⟩
theorem qb.a{v:ed}{J:List ed}{d:mn}{j:List mn}(K:Rd H v d)(I:qb H J j):qb H (v::J) (d::j):=λc h R u N=>by
 obtain⟨x,r,rfl,e,O⟩ :=DZ.mp N;obtain⟨as,f⟩ :=K c h R x e;obtain⟨D,l⟩ :=I c h R r O;exact⟨_,.cons f l⟩
theorem Rd.b{h:fH}(R:jQ c H h){i:ed}{j:mn}(k:Rd H i j):∀v,nv v=i->∃as,Reads h v j as:=k c h R
theorem yj:∀(X:List Int),qb H (X.map vi) (X.map mo):=by
 intro N
 induction N with
 |nil=>
  exact .b
 |cons n r D=>
  exact .a (.d n) (D)
theorem yU:∀(X:List Int),Ei (X.map mo)=true:=by
 intro N
 induction N with
 |nil=>
  exact rfl
 |cons n r D=>
  show(PyData.canLay0 (mo n)&&Ei (r.map mo))=eb;rw[D];rfl
theorem Cj:∀(X B:List Int),uV (X.map mo) (B.map mo)=eU (X=B)
 |[],[]=>by simp[uV]
 |[],_::_=>by simp[uV]
 |_::_,[]=>by simp[uV]
 |n::r,m::t=>by
  show(AY (mo n) (mo m)&&uV (r.map mo) (t.map mo))=_;rw[Cj r t];show((n==m)&&_)=_;by_cases h:n=m<;>simp[h]
def jR(c:Cx)(D:oP)(a b:ed)(V:eJ)(H:AH)(Q:Bool->AH->Prop):Prop:=
 ∀E s v u,St c V H s->nv v=a->nv u=b->fi c.g c.b (compareOp D v u) (λr P=>∃t M,r=fF t∧St c V M P∧Q t M) E s
theorem NN{i j:Int}{Q:Bool->AH->Prop}(h:Q (eU (i=j)) H):jR c fZ (vi i) (vi j) V H Q:=λE s v u S N g=>by
 (refine ik N λt R=>?_;(clear N;obtain rfl:=R));(refine ik g λa O=>?_;(clear g;obtain rfl:=O))
 refine cmp_ofEq (wpAny_eq_int (fS _ H rfl S ?_));rwa [show(i==j)=eU (i=j) from by by_cases e:i=j<;>simp[e]]
theorem NX{i j:Int}{Q:Bool->AH->Prop}(h:Q (eU (i≠j)) H):jR c gd (vi i) (vi j) V H Q:=λE s v u S N g=>by
 (refine ik N λt p=>?_;(clear N;obtain rfl:=p));(refine ik g λO d=>?_;(clear g;obtain rfl:=d))
 refine IsLeap.wpAny_ne_int (fS _ H rfl S ?_);rwa [show(i !=j)=eU (i≠j) from by by_cases e:i=j<;>simp[e]]
theorem NW{i j:Int}{Q:Bool->AH->Prop}(h:Q (eU (i<j)) H):jR c lj (vi i) (vi j) V H Q:=λE s v u S N g=>by
 (refine ik N λt Z=>?_;(clear N;obtain rfl:=Z));(refine ik g λO n=>?_;(clear g;obtain rfl:=n))
 exact wpAny_lt_int (fS _ H rfl S h)
theorem NQ{i j:Int}{Q:Bool->AH->Prop}(h:Q (eU (j<i)) H):jR c lh (vi i) (vi j) V H Q:=λE s v u S N g=>by
 (refine ik N λt Y=>?_;(clear N;obtain rfl:=Y));(refine ik g λO m=>?_;(clear g;obtain rfl:=m))
 exact X8 (fS _ H rfl S h)
theorem NV{i j:Int}{Q:Bool->AH->Prop}(h:Q (eU (i≤j)) H):jR c .LtE (vi i) (vi j) V H Q:=λE s v u S N g=>by
 (refine ik N λt f=>?_;(clear N;obtain rfl:=f));(refine ik g λO U=>?_;(clear g;obtain rfl:=U))
 exact X9 (fS _ H rfl S h)
theorem NP{i j:Int}{Q:Bool->AH->Prop}(h:Q (eU (j≤i)) H):jR c .GtE (vi i) (vi j) V H Q:=λE s v u S N g=>by
 (refine ik N λt F=>?_;(clear N;obtain rfl:=F));(refine ik g λO e=>?_;(clear g;obtain rfl:=e))
 exact X7 (fS _ H rfl S h)
theorem Io{v:ed}:(v==ez)=(nv v==ez):=by cases v<;>rfl
theorem NU{a:ed}{Q:Bool->AH->Prop}(h:Q (a==ez) H):jR c .Is a ez V H Q:=λE s v u S N g=>by
 obtain rfl:=wK g;subst N;exact is_none_gen (fS _ H rfl S (by rw[Io];exact h))
theorem NT{a:ed}{Q:Bool->AH->Prop}(h:Q (!(a==ez)) H):jR c uO a ez V H Q:=λE s v u S N g=>by
 obtain rfl:=wK g;subst N;exact isnot_none_gen (fS _ H rfl S (by rw[Io];exact h))
theorem Fd{a b:ed}{C K:mn}{Q:Bool->AH->Prop}(A:Rd H a C)(m:Rd H b K)(M:C.canLay0=eb)(j:K.canLay0=eb)(g:c.b.units+min C.depth K.depth<9900)(h:Q (AY C K) H):
  jR c fZ a b V H Q:=λE s v u S N J=>by
 refine fL (A.b S.b v N) λas Z=>?_;refine fL (m.b S.b u J) λD L=>?_;exact SeqAt.compareEq_reads Z L M j g (fS _ H rfl S h)
theorem Fe{a b:ed}{C K:mn}{Q:Bool->AH->Prop}(A:Rd H a C)(m:Rd H b K)(M:C.canLay0=eb)(j:K.canLay0=eb)(g:c.b.units+min C.depth K.depth<9900)(h:Q (!AY C K) H):
  jR c gd a b V H Q:=λE s v u S N J=>by
 refine fL (A.b S.b v N) λas Z=>?_;refine fL (m.b S.b u J) λD L=>?_;exact SeqAt.compareNe_reads Z L M j g (fS _ H rfl S h)
theorem GF:∀(X:List Int),K7 (tF (X.map mo))≤2:=by
 intro X;have:∀X:List Int,Ej (X.map mo)≤1:=by
  intro X
  induction X with
  |nil=>simp[Ej]
  |cons n r D=>simp only[gj,Ej,K7];lia
 have:=this X;simp only[K7];lia
theorem NO{a b:et}{X B:List Int}{Q:Bool->AH->Prop}{k:Nat}(C:Lv c k)(A:H a=d9 (.a (X.map vi)))(m:H b=d9 (.a (B.map vi)))(h:Q (eU (X=B)) H):jR c fZ (ec a) (ec b) V H Q:=by
 refine Fd (.a A (yj X)) (.a m (yj B)) (yU X) (yU B) ?_ ?_
 ·have:=GF X;have:=C.a;lia
 ·show Q (uV _ _) H
  rw[Cj];exact h
theorem NY{a b:et}{X B:List Int}{Q:Bool->AH->Prop}{k:Nat}(C:Lv c k)(A:H a=d9 (.a (X.map vi)))(m:H b=d9 (.a (B.map vi)))(h:Q (eU (X≠B)) H):jR c gd (ec a) (ec b) V H Q:=by
 refine Fe (.a A (yj X)) (.a m (yj B)) (yU X) (yU B) ?_ ?_
 ·have:=GF X;have:=C.a;lia
 ·show Q (!uV _ _) H
  rw[Cj];rwa [show(!eU (X=B))=eU (X≠B) from by by_cases e:X=B<;>simp[e]]
theorem NR{i:Int}{d:et}{G:List (Int×ed)}{Q:Bool->AH->Prop}(D:H d=d9 (.e G))(U:d≠mO)(h:Q (G.lookup i).isSome H):jR c oj (vi i) (ec d) V H Q:=λE s v u S N g=>by
 (refine ik N λt q=>?_;(clear N;obtain rfl:=q));obtain rfl:=gX g
 refine S.b.g D λa L T=>?_;exact wpAny_in_of (tJ _ _ _ _) (beq_eq_false_iff_ne.mpr U) L.mapOf (fS _ H rfl (S.g _) (by rw[Kb T];exact h))
theorem NZ{i:Int}{d:et}{G:List (Int×ed)}{Q:Bool->AH->Prop}(D:H d=d9 (.e G))(U:d≠mO)(h:Q (!(G.lookup i).isSome) H):jR c xJ (vi i) (ec d) V H Q:=λE s v u S N g=>by
 (refine ik N λt O=>?_;(clear N;obtain rfl:=O));obtain rfl:=gX g
 refine S.b.g D λa L T=>?_;exact wpAny_notIn_of (tJ _ _ _ _) (beq_eq_false_iff_ne.mpr U) L.mapOf (fS _ H rfl (S.g _) (by rw[Kb T];exact h))
theorem zh:∀{J:List ed} {X:List Int},J.map nv=X.map vi->Eb J X:=by
 intro J
 induction J with
 |nil=>
  intro X h;cases X with
  |nil=>exact .nil
  |cons=>exact nL h
 |cons v r D=>
  intro X h;cases X with
  |nil=>exact wI h
  |cons n t=>
   rw[gj,gj,uG] at h
   (refine ik h.1 λk j=>?_;obtain rfl:=j)
   exact .cons _ _ (D h.2)
theorem NS{i:Int}{l:et}{X:List Int}{Q:Bool->AH->Prop}(C:H l=d9 (.a (X.map vi)))(h:Q (eU (i∈X)) H):jR c oj (vi i) (ec l) V H Q:=λE s v u S N g=>by
 (refine ik N λt Y=>?_;(clear N;obtain rfl:=Y));obtain rfl:=gX g
 refine S.b.e C λF n L T=>?_;refine in_list_ints (vs:=F.toList) (ns:=X) (by simpa using iU L) (zh T) (fS _ H rfl S ?_);rwa [show X.any (·==i)=eU (i∈X) from by rw[AA];simp[AF]]
theorem Nq{l r:eP}{D:oP}{d:fE}{Q:Bool->AH->Prop}(h:TE c l V H (λa Z=>TE c r V Z (λb T=>jR c D a b V T Q)))(Y:Le D r=em):
  TB c (Eg l [D] [r] d) V H Q:=λE s S=>by
 refine wpAny_isTrue_Compare1 (fc (h E s S) (λv P G=>?_) λU U x=>x) Y;refine eR G λM R A=>?_;refine fc (A E P R) (λu g A=>?_) λU U x=>x;refine eR A λi F y=>?_;refine fc (y E g v u F rfl rfl) (λr K y=>?_) λU U x=>x;obtain⟨t,C,rfl,X,y⟩ :=y;exact Ls (ey C X y)
theorem N5{l r:eP}{D:oP}{d:fE}{Q:ed->AH->Prop}(h:TE c l V H (λa Z=>TE c r V Z (λb T=>jR c D a b V T (λt L=>Q (fF t) L))))(Y:Le D r=em):
  TE c (Eg l [D] [r] d) V H Q:=λE s S=>by
 refine wpAny_Compare1 (fc (h E s S) (λv P G=>?_) λU U x=>x) Y;refine eR G λM R A=>?_;refine fc (A E P R) (λu g A=>?_) λU U x=>x;refine eR A λi F y=>?_;refine fc (y E g v u F rfl rfl) (λr K y=>?_) λU U x=>x;obtain⟨t,C,rfl,X,y⟩ :=y;exact(ey C X y)
theorem Nr{x:eP}{d:fE}{Q:Bool->AH->Prop}(h:TB c x V H (λb M=>Q (!b) M)):TB c (xO .Not x d) V H Q:=λE s S=>
 wpAny_isTrue_Not (fc (h E s S) (λb P Y=>eR Y λM a b=>⟨M,a,b⟩) λU U x=>x)
def qe(c:Cx)(D:BoolOp)(w:List eP)(V:eJ)(H:AH)(Q:Bool->AH->Prop):Prop:=
 ∀E s,St c V H s->fi c.g c.b (allTrue D w c.a) (λv P=>∃M,St c V M P∧Q v M) E s
theorem E6{D:BoolOp}{w:List eP}{d:fE}{Q:Bool->AH->Prop}(h:qe c D w V H Q):TB c (Ef D w d) V H Q:=λE s S=>
 wpAny_isTrue_BoolOp (h E s S)
theorem Nl{Q:Bool->AH->Prop}(h:Q eb H):qe c oO [] V H Q:=λE s S=>wpAny_allTrue_And_nil (ey H S h)
theorem Nn{Q:Bool->AH->Prop}(h:Q em H):qe c jw [] V H Q:=λE s S=>wpAny_allTrue_Or_nil (ey H S h)
theorem Nm{e:eP}{w:List eP}{Q:Bool->AH->Prop}(h:TB c e V H (λb M=>if b then qe c oO w V M Q else Q em M)):qe c oO (e::w) V H Q:=λE s S=>by
 refine wpAny_allTrue_And_cons (fc (h E s S) (λb P G=>?_) λU U x=>x);refine eR G λM R A=>?_;clear G;cases b
 ·exact(ey M R A)
 ·exact A E P R
theorem No{e:eP}{w:List eP}{Q:Bool->AH->Prop}(h:TB c e V H (λb M=>if b then Q eb M else qe c jw w V M Q)):qe c jw (e::w) V H Q:=λE s S=>by
 refine wpAny_allTrue_Or_cons (fc (h E s S) (λb P G=>?_) λU U x=>x);refine eR G λM R A=>?_;clear G;cases b
 ·exact A E P R
 ·exact(ey M R A)
def PT(e:eP):Prop:=∀(B:iN) (Z:Sem ed),xZ e B Z=(do let v←Z;EG e.pos;holding [v] (truthy v))
theorem Nt{e:eP}{Q:Bool->AH->Prop}(h:TE c e V H (λv M=>∃b,v=fF b∧Q b M))(J:PT e):TB c e V H Q:=λE s S=>by
 refine wpAny_isTrue_value (fc (h E s S) (λv P G=>?_) λU U x=>x) (J _ _);obtain⟨M,R,b,N,G⟩ :=G;obtain rfl:=zH N;exact Ls (ey M R G)
theorem N8{j B L:eP}{d:fE}{Q:ed->AH->Prop}(h:TB c j V H (λb M=>if b then TE c B V M Q else TE c L V M Q)):TE c (.IfExp j B L d) V H Q:=λE s S=>by
 refine wpAny_IfExp (fc (h E s S) (λb P G=>?_) λU U x=>x);refine eR G λM R A=>?_;clear G;cases b
 ·exact A E P R
 ·exact A E P R
theorem N1{x y:eP}{d:fE}{Q:ed->AH->Prop}(h:TE c x V H (λv M=>∃b,v=fF b∧if b then TE c y V M Q else Q (fF em) M)):TE c (Ef oO [x,y] d) V H Q:=λE s S=>by
 refine wpAny_And2 (fc (h E s S) (λv P G=>?_) λU U x=>x);obtain⟨M,R,b,N,G⟩ :=G;obtain rfl:=zH N;refine Ls ?_;clear N;cases b
 ·exact(ey M R G)
 ·exact G E P R
theorem Fm{x:eP}{d:fE}{Q:ed->AH->Prop}(h:TE c x V H (λv M=>∃i,v=vi i∧Q (vi (-i)) M)):TE c (xO .USub x d) V H Q:=λE s S=>by
 refine wpAny_UnaryOp (fc (h E s S) (λv P G=>?_) λU U x=>x);obtain⟨M,R,i,N,G⟩ :=G;obtain⟨t,rfl⟩ :=uo N;exact Yd (ey M (R.g _) G)
def nJ(c:Cx)(D:qI)(a b:ed)(V:eJ)(H:AH)(Q:ed->AH->Prop):Prop:=
 ∀E s v u,St c V H s->nv v=a->nv u=b->fi c.g c.b (binaryOp D v u) (λr P=>∃M,St c V M P∧Q (nv r) M) E s
theorem Ff{l r:eP}{D:qI}{d:fE}{Q:ed->AH->Prop}(h:TE c l V H (λa Z=>TE c r V Z (λb T=>nJ c D a b V T Q))):TE c (.BinOp l D r d) V H Q:=λE s S=>by
 refine wpAny_BinOp (fc (h E s S) (λv P G=>?_) λU U x=>x);refine eR G λM R A=>?_;refine fc (A E P R) (λu g A=>?_) λU U x=>x;refine eR A λi F y=>?_;exact y E g v u F rfl rfl
theorem Fs{i j:Int}{Q:ed->AH->Prop}(h:Q (vi (i+j)) H):nJ c io (vi i) (vi j) V H Q:=λE s v u S N g=>by
 (refine ik N λt Y=>?_;(clear N;obtain rfl:=Y));(refine ik g λO o=>?_;(clear g;obtain rfl:=o))
 exact wpAny_add_int (ey H (S.g _) h)
theorem Op{i j:Int}{Q:ed->AH->Prop}(h:Q (vi (i-j)) H):nJ c gS (vi i) (vi j) V H Q:=λE s v u S N g=>by
 (refine ik N λt R=>?_;(clear N;obtain rfl:=R));(refine ik g λO Y=>?_;(clear g;obtain rfl:=Y))
 exact Yg (ey H (S.g _) h)
theorem On{i j:Int}{Q:ed->AH->Prop}(Y:IntMulOk i j)(h:Q (vi (i*j)) H):nJ c jb (vi i) (vi j) V H Q:=λE s v u S N g=>by
 (refine ik N λt z=>?_;(clear N;obtain rfl:=z));(refine ik g λO K=>?_;(clear g;obtain rfl:=K))
 exact Yc (ey H (S.g _) h) Y
theorem Om{i j:Int}{Q:ed->AH->Prop}(d:j≠0)(h:Q (vi (i.fmod j)) H):nJ c .Mod (vi i) (vi j) V H Q:=λE s v u S N g=>by
 (refine ik N λt Z=>?_;(clear N;obtain rfl:=Z));(refine ik g λO C=>?_;(clear g;obtain rfl:=C))
 exact Yb d (ey H (S.g _) h)
theorem Ol{i j:Int}{Q:ed->AH->Prop}(d:j≠0)(J:Xh i j=em)(h:Q (vi (i.fdiv j)) H):nJ c pP (vi i) (vi j) V H Q:=λE s v u S N g=>by
 (refine ik N λt I=>?_;(clear N;obtain rfl:=I));(refine ik g λO K=>?_;(clear g;obtain rfl:=K))
 exact X6 d (ey H (S.g _) h) (eH J)
theorem RG{i j:Int}(D:-(2^20)<j∧j<2^20):Xh i j=false:=PyProof.noPylong_small (by omega)
theorem Ry{i j:Int}(D:-(2^40)<i∧i<2^40)(J:-(2^40)<j∧j<2^40):IntMulOk i j:=by mul_fits
theorem An(H:AH)(a:et)(o X:AO):eQ (eQ H a o) a X=eQ H a X:=by
 funext b;unfold eQ;by_cases j:b=a<;>simp[j]
theorem Nb{j:eP}{B:List fG}{e:fE}{Q:gr->eJ->AH->Prop}(J:Nat->eJ->AH->Prop){n:Nat}(d:J n V H)
  (h:∀n V H,J n V H->TB c j V H (λb M=>if b then TS c B V M (λf l i=>match f with
   |fY|.cont=>∃m,m<n∧J m l i
   |.brk=>Q fY l i
   |iV v=>Q (iV v) l i) else Q fY V M)):T1 c (.While j B [] e) V H Q:=λE s S=>by
 refine wpAny_While (Lg rfl (λn s=>∃l M,St c l M s∧J n l M) (λn s O=>?_) n (ib V H S d));refine iH O λl M R t=>?_;show fi _ (c.b.under _) ((whileTurn j B [] c.a).onRaise (λx=>do tK x c.a;Lo x)) _ _ s;rw[Around.under_of_weight (c:=Code.whileLoop j B [] c.a) rfl];refine Lq ?_;unfold whileTurn;refine fv (fc (h n l M t _ s R) (λb P G=>?_) λU U x=>x);refine eR G λL r A=>?_;cases b with
 |false=>
  have A:Q fY l L:=A;exact fv (yc (iA (ib l L r A)))
 |true=>
  refine fv (fc (A _ P r) (λf K A=>?_) λU U x=>x);refine iH A λo C X y=>?_;cases f with
  |next=>refine eR y λm Y a=>?_;exact iA ⟨rfl,m,Y,o,C,X,a⟩
  |cont=>refine eR y λm Y a=>?_;exact iA ⟨rfl,m,Y,o,C,X,a⟩
  |brk=>exact iA (ib o C X y)
  |ret v=>exact iA (ib o C X y)
structure qa(prog:lJ)(w:jI)(A:j0)(target:eP)(names:List String)(it:ed)(n:Nat)(bind:Nat->eJ->eJ)(need:AH->Prop)(ks:List et)(P:Nat->List (et×fM)->Prop):Prop where
 e:∀i p,P i p->∀q∈p,q.1∈ks
 d:∀c2:Cx,c2.l=prog->c2.k=w->c2.b=A->∀i p ρ H E s,P i p->need H->St (gO c2 p) ρ H s->fi c2.g c2.b (pyIter it) (λit' s1=>it'=it∧St (gO c2 p) ρ H s1) E s
 b:∀c2:Cx,c2.l=prog->c2.k=w->c2.b=A->c2.d->(∀x∈names,c2.a.kindOf (eE x)=d9 eu)->(∀a∈ks,∀o,¬c2.j a o)->∀i p ρ H E s,i<n->P i p->need H->St (gO c2 p) ρ H s->
  fi c2.g c2.b (rQ it) (λr s1=>∃v,r=d9 v∧fi c2.g c2.b (ED target it v) (λU s2=>fi c2.g c2.b (om target c2.a v) (λU s3=>∃p',P (i+1) p'∧St (gO c2 p') (bind i ρ) H s3) E s2) E s1) E s
 c:∀c2:Cx,c2.l=prog->c2.k=w->c2.b=A->(∀a∈ks,∀o,¬c2.j a o)->∀p ρ H E s,P n p->need H->St (gO c2 p) ρ H s->fi c2.g c2.b (rQ it) (λr s1=>r=eh∧St c2 ρ H s1) E s
def j8(c:Cx)(w W:eP)(b:List String)(V:eJ)(H:AH)(Q:Nat->(Nat->eJ->eJ)->(AH->Prop)->AH->Prop):Prop:=
 ∀E s,St c V H s->fi c.g c.b (jc w c.a) (λx I=>fi c.g c.b (pyIter x) (λN Y=>∃n e l C P p Z,qa c.l c.k c.b W b N n e l C P∧P 0 p∧(∀a∈C,(∀o,¬c.j a o)∧∃o,Y.heap.get? a=d9 o)∧
  St (gO c p) V Z Y∧l Z∧Q n e l Z) E I) E s
def Ds(Q:gr->eJ->AH->Prop)(P:eJ->AH->Prop):gr->eJ->AH->Prop:=λf V H=>match f with
 |fY|.cont=>P V H
 |.brk=>Q fY V H
 |iV v=>Q (iV v) V H
theorem j8.a{w W:eP}{Y:List String}{Q j:Nat->(Nat->eJ->eJ)->(AH->Prop)->AH->Prop}(h:j8 c w W Y V H Q)(k:∀{n b d Z},Q n b d Z->j n b d Z):j8 c w W Y V H j:=λE s S=>
 fc (h E s S) (λx I q=>fc q (λN e q=>by
  (refine lC q λn b d C J=>?_;refine mZ J λP p Z r t v O=>?_;refine gY O λM L R=>?_)
  exact⟨n,b,d,C,P,p,Z,r,t,v,M,L,k R⟩) λU U x=>x) λU U x=>x
theorem rq{k i n:Nat}(h:k+i=n)(D:i<n):k-1<k∧k-1+(i+1)=n:=by omega
theorem Ha{k i n:Nat}(h:k+i=n)(D:¬i<n):i=n:=by omega
noncomputable def cg(c:Cx)(g:fH):Cx:={ c with f:=g }
theorem G9{u:Type}{f:u->fH}{F:u->Prop}{R:u->gr->eJ->AH->Prop}{E:ed->eZ->Prop}{s:eZ}{o:u}{W w:eP}{ae:List String}{B:List fG}{aD:fE}(aw:∀g,F g->(cg c (f g)).d)(d:F o)
  (az:∀{p V H s},St (gO c p) V H s->St (gO (cg c (f o)) p) V H s) (C:∀x∈ae,c.a.kindOf (eE x)=d9 eu)
  (h:j8 c w W ae V H (λn e af Z=>∃J:Nat->eJ->AH->Prop,J 0 V Z∧(∀i V H,J i V H->af H)∧
   (∀g,F g->∀i l M p,i<n->J i l M->∀E s,St (gO (cg c (f g)) p) (e i l) M s->fi c.g c.b (uZ B c.a) (λj P=>∃Q m K,F Q∧St (gO (cg c (f Q)) p) m K P∧Ds (R Q) (J (i+1)) (nf j) m K) E s)∧
   (∀g l M,F g->J n l M->R g fY l M)))
  (N:∀v,pS w c.a v=f9 v) (hs:St c V H s):fi c.g c.b (exec (.For W w B [] aD) c.a) (λj P=>∃g l M,F g∧St (cg c (f g)) l M P∧R g (nf j) l M) E s:=by
 refine wpAny_For (fc (h E s hs) (λx ag G=>fc G (λit aF G=>?_) λU U x=>x) λU U x=>x) N
 (refine lC G λn e af ks g1=>?_;refine mZ g1 λak p Z I hP av T=>?_;refine gY T λq aH g3=>?_;refine nU g3 λJ au aa aj aq=>?_)
 have S:∀a∈ks,∀aC,¬c.j a aC:=λa ha=>(av a ha).1;refine codeAny_forLoop_any (λk s=>∃g i l M p,F g∧k+i=n∧ak i p∧St (gO (cg c (f g)) p) l M s∧J i l M) (λk s O=>?_) n ⟨o,0,V,Z,p,d,rfl,hP,az q,au⟩
 (refine ut O λg i l M p' z y D g4=>?_;refine fe g4 λac t=>?_)
 by_cases L:i<n
 ·refine fc (I.b (cg c (f g)) rfl rfl rfl (aw g z) C S i p' l M _ s L D (aa _ _ _ t) ac) (λaE ag G=>?_) λU U x=>x
  obtain⟨v,rfl,G⟩ :=G;refine fc G (λU aF G=>fc G (λU aG G=>?_) λU U x=>x) λU U x=>x;refine eR G λY X aB=>?_;refine fc (aj g z i l M Y L t _ aG aB) (λj aI G=>?_) λU U x=>x;refine qr G λQ m K r b A=>?_;cases j with
  |next=>exact(ey (k-1) (rq y L).1 ⟨Q,(i+1),m,K,Y,r,(rq y L).2,X,b,A⟩)
  |cont=>exact(ey (k-1) (rq y L).1 ⟨Q,(i+1),m,K,Y,r,(rq y L).2,X,b,A⟩)
  |brk=>exact(mV Q m K r (St.j (c:=cg c (f Q)) b) A)
  |ret v=>exact(mV Q m K r (St.j (c:=cg c (f Q)) b) A)
 ·have hi:i=n:=Ha y L
  clear g1 T g3 aj O y L;subst hi;refine fc (I.c (cg c (f g)) rfl rfl rfl S p' l M _ s D (aa _ _ _ t) ac) (λaE ag G=>?_) λU U x=>x
  (refine fe G λe5 aA=>?_;(clear G;obtain rfl:=e5))
  exact yc (mV g l M z aA (aq g l M z t))
theorem Bl{W w:eP}{Y:List String}{B:List fG}{d:fE}{Q:gr->eJ->AH->Prop}(O:c.d)(C:∀x∈Y,c.a.kindOf (eE x)=d9 eu)
  (h:j8 c w W Y V H (λn e m Z=>∃J:Nat->eJ->AH->Prop,J 0 V Z∧(∀i V H,J i V H->m H)∧
   (∀i l M p,i<n->J i l M->TS (gO c p) B (e i l) M (Ds Q (J (i+1))))∧(∀l M,J n l M->Q fY l M)))
  (N:∀v,pS w c.a v=f9 v):T1 c (.For W w B [] d) V H Q:=λE s S=>by
 refine fc (G9 (u:=Unit) (f:=λU=>c.f) (F:=λU=>True) (R:=λU=>Q) (o:=()) (λU U=>O) trivial (λh=>h) C (h.a λq=>?_) N S) (λj P q=>qr q λU l M U a b=>⟨l,M,a,b⟩) λU U x=>x;refine nU q λJ K I g k=>?_;exact lP J K I (λU U i l M p D t E s S=>fc (g i l M p D t E s S) (λj P q=>iH q λL f a b=>⟨(),L,f,trivial,a,b⟩) λU U x=>x) λU l M U=>k l M
def CG(l N:et):Nat->List (et×fM)->Prop:=λi p=>∃o:fM,p=[(N,o)]∧o.cls=eK "list_iterator"∧o.data=fB #[ec l,ej i 0]
theorem sW{s:eZ}{l N:et}{i:Nat}{p:List (et×fM)}(h:CG l N i p)(S:St (gO c p) V H s):s.heap.IsListIter N l i:=by
 (refine f5 h λo n K I=>?_;(clear h;obtain rfl:=n))
 exact(fQ o ((S.d N o (eH (by simp))).1) K I)
theorem SX{Z:lJ}{w:jI}{A:j0}{l N:et}{J:List ed}{x:String}{z:fE}(B:A.handled=eh):
  qa Z w A (gk (eE x) z) [x] (ec N) J.length (λi V=>ic V x (J.getD i ez)) (λH=>H l=d9 (.a J)) [N] (CG l N) where
 e:=by rintro i p ⟨o,rfl,_⟩ q G;simp at G;simp[G]
 d:=by
  rintro t rfl rfl rfl i p V H E s h W S;exact XX (sW h S) ⟨rfl,S⟩
 b:=by
  rintro t rfl rfl rfl O C P i p V H E s D h W S;refine S.b.e W λF n L T=>?_;refine rv T (jF D) λy Q d=>?_;refine X0 (sW h S) (iU L) Q λu a j=>?_;refine f5 a λX k1 R k3=>?_;refine(ey y rfl (iA (tM ?_)))
  (refine f5 h λo Y K I=>?_;(clear h;obtain rfl:=Y))
  have r:St (gO t [(N,X)]) V H { s with heap:=u }:=S.f (n:=s.toks) (by simpa using P N (by simp)) (λb x g e=>(j.2 b (λq=>g (N,o) (by simp) q.symm)).trans e)
   (by intro q G;simp only[gR] at G;rw[G];exact⟨k1,eH ⟨o,by simp⟩⟩)
  refine fc (oU (c:=gO t [(N,X)]) (Q:=λc M=>c=ic V x (J.getD i ez)∧M=H) O.k (C x (by simp)) ⟨rfl,rfl⟩ _ _ y r ?_) (λU aa G=>?_) λU U x=>x
  ·rw[d,lE,jF D];rfl
  ·(refine fT G λc M v m f=>?_;obtain rfl:=m;(clear W S r G;obtain rfl:=f))
   exact(ey _ (fQ X rfl R (by simpa using k3)) v)
 c:=by
  rintro t rfl rfl rfl P p V H E s h W S;refine S.b.e W λF n L T=>?_;have D:F[J.length]? =none:=by rw(occs:=eO) [Ay,kg T];exact ig _
  refine XZ B (sW h S) (iU L) D λu j=>⟨rfl,?_⟩
  (refine f5 h λo k K I=>?_;(clear h;obtain rfl:=k))
  exact(S.f (v:=[]) (n:=s.toks) (by simpa using P N (by simp)) (λb x g e=>j b x (λq=>g (N,o) (by simp) q.symm) e) (by simp)).j
theorem Oy{w:eP}{x:String}{z:fE}{Q:Nat->(Nat->eJ->eJ)->(AH->Prop)->AH->Prop}(B:c.b.handled=eh)
  (h:TE c w V H (λv Z=>∃l J,v=ec l∧Z l=d9 (.a J)∧Q J.length (λi V=>ic V x (J.getD i ez)) (λH=>H l=d9 (.a J)) Z)):
  j8 c w (gk (eE x) z) [x] V H Q:=λE s S=>by
 refine fc (h E s S) (λv g G=>?_) λU U x=>x;obtain⟨Z,m,l,J,N,C,G⟩ :=G;obtain rfl:=gX N;obtain⟨F,n,L,T⟩ :=m.b.i C;refine yd (iU L) ?_;have O:g.heap.get? g.heap.objs.size=none:=kA (ig _);have I:=m.h O;obtain⟨W,q⟩ :=m.r (d:=g.heap.objs.size) (X:=.c { cls:=eK "list_iterator",data:=fB #[ec l,ej 0 0] }) (u:=g.heap.push _) (k:=g.toks) O
  (λb o e=>hY _ e) (jf _ rfl) rfl
 exact⟨_,_,_,([g.heap.objs.size]),_,([(g.heap.objs.size,_)]),Z,(SX B),(fQ _ rfl rfl rfl),(by simpa using⟨I.b,_,jf _ rfl⟩),(q.u W),C,G⟩
noncomputable def cc(c:Cx)(t:jG)(X:List (ft×et))(C:et)(m:ft->Option ed)(r:et->fM->Prop):Cx:=
 { c with a:=compEnvC t X C c.a,i:=d9 m,j:=r }
theorem Cx.d.m(O:c.d){t:jG}{X:List (ft×et)}{C:et}{m:ft->Option ed}{r:et->fM->Prop}(z:t.kind=jH):(cc c t X C m r).d:=
 ⟨O.g,O.a,O.d,O.e,O.f,O.h,z,O.i,O.j⟩
theorem St.O{s:eZ}{t:jG}{X:List (ft×et)}{C:et}{d:ft->Option ed}{r:et->fM->Prop}{w:eJ}(S:St (cc c t X C d r) w H s)(i:c.i=eh)(T:c.a.locals=c.h)(Y:j6 V d)
  {u:fH} (j:qH C s.heap u) {k:Nat}:St { c with j:=r } V H { s with heap:=u,toks:=k }:=by
 obtain⟨⟨m,F,A⟩,R,P,B,N⟩ :=S;obtain⟨rfl,Q,I,W,O,J,U⟩ :m=d∧∃Q,s.heap.Ns C Q∧j6 w Q∧C≠c.h∧c.f.get? C=eh∧H C=none:=A;refine⟨(ey m (F.change j O J) ?_),⟨λa x Z=>?_,R.b⟩,λa x Z=>?_,B,N⟩
 ·show(match c.i with
   |none=>c.a.locals=c.h∧j6 V m
   |some d=>m=d∧∃Q,u.Ns c.a.locals Q∧j6 V Q∧c.a.locals≠c.h∧c.f.get? c.a.locals=eh∧H c.a.locals=eh)
  rw[i];exact⟨T,Y⟩
 ·refine R.d a x Z λf L b=>?_
  exact(ey f ((j.2 a (λe=>by rw[e,U] at Z;exact nS Z)).trans L) b)
 ·refine mf (P a x Z) λD g p n h=>?_
  exact⟨(j.2 a p).trans D,g,by rw[T];exact g,n,h⟩
theorem St.P{s:eZ}{t:jG}{X:List (ft×et)}{C:et}{d:ft->Option ed}(S:St c V H s)(k:Fr c.f c.h s.heap d){u:fH}(l:s.heap.get? C=eh)
  (z:∀Y o,s.heap.get? Y=d9 o->u.get? Y=d9 o) {Q:ft->Option ed} (W:u.Ns C Q) {h:Nat}:St (cc c t X C d c.j) (λU=>eh) H { s with heap:=u,toks:=h }:=by
 have I:=S.h l;obtain⟨⟨m,F,A⟩,R,P,B,N⟩ :=S;refine⟨(fQ d (k.keeps z) rfl (wg Q W ?_ I.g I.f I.d)),⟨λa x Z=>?_,R.b⟩,λa x Z=>?_,B,N⟩
 ·intro x v b;exact nS b
 ·refine R.d a x Z λf L T=>?_
  exact(ey f (z _ _ L) T)
 ·refine i8 (P a x Z) λD g p n=>?_
  exact⟨z _ _ D,g,λe=>I.b x ((show a=C from e)▸Z),n⟩
theorem St.A{s:eZ}{a:et}{o:fM}{Y:AO}(S:St c V (eQ H a (.c o)) s)(y:OR c.l c.k Y o):St c V (eQ H a Y) s:=by
 refine S.b.d a _ (gA _ _ _) λf L T=>?_;obtain rfl:f=o:=T;have:=S.p (X:=Y) (L:=f) (u:=s.heap) (k:=s.toks) (gA _ _ _) (AX _ _) L y;rwa [An] at this
theorem St.q{s:eZ}{f:et->fM->Prop}(S:St c V H s)(n:∀a o,f a o->c.j a o):St { c with j:=f } V H s:=by
 obtain⟨g,R,P,B,N⟩ :=S;exact⟨g,⟨R.f,R.b⟩,λa o h=>P a o (n a o h),B,N⟩
def TT(c:Cx)(a:List eP)(V:eJ)(H:AH)(Q:Bool->AH->Prop):Prop:=
 ∀E s,St c V H s->fi c.g c.b (uF a eb λd r=>if r=eb then do let F←xZ d c.a (jc d c.a);f9 (rG F) else f9 (rG r)) (λb P=>∃M,St c V M P∧Q b M) E s
theorem Bz{Q:Bool->AH->Prop}(h:Q eb H):TT c [] V H Q:=λE s S=>wpAny_tests_nil (ey H S h)
theorem OD{d:eP}{Q:Bool->AH->Prop}(h:TB c d V H Q):TT c [d] V H Q:=λE s S=>wpAny_tests_one (h E s S)
theorem PH{Z:lJ}{w:jI}{A:j0}{R:pQ->eZ->Prop}{s:eZ}{T W b:eP}{a:List eP}{t:jG}{d:fE}{N z:ed}{B:iN}(I:Nat->eZ->Prop)
  (p:∀n s,I n s->∀E,fi (jJ Z w) A (rQ N) (λr g=>match r with
   |none=>R (kF fY) g
   |some v=>fi (jJ Z w) A (ED W N v) (λU j=>fi (jJ Z w) A (om W B v) (λU f=>
     fi (jJ Z w) A (uF a eb λc r=>if r=eb then do let F←xZ c B (jc c B);f9 (rG F) else f9 (rG r)) (λF K=>
      if F=eb then fi (jJ Z w) A (jc T B) (λx q=>
       fi (jJ Z w) A (xX (iP "list.append") [z,x]) (λU L=>∃m,m<n∧I m L) E q) E K
      else∃m,m<n∧I m K) E f) E j) E g) E s)
  (n:Nat) (h:I n s):qL (jJ Z w) A (xK (pM T [⟨W,b,a,0⟩] t d) 0 N z B) R s:=by
 refine Lg rfl I (λn s O=>?_) n h;show fi _ A ((compTurn (pM T [⟨W,b,a,0⟩] t d) 0 N z B).onRaise (λx=>do tK x B;Lo x)) _ _ s;refine wpAny_noted ?_;rw(occs:=eO) [compTurn_list];refine fv (rT (fv (fc (p n s O _) (λr g X=>?_) λU U u=>u)));cases r with
 |none=>exact iA X
 |some v=>
  refine fv (fc X (λU j Y=>?_) λU U u=>u);refine fv (fc Y (λU f M=>fv (fc M (λF K S=>?_) λU U u=>u)) λU U u=>u);cases F with
  |false=>exact iA ⟨rfl,S⟩
  |true=>exact fv (fv (fc S (λx q C=>fv (fc C (λU L G=>iA (iA ⟨rfl,G⟩)) λU U u=>u)) λU U u=>u))
structure BA{α:Type}(El:Cx->eJ->AH->List α->(List α->AH->Prop)->Prop)(c:Cx)(scope:jG)(cl:List (ft×et))(ifs:List eP)(n:Nat)(bind:Nat->eJ->eJ)(need:AH->Prop)(H1:AH)(J:Nat->List α->AH->Prop):Prop where
 a:J 0 [] H1
 e:∀i acc H,J i acc H->need H∧acc.length≤100000
 d:∀i acc H' C m fz ρc,i<n->J i acc H'->(cc c scope cl C m fz).d->TT (cc c scope cl C m fz) ifs (bind i ρc) H' (λb H2=>if b then El (cc c scope cl C m fz) (bind i ρc) H2 acc (J (i+1)) else J (i+1) acc H2)
theorem GA{α:Type}{mk:List α->AO}{El:Cx->eJ->AH->List α->(List α->AH->Prop)->Prop}{l:fM}{ce W az:eP}{bG:Sem ed}{aZ:et->iN->(eZ->Prop)->(ed->eZ->Prop)->eZ->Prop}
  {aU:List eP} {t:jG} {aB:List String} {X:List (ft×et)} {aG:ed->eZ->Prop} {aE:Option (ed->Sem Unit)} {E:ed->eZ->Prop} {s:eZ} {ps:fE} (bV:clausesOf ce=[⟨W,az,aU,0⟩]) (bZ:l.isFreed=em)
  (bS:∀{R:ed->eZ->Prop} {E s},R (ec s.heap.objs.size) { s with heap:=s.heap.push l }->fi c.g c.b bG R E s) (bq:OR c.l c.k (mk []) l)
  (co:∀{R:pQ->eZ->Prop} {s N D B} (aq:Nat->eZ->Prop),
   (∀n s,aq n s->∀E,fi c.g c.b (rQ N) (λac g=>match ac with
    |none=>R (kF fY) g
    |some aX=>fi c.g c.b (ED W N aX) (λU cF=>fi c.g c.b (om W B aX) (λU f=>
     fi c.g c.b (uF aU eb λc ac=>if ac=eb then do let ok←xZ c B (jc c B);f9 (rG ok) else f9 (rG ac)) (λok aD=>
      if ok=eb then aZ D B (λs=>∃m,m<n∧aq m s) E aD else∃m,m<n∧aq m aD) E f) E cF) E g) E s)->
   ∀n,aq n s->qL c.g c.b (xK ce 0 N (ec D) B) R s)
  (hX:∀{c2:Cx} {V H z K D o R E s},c2.g=c.g->c2.b=c.b->St c2 V H s->El c2 V H z K->z.length≤100000->OR c.l c.k (mk z) o->(∀V H s,St c2 V H s->s.heap.get? D=d9 o)->
   (∀au ae ak o' aj k,St c2 V ae ak->K au ae->OR c.l c.k (mk au) o'->aj.get? D=d9 o'->qH D ak.heap aj->R { ak with heap:=aj,toks:=k })->aZ D c2.a R E s)
  (cy:∀{R:pQ->eZ->Prop} {s N z B},qL c.g c.b (xK ce 0 N z B) R s->fi c.g c.b (pyIter N) (λbC P=>qL c.g c.b (xK ce 0 bC z B) R P) (notedBy c.g c.b B λx P=>R (xv x) P) s->qL c.g c.b (.compStart ce 0 N z B) R s)
  (O:c.d) (bh:c.i=eh)
  (b9:∀x,pS az c.a x=f9 x) (bX:rO t c.a=f9 X) (bW:∀aF∈t.names,aF.2≠fK) (aw:t.kind=jH)
  (cq:∀aF∈t.names,aF.2=eu->t.names.lookup aF.1=d9 eu) (hl:∀x∈aB,t.names.lookup (eE x)=d9 eu)
  (hs:St c V H s) {K:List α->AH->Prop}
  (bO:j8 c az W aB V H (λn av bF H1=>∃J,BA El c t X aU n av bF H1 J∧∀z M,J n z M->K z M))
  (bM:∀z M D C P,K z M->M D=eh->(D==mO)=em->(∀u k,qH C P.heap u->St c V (eQ M D (mk z)) { P with heap:=u,toks:=k })->rW c (eQ M D (mk z)) C->(∃m,P.heap.Ns C m)->Ez c.g c.b E aE aG (ec D) C (kF fY) P):
  fi c.g c.b (xY ce t c.a ps bG em (jc az c.a) aE) aG E s:=by
 refine wpAny_comprehension_free (use:=aE) bV b9 bX aw cq (fc (bO E s hs) (λx g G=>fc G (λN f G=>?_) λU U x=>x) λU U x=>x)
 (refine lC G λn av bF ks g9=>?_;refine mZ g9 λaY p H1 I h bn ba=>?_;refine gY ba λaP cr bc=>?_;refine eR bc λJ cj bY=>?_)
 have cf:∀a∈ks,∀o,¬c.j a o:=λa ha=>(bn a ha).1
 --aW cG
 refine bS ?_;have af:f.heap.get? f.heap.objs.size=none:=kA (ig _);have aV:=aP.h af;have aL:(f.heap.objs.size==mO)=false:=let⟨_,F,_⟩ :=aP.e;F.notModules (modules_low O.d.nolimit);refine aP.i (d:=f.heap.objs.size) (X:=.c l) (u:=f.heap.push l) (k:=f.toks) af
  (λb o e=>hY _ e) (jf _ bZ) rfl λaJ ag=>?_
 have aK:f.heap.objs.size∉ks:=λq=>by
  refine It (bn _ q) λU o y=>?_;rw[af] at y;exact nS y
 have aC:∀o,¬c.j f.heap.objs.size o:=λo q=>aV.b o (eI q);generalize f.heap.objs.size=D at aJ ag aV af aK aC aL ⊢;generalize f.heap.push l=r at ag ⊢
 --aW cH cJ aB
 refine eR ag.e λd bQ S=>?_;have S:(match c.i with
   |none=>c.a.locals=c.h∧j6 V d
   |some cE=>d=cE∧∃Q,r.Ns c.a.locals Q∧j6 V Q∧c.a.locals≠c.h∧c.f.get? c.a.locals=eh∧(eQ H1 D (.c l)) c.a.locals=eh):=S
 rw[bh] at S;have aR:=(ag.u aJ);refine wpAny_newFunctionEnv bW (by simp) (λu bu bv=>?_) aw;have aI:r.get? r.objs.size=none:=kA (ig _);have cb:∀b o,r.get? b=d9 o->u.get? b=d9 o:=λb o e=>
  (bv.2 b (λq=>by rw[q,aI] at e;exact nS e)).trans (hY _ e)
 have aS:=aR.P (t:=t) (X:=X) (C:=r.objs.size) bQ aI cb bu (h:=f.toks);have be:D≠r.objs.size:=λe=>by
  have:=(aR.d D l (eH (by simp))).1;rw[e] at this;have this:r.get? r.objs.size=_:=this;rw[aI] at this;exact nS this
 generalize r.objs.size=C at bu bv aS be ⊢;have hL:∀x∈aB,(compEnvC t X C c.a).kindOf (eE x)=d9 eu:=λx Z=>lookup_relabel_local (hl x Z)
 --aW cM cI aW cK
 have bE:∀(P:eZ) w T p2 (o:fM),OR c.l c.k (mk []) o->aY 0 p2->J 0 [] T->St (gO (cc c t X C d λa x=>(a,x)∈[(D,o)]∨c.j a x) p2) w T P->
   qL c.g c.b (xK ce 0 N (ec D) (compEnvC t X C c.a)) (Ez c.g c.b E aE aG (ec D) C) P:=by
  intro P w T p2 o y bT bR bw;refine co (λaA s=>∃i z w M v o,aA+i=n∧OR c.l c.k (mk z) o∧aY i v∧J i z M∧St (gO (cc c t X C d λa x=>(a,x)∈[(D,o)]∨c.j a x) v) w M s) (λaA s hI E'=>?_) n ⟨0,([]),w,T,p2,o,rfl,y,bT,bR,bw⟩
  (refine lC hI λi z w M aH=>?_;refine oE aH λv o aa y bf aM aQ=>?_)
  have bj:∀a∈ks,∀x,¬(cc c t X C d λa x=>(a,x)∈[(D,o)]∨c.j a x).j a x:=by
   rintro a ha x (Z|Z)
   ·clear aJ aV af aC aL ag S aR aS be y bw hI aH aQ;clear S
    obtain⟨rfl,rfl⟩ :a=D∧x=o:=by simpa using Z
    exact aK ha
   ·exact cf a ha x Z
  refine fe (cj.e _ _ _ aM) λbo ci=>?_;by_cases L:i<n
  ·refine fc (I.b (cc c t X C d λa x=>(a,x)∈[(D,o)]∨c.j a x) rfl rfl rfl (O.m aw) hL bj i v w M _ s L bf bo aQ) (λac g G=>?_) λU U x=>x
   obtain⟨aX,rfl,G⟩ :=G;refine fc G (λU f G=>fc G (λU aD G=>?_) λU U x=>x) λU U x=>x;refine eR G λY aO cz=>?_;refine fc (cj.d i z M C d (gO (cc c t X C d λa x=>(a,x)∈[(D,o)]∨c.j a x) Y).j w L aM (O.m aw) _ aD cz) (λb cL G=>?_) λU U x=>x;refine eR G λbI bA A=>?_;cases b with
   |false=>exact(ey (aA-1) (rq aa L).1 ⟨(i+1),z,_,bI,Y,o,(rq aa L).2,y,aO,A,bA⟩)
   |true=>
    refine hX (c2:=gO (cc c t X C d λa x=>(a,x)∈[(D,o)]∨c.j a x) Y) rfl rfl bA A ci y (λV H s hs=>(hs.d D o (eI (eH (by simp)))).1) λau ae ak bH aj k cB cv cu bN bJ=>?_;refine(ey (aA-1) (rq aa L).1 ⟨(i+1),au,(av i w),ae,Y,bH,(rq aa L).2,cu,aO,cv,?_⟩);have cC:St (gO { (cc c t X C d c.j) with j:=λa x=>(a,x)∈Y∨c.j a x } [(D,o)]) (av i w) ae ak:=by
     refine cB.q (f:=_) λa x Z=>?_;rcases Z with Z|Z|Z
     ·exact eI (eH Z)
     ·exact eH Z
     ·exact eI (eI Z)
    have cD:=cC.f (v:=[(D,bH)]) (u:=aj) (n:=k) (by
     intro q A x Z;simp only[gR] at A;subst A;rcases Z with Z|Z
     ·exact aK (I.e _ _ aO _ Z)
     ·exact aC x Z) (λb x j e=>(bJ.2 b (λq=>j (D,o) (by simp) q.symm)).trans e) (by
     intro q A;simp only[gR] at A;subst A;exact⟨bN,eH ⟨o,by simp⟩⟩)
    refine cD.q (f:=_) λa x Z=>?_;rcases Z with Z|Z|Z
    ·exact eI (eH Z)
    ·exact eH Z
    ·exact eI (eI Z)
  ·have hi:i=n:=Ha aa L
   clear g9 ba bc cj hI aH aa L;subst hi;refine fc (I.c (cc c t X C d λa x=>(a,x)∈[(D,o)]∨c.j a x) rfl rfl rfl bj v w M _ s bf bo aQ) (λac g G=>?_) λU U x=>x
   (refine fe G λbK aT=>?_;(clear G;obtain rfl:=bK))
   have bg:∀u k,qH C g.heap u->M D=eh∧St c V (eQ M D (mk z)) { g with heap:=u,toks:=k }:=λu k j=>by
    have bU:St (gO c [(D,o)]) V M { g with heap:=u,toks:=k }:=aT.O bh S.1 S.2 j;refine fe (bU.F aC) λt1 t2=>?_;exact⟨t1,t2.A y⟩
   refine bM z M D C g (bY _ _ aM) (bg g.heap g.toks (AX _ _)).1 aL (λu k j=>(bg u k j).2) ?_ ?_
   ·obtain⟨⟨m,F,_,Q,h2,h3,h4,h5,h6⟩,_,bB,_⟩ :=aT
    have bP:D≠C:=(bB D o (eH (by simp))).2.2.1;exact⟨h4,by rw[S.1];exact h4,h5,(fw _ _ (gM bP)).trans h6,λx Z=>(bB C x (eI Z)).2.2.1 rfl⟩
   ·obtain⟨⟨m,F,_,Q,h2,h3,h4,h5⟩,_⟩ :=aT
    exact⟨Q,h2⟩
 have bz:St (gO (cc c t X C d λa x=>(a,x)∈[(D,l)]∨c.j a x) p) (λU=>eh) H1 { f with heap:=u,toks:=f.toks }:=by
  refine aS.q (f:=_) λa x Z=>?_;rcases Z with Z|Z|Z
  ·exact eI (eH Z)
  ·exact eH Z
  ·exact eI (eI Z)
 refine cy (bE _ _ _ p _ bq h cj.a bz) ?_;refine fc (I.d (cc c t X C d λa x=>(a,x)∈[(D,l)]∨c.j a x) rfl rfl rfl 0 p _ H1 _ _ h cr bz) (λbC P G=>?_) λU U x=>x
 (refine fe G λbL cw=>?_;(clear G g9 I;clear G;obtain rfl:=bL))
 exact bE _ _ _ p _ bq h cj.a cw
abbrev yz(c:Cx)(t:jG)(X:List (ft×et))(T:eP)(a:List eP):Nat->(Nat->eJ->eJ)->(AH->Prop)->AH->(Nat->List ed->AH->Prop)->Prop:=
 BA (λc V H z K=>TE c T V H λv L=>K (z++[v]) L) c t X a
theorem GB{T W w:eP}{a:List eP}{t:jG}{d:fE}{Y:List String}{X:List (ft×et)}{Q:ed->eZ->Prop}{v:Option (ed->Sem Unit)}{E:ed->eZ->Prop}{s:eZ}{ps:fE}(O:c.d)(i:c.i=eh)
  (N:∀x,pS w c.a x=f9 x) (o:rO t c.a=f9 X) (A:∀y∈t.names,y.2≠fK) (f:t.kind=jH)
  (g:∀y∈t.names,y.2=eu->t.names.lookup y.1=d9 eu) (hl:∀x∈Y,t.names.lookup (eE x)=d9 eu)
  (S:St c V H s) {K:List ed->AH->Prop}
  (h:j8 c w W Y V H (λn e l Z=>∃J,yz c t X T a n e l Z J∧∀z M,J n z M->K z M))
  (ac:∀z M D C P,K z M->M D=eh->(D==mO)=em->(∀u tk,qH C P.heap u->St c V (eQ M D (.a z)) { P with heap:=u,toks:=tk })->rW c (eQ M D (.a z)) C->(∃m,P.heap.Ns C m)->Ez c.g c.b E v Q (ec D) C (kF fY) P):
  fi c.g c.b (xY (pM T [⟨W,w,a,0⟩] t d) t c.a ps (newList []) em (jc w c.a) v) Q E s:=
 GA (mk:=.a) (l:={ cls:=eK "list",data:=kR #[] }) (aZ:=λD B R E s=>fi c.g c.b (jc T B) (λx q=>fi c.g c.b (xX (iP "list.append") [ec D,x]) (λU L=>R L) E q) E s) rfl rfl
  (λh=>A9 (T:="list") (data:=kR #[]) (dict:=eh) h (by size_fits)) ⟨#[],0,rfl,rfl⟩ (λI=>PH I)
  (λ{c2 V H z K D au R E s} e1 e2 S G af ho gD k=>by
   refine iH ho λF kk ag j=>?_;clear ho;subst ag;rw[←e1,←e2];refine fc (G E s S) (λb L aj=>?_) λU U x=>x;refine eR aj λr p ak=>?_;refine append_at (hsz:=qq j af) (gD _ _ _ p) λaq aa ae=>?_;exact k _ r L _ aq L.toks p ak ⟨F.push b,kk+1,rfl,by simp[j]⟩ ae aa)
  codeAny_compStart_list O i N o A f g hl S h ac
theorem St.E{s:eZ}(S:St c V H s){C:et}(l:rW c H C){u:fH}(j:qH C s.heap u){k:Nat}:St c V H { s with heap:=u,toks:=k }:=by
 obtain⟨⟨m,F,Y⟩,R,P,B,N⟩ :=S;refine⟨(ey m (F.change j l.g l.f) ?_),⟨λa x Z=>?_,R.b⟩,λa x Z=>?_,B,N⟩
 ·cases i:c.i with
  |none=>rw[i] at Y;exact Y
  |some d=>
   rw[i] at Y;refine kD Y λK Q I W=>?_;exact⟨K,Q,I.sameBut j (gM l.e),W⟩
 ·refine R.d a x Z λf L T=>?_
  exact(ey f ((j.2 a (λe=>by rw[e,l.d] at Z;exact nS Z)).trans L) T)
 ·refine fe (P a x Z) λD g=>?_
  exact⟨(j.2 a (λe=>l.b x (e▸Z))).trans D,g⟩
theorem St.D{m:ft->Option ed}{s:eZ}(S:St c V H s)(i:c.i=eh):∃m,Fr c.f c.h s.heap m∧c.a.locals=c.h∧j6 V m:=by
 obtain⟨⟨m,F,Y⟩,_⟩ :=S;rw[i] at Y;exact(fQ m F Y.1 Y.2)
theorem Fk{T W w:eP}{a:List eP}{t:jG}{d:fE}{Y:List String}{X:List (ft×et)}{Q:ed->AH->Prop}(O:c.d)(i:c.i=eh)
  (o:rO t c.a=f9 X) (C:∀x∈Y,t.names.lookup (eE x)=d9 eu)
  (h:j8 c w W Y V H (λn e l Z=>∃J,yz c t X T a n e l Z J∧∀z M,J n z M->∀D,M D=eh->Q (ec D) (eQ M D (.a z))))
  (N:∀x,pS w c.a x=f9 x) (A:∀y∈t.names,y.2≠fK) (f:t.kind=jH)
  (k:∀y∈t.names,y.2=eu->t.names.lookup y.1=d9 eu):
  TE c (pM T [⟨W,w,a,0⟩] t d) V H Q:=λE s S=>by
 show fi c.g c.b (xY (pM T [⟨W,w,a,0⟩] t d) t c.a w.pos (newList []) em (jc w c.a) eh) _ _ _;refine GB O i N o A f k C S (K:=λz M=>∀D,M D=eh->Q (ec D) (eQ M D (.a z))) h λz M D r P F q U j v p=>?_;refine fL p λm b=>?_;exact(ey m b (λu g=>(ey _ (j u P.toks g) (F D q))))
theorem M7{y:String}{I:fE}{T W w:eP}{a:List eP}{t:jG}{L d:fE}{Y:List String}{X:List (ft×et)}{Q:gr->eJ->AH->Prop}(O:c.d)(i:c.i=eh)
  (af:tL (pM T [⟨W,w,a,0⟩] t L) (d9 (gk (eE y) I)) d.line c.a=f9 eb) (B:c.a.kindOf (eE y)=d9 eu)
  (o:rO t c.a=f9 X) (C:∀x∈Y,t.names.lookup (eE x)=d9 eu)
  (h:j8 c w W Y V H (λn e ag Z=>∃J,yz c t X T a n e ag Z J∧∀z M,J n z M->∀D,M D=eh->Q fY (ic V y (ec D)) (eQ M D (.a z))))
  (N:∀x,pS w c.a x=f9 x) (A:∀y∈t.names,y.2≠fK) (f:t.kind=jH)
  (g:∀y∈t.names,y.2=eu->t.names.lookup y.1=d9 eu):
  T1 c (lm [gk (eE y) I] (pM T [⟨W,w,a,0⟩] t L) d) V H Q:=λak s S=>by
 rw[XJ _ _ _ _ af];refine fv (rT (fv ?_));show fi _ _ (do let _←xY (pM T [⟨W,w,a,0⟩] t L) t c.a w.pos (newList []) em (jc w c.a) (d9 (om (gk (eE y) I) c.a))) _ _ s;refine fv (fc (GB O i N o A f g C S (K:=λz M=>∀D,M D=eh->Q fY (ic V y (ec D)) (eQ M D (.a z))) (v:=d9 (om (gk (eE y) I) c.a)) (Q:=λU P=>∃k M,St c k M P∧Q fY k M) h
  λz M D aj P F q U j l p=>?_) (λU P G=>iA (iA G)) λU U x=>x)
 refine fL p λm hm=>?_;have R:=j P.heap P.toks (AX _ _);refine f5 (R.D (m:=m) i) λK b v ac=>?_;show fi _ _ (om (gk (eE y) I) c.a (ec D)) _ _ _;have u:P.heap.Ns c.a.locals K:=by rw[v];exact b.ns
 refine tM (Lr B u (λaq ae E=>?_) (by rw[O.b];rfl));have r:=R.w (x:=y) (v:=ec D) u ac ae E (k:=P.toks+1);refine(ey m (hm.sameBut E l.e) (λau aa=>(ib _ _ ?_ (F D q))));exact r.E l aa (k:=P.toks+1)
def sd(c:Cx)(W:eP)(v:ed)(V:eJ)(H:AH)(Q:eJ->AH->Prop):Prop:=
 ∀E s b,St c V H s->nv b=v->fi c.g c.b (om W c.a b) (λU P=>∃l M,St c l M P∧Q l M) E s
theorem tS{x:String}{z:fE}{v:ed}{Q:eJ->AH->Prop}(h:TN c x v V H Q):sd c (gk (eE x) z) v V H Q:=λE s b S N=>
 tM (h E s b S N)
theorem Np{o:eP}{a:String}{p:fE}{v:ed}{Q:eJ->AH->Prop}(h:TE c o V H (λr T=>∃x,r=ec x∧qf c (ec x) a v V T (λL=>Q V L))):
  sd c (jM o (eE a) p) v V H Q:=λE s b S N=>by
 rw(occs:=eO) [assign_Attribute];refine fv (rR (fc (h E s S) (λr g G=>?_) λU U x=>x));obtain⟨Z,m,x,d,G⟩ :=G;obtain rfl:=gX d;refine fv (rT (fv (rR (fc (G E g b m N) (λU f G=>?_) λU U x=>x))));refine eR G λT e A=>?_;exact wpAny_release (ib V T e A)
noncomputable def oZ(c:Cx):List eP->List ed->eJ->AH->(eJ->AH->Prop)->Prop
 |[],[],V,H,Q=>Q V H
 |t::a,v::J,V,H,Q=>sd c t v V H (λl M=>oZ c a J l M Q)
 |_,_,_,_,_=>False
theorem E4:∀{a:List eP} {X:List ed} {V:eJ} {H:AH} {Q:eJ->AH->Prop} {E:ed->eZ->Prop} {s:eZ},iQ a=eb->oZ c a (X.map nv) V H Q->St c V H s->
  fi c.g c.b (assignInOrder ((A6 a c.a).map (·.2)) X) (λU P=>∃l M,St c l M P∧Q l M) E s:=by
 intro a
 induction a with
 |nil=>
  intro J V H Q E s U h S;cases J with
  |nil=>exact XS (ib V H S h)
  |cons=>exact h.elim
 |cons t a D=>
  intro J V H Q E s W h S;cases J with
  |nil=>exact h.elim
  |cons v J=>
   rw[(tf W).2.2];refine XR (fc (h E s v S rfl) (λU g G=>?_) λU U x=>x);refine iH G λL Y m A=>?_;exact D (tf W).1 A m
theorem yK{B:iN}{a:List eP}(h:iQ a=eb):(A6 a B).length=a.length∧(A6 a B).findIdx? (·.1)=none:=by
 induction a with
 |nil=>exact⟨rfl,rfl⟩
 |cons t r D=>
  refine fe (D (tf h).1) λK I=>?_;rw[(tf h).2.2,lG,K,List.findIdx?_cons,I];exact⟨rfl,rfl⟩
theorem Bn{I:List eP}{k:Nat}{d:fE}{a:et}{J:List ed}{Q:eJ->AH->Prop}(B:c.b.handled=eh)(M:H a=d9 (.f J))(p:J.length=I.length)(W:iQ I=eb)
  (h:oZ c I J V H Q):sd c (iD I k d) (ec a) V H Q:=λE s f S N=>by
 obtain rfl:=gX N;refine S.b.k M λF n L T=>?_;refine XT B (fQ _ L rfl ⟨n,rfl⟩) (by rw[(yK W).1,kg T,p]) (yK W).2 λu j=>?_;have R:St c V H { s with heap:=u,toks:=s.toks }:=S.k λb o e=>j b o (λq=>by
  have:=l9 e;rw[q] at this;exact absurd this (lg _)) e
 exact E4 W (T▸h) R
theorem yo{I:List eP}{k:Nat}{y d:fE}{w:eP}{Q:gr->eJ->AH->Prop}
  (h:TE c w V H (λv M=>sd c (iD I k y) v V M (λl i=>Q fY l i)))
  (O:Ln [iD I k y] w d.line c.a=f9 em) (g:qM [iD I k y] w c.a=f9 eh):
  T1 c (lm [iD I k y] w d) V H Q:=λE s S=>by
 refine Assign_Tuple (fc (h E s S) (λv P G=>?_) λU U x=>x) O g;refine eR G λM R A=>?_;exact fc (A E P v R rfl) (λU f A=>A) λU U x=>x
noncomputable def yH(c:Cx):List String->List ed->eJ->AH->(eJ->AH->Prop)->Prop
 |[],[],V,H,Q=>Q V H
 |x::z,v::J,V,H,Q=>TN c x v V H (λl M=>yH c z J l M Q)
 |_,_,_,_,_=>False
theorem Oi:∀{z:List String} {X:List ed} {V:eJ} {H:AH} {Q:eJ->AH->Prop} {E:ed->eZ->Prop} {s:eZ},yH c z (X.map nv) V H Q->St c V H s->
  fi c.g c.b (assignInOrder (z.map λx=>bindName c.a (eE x)) X) (λU P=>∃l M,St c l M P∧Q l M) E s:=by
 intro z
 induction z with
 |nil=>
  intro J V H Q E s h S;cases J with
  |nil=>exact XS (ib V H S h)
  |cons=>exact h.elim
 |cons t a D=>
  intro J V H Q E s h S;cases J with
  |nil=>exact h.elim
  |cons v J=>
   rw[gj];refine XR (wpAny_bindName (fc (h E s v S rfl) (λU g G=>?_) λU U x=>x));refine iH G λL Y m A=>?_;exact D A m
theorem M8{I:List eP}{k:Nat}{y d:fE}{w:eP}{Q:gr->eJ->AH->Prop}(Y:List String)(B:c.b.handled=eh)
  (h:TE c w V H (λv M=>∃a J,v=ec a∧M a=d9 (.f J)∧J.length=Y.length∧yH c Y.reverse J.reverse V M (λl i=>Q fY l i)))
  (O:Ln [iD I k y] w d.line c.a=f9 em) (g:qM [iD I k y] w c.a=f9 (d9 (Y.map eE))):
  T1 c (lm [iD I k y] w d) V H Q:=λE s S=>by
 refine Assign_Tuple_swapped (names:=Y.map eE) (fc (h E s S) (λv P G=>?_) λU U x=>x) O g;obtain⟨M,R,a,J,N,f,p,G⟩ :=G;obtain rfl:=gX N;obtain⟨F,n,L,T⟩ :=R.b.j f;rw[fC,←p,←kg T];refine unpackItems_tuple B (Cu L) λu j=>?_;have r:St c V M { P with heap:=u,toks:=P.toks }:=R.k λb o e=>j b o (λq=>by
  have:=l9 e;rw[q] at this;exact absurd this (lg _)) e
 rw[←nz,gJ];refine fc (Oi (z:=Y.reverse) (X:=F.toList.reverse) (V:=V) (H:=M) (Q:=λl i=>Q fY l i) ?_ r) (λU K G=>G) λU U x=>x;rw[nz,T];exact G
theorem E1{o i:eP}{p d:fE}{e:eP}{Q:gr->eJ->AH->Prop}
  (h:TE c e V H (λv Z=>TE c o V Z (λR T=>TE c i V T (λj L=>∀E s b X M,St c V L s->nv b=v->nv X=R->nv M=j->fi c.g c.b (EF X M b) (λU P=>∃f,St c V f P∧Q fY V f) E s))))
  (O:tL e (d9 (pN o i p)) d.line c.a=f9 em):T1 c (lm [pN o i p] e d) V H Q:=λE s S=>by
 refine wpAny_Assign_Subscript (fc (h E s S) (λv g G=>?_) λU U x=>x) O;refine eR G λZ m A=>?_;refine fc (A E g m) (λR n A=>?_) λU U x=>x;refine eR A λT r y=>?_;refine fc (y E n r) (λj K y=>?_) λU U x=>x;refine eR y λL l B=>?_;exact fc (B E K v R j l rfl rfl rfl) (λU q Y=>eR Y λf a k=>⟨V,f,a,k⟩) λU U x=>x
noncomputable def qx(G:List (Int×ed))(k:Int)(v:ed):List (Int×ed):=x9 G k v
theorem Jc(a:List (Int×ed))(k:Int)(v:ed):(x9 a k v).map (λp=>(p.1,nv p.2))=x9 (a.map λp=>(p.1,nv p.2)) k (nv v):=by
 unfold x9;simp only[Wv,Ko]
 split
 ·rw[gJ,gJ]
  refine kh λp U=>?_;simp only[Ko]
  split<;>rfl
 ·simp
theorem IR{d:et}{G:List (Int×ed)}{k:Int}{v:ed}{Q:AH->Prop}(D:H d=d9 (.e G))(g:G.length≤100000)(h:Q (eQ H d (.e (qx G k v)))):
  ∀E s b X M,St c V H s->nv b=v->nv X=ec d->nv M=vi k->fi c.g c.b (EF X M b) (λU P=>∃f,St c V f P∧Q f) E s:=λE s b X M S N y e=>by
 obtain rfl:=gX y
 (refine ik e λt R=>?_;(clear e;obtain rfl:=R))
 refine S.b.g D λa L T=>?_;have C:a.length=G.length:=by rw[←T];simp
 refine wpAny_setItem_pairs (hsz:=by rw[C,nC];lia) (tJ _ _ _ _) L λu Y j=>?_;refine eR (tx.mp Y) λo y O=>?_;refine(ey _ (S.p (X:=.e (qx G k v)) D j y (ey _ O ?_)) h);rw(occs:=eO) [Jc,T,N];rfl
theorem IT{l:et}{J:List ed}{k:Int}{v:ed}{Q:AH->Prop}(C:H l=d9 (.a J))(d:0≤k)(K:k<J.length)(I:k<2^63)(h:Q (eQ H l (.a (J.set k.toNat v)))):
  ∀E s b X M,St c V H s->nv b=v->nv X=ec l->nv M=vi k->fi c.g c.b (EF X M b) (λU P=>∃f,St c V f P∧Q f) E s:=λE s b X M S N y D=>by
 obtain rfl:=gX y
 (refine ik D λt O=>?_;(clear D;obtain rfl:=O))
 refine S.b.e C λF n L T=>?_;have m:s.TypeIs (ec l) "list":=(iU L).typeIs;unfold EF;refine rR (fv (wpAny_sequenceKey m (by decide) ?_));refine fv (Lp (name:=eE "__setitem__") m XN
  (EJ XN m entry_list_setitem ?_ (args_list_setitem _ _ _)))
 show fi _ _ (Yh (ej k t)>>=_) _ _ s;refine fv (wpAny_listSubscript_int (fitsIndex_of d I) ?_)
 (refine fL (Kq d) λj p=>?_;(clear d I;obtain rfl:=p))
 have a:j<F.size:=by rw[kg T];lia
 show fi _ _ ((seqItemAt l j>>=λr=>f9 (r.map (j,·)))>>=_) _ _ s;refine fv (fv (wpAny_seqItemAt L rfl (iA ?_)));rw[DC a];show fi _ _ (setSeqItemAt l j b>>=_) _ _ s;refine fv (wpAny_setSeqItemAt L rfl ?_);refine iA (ey _ rfl ?_);refine iA (ey _ (S.t (X:=J.set j v) C L ?_) h);rw[Array.toList_setIfInBounds,WO,T,N]
end
section
section
open PySem.F
theorem Vi(a b c:ed):checkTypeCall "zip" ⟨[a,b,c],[]⟩ =f9 ():=by kernel_rfl
theorem RE(a b c:ed):checkBuiltinCall "zip.__new__" ⟨[eK "zip",a,b,c],[]⟩ =f9 ():=by kernel_rfl
theorem O5(a b c d:ed):argsOk "object.__init__" ⟨[a,b,c,d],[]⟩ :=by
 unfold argsOk;rw[signature?_of (id:="object.__init__") (n:=['_','_','t','i','n','i','_','_']) (o:=['t','c','e','j','b','o']) (by kernel_rfl) owner_object];kernel_rfl
end
variable{c:Cx}{V:eJ}{H:AH}
theorem sL:(eK "list_iterator"≠eK "tuple"∧eK "list"≠eK "tuple")∧eK "list"≠eK "list_iterator":=by decide
theorem gV{L:Type}{p:L->Prop}{a:L}{l:List L}(h:p a)(t:∀x∈l,p x):∀x∈a::l,p x:=List.forall_mem_cons.mpr ⟨h,t⟩
theorem lZ{L:Type}{p:L->Prop}:∀x∈([]:List L),p x:=λU h=>absurd h iI
theorem Hd{J:List ed}{i:Nat}(h:i<J.length):J.getD i ez=J[i]:=by
 rw[lE,jF h];rfl
structure jP where
 a:et
 c:et
 b:List ed
noncomputable def kE(J:List ed):Obj:={ cls:=eK "tuple",data:=kR J.toArray }
structure tY(h:fH)(n:Nat)(q:jP):Prop where
 a:h.IsListIter q.a q.c n
 b:∃its,h.IsList q.c its∧its.toList.map nv=q.b
theorem lB{h:fH}{a b:et}{o X:fM}(K:h.get? a=d9 o)(I:h.get? b=d9 X)(c:o.cls≠X.cls):a≠b:=λe=>c (by rw[e,I] at K;rw[eX K])
theorem tY.d{h u:fH}{n:Nat}{q:jP}(x:tY h n q)(D:∀o,h.get? q.a=d9 o->o.cls=eK "list_iterator"->u.get? q.a=d9 o)(C:∀o,h.get? q.c=d9 o->o.cls=eK "list"->u.get? q.c=d9 o):tY u n q:=
 let⟨o,K,I,W⟩ :=x.a;let⟨F,⟨X,m,R,s⟩,M⟩ :=x.b;⟨⟨o,D o K I,I,W⟩,F,⟨X,C X m R,R,s⟩,M⟩
section
variable{M:Model}{A:j0}{E:ed->eZ->Prop}{s:eZ}
theorem Wb{j:Type}{aa:ed×Nat->j->Sem (ForInStep j)}{t:j}{d:et}{n:Nat}{Q:j->eZ->Prop}
  (ag:∀{q:jP} {k:Nat} {i g:List ed} {y:ed} {s:eZ} {R:j->eZ->Prop},tY s.heap n q->n<q.b.length->s.heap.get? d=d9 (kE (i++y::g))->i.length=k->(i++y::g).length≤9->
   (∀u x,nv x=q.b.getD n ez->u.objs.size=s.heap.objs.size->u.get? d=d9 (kE (i++x::g))->u.IsListIter q.a q.c (n+1)->(∀c o,c≠d->c≠q.a->s.heap.get? c=d9 o->u.get? c=d9 o)->R t { s with heap:=u })->
   fi M A (aa (ec q.a,k) t) (λr P=>∃b,r=rG b∧R b P) E s):
  ∀{L:List jP} {i g:List ed} {s:eZ},g.length=L.length->(i++g).length≤9->s.heap.get? d=d9 (kE (i++g))->(∀q∈L,tY s.heap n q∧n<q.b.length)->(L.map (·.a)).Nodup->
   (∀u J,J.map nv=L.map (λq=>q.b.getD n ez)->u.objs.size=s.heap.objs.size->u.get? d=d9 (kE (i++J))->(∀q∈L,u.IsListIter q.a q.c (n+1))->(∀c o,c≠d->c∉L.map (·.a)->s.heap.get? c=d9 o->u.get? c=d9 o)->Q t { s with heap:=u })->
   fi M A (uF ((L.map λq=>ec q.a).zipIdx i.length) t aa) Q E s:=by
 intro L
 induction L with
 |nil=>
  intro i g s C _ m _ _ G;cases g with
  |nil=>exact iA (G s.heap [] rfl rfl m (λU h=>absurd h iI) λU U U U e=>e)
  |cons=>exact rB C
 |cons q L D=>
  intro i g s C Y m T B G;cases g with
  |nil=>exact nZ C
  |cons y g=>
   refine qo B λO af=>?_;refine fe (T q (gL _)) λf l=>?_;rw(occs:=eO) [gj,WZ,Ky];refine fv (fc (ag (R:=λb s1=>fi M A (uF ((L.map λq=>ec q.a).zipIdx (i.length+1)) b aa) Q E s1) f l m rfl Y λu x Z S p a z=>?_) (λr s1 hr=>?_) λU U x=>x)
   ·have e:i++x::g=(i++[x])++g:=by rw(occs:=eO) [nq];rfl
    have e2:i.length+1=(i++[x]).length:=by rw[il];rfl
    rw[e2];refine D (nA C) (by rw[←e,il];rw[il] at Y;exact Y) (e▸p) (λr hr=>?_) af λae J N ac H v X=>?_
    ·refine fe (T r (gu _ hr)) λb1 b2=>?_
     refine f5 f.a λoi V w U=>?_;exact⟨b1.d (λo K I=>z _ _ (lB K m (I▸sL.1.1)) (λe=>O (mm.mpr (ey r hr e))) K) (λo K I=>z _ _ (lB K m (I▸sL.1.2)) (lB K V (by rw[I,w];exact sL.2)) K),b2⟩
    ·refine G ae (x::J) (by rw(occs:=eO) [gj,gj,Z,N]) (ac.trans S) (by rw(occs:=eO) [H,nq];rfl) (λr hr=>?_) λc o K I W=>X _ _ K (λq=>I (gu _ q)) (z _ _ K (λq=>I (q▸gL _)) W)
     clear T B G C f l Z z;rcases gy.mp hr with rfl|hr
     ·refine f5 a λo V w F=>?_
      exact(fQ o (X _ _ (lB V p (w▸sL.1.1)) O V) w F)
     ·exact v r hr
   ·obtain⟨b,rfl,hr⟩ :=hr
    exact hr
end
section
variable{Z:lJ}{w:jI}{A:j0}{E:ed->eZ->Prop}{s:eZ}
theorem Um{i g:List ed}{x y:ed}:(i++y::g).toArray.setIfInBounds i.length x=(i++x::g).toArray:=by
 rw(occs:=eO) [List.setIfInBounds_toArray,List.set_append_right _ _ (ig _),Xa];rfl
structure BQ(h:fH)(z TI TO:et)(L:List jP)(n:Nat):Prop where
 a:pO h z TI TO ez
 c:h.get? TI=d9 (kE (L.map λq=>ec q.a))
 e:∃vs,h.get? TO=d9 (kE vs)∧vs.length=L.length
 b:∀q∈L,tY h n q
 g:(L.map (·.a)).Nodup
 j:TI≠TO
 d:L≠[]
 f:L.length≤9
theorem pG:(eK "zip"≠eK "tuple"∧eK "list_iterator"≠eK "zip")∧eK "list"≠eK "zip":=by decide
theorem Wa{z y d:et}{L:List jP}{n:Nat}{Q:ed->eZ->Prop}(hh:A.handled=eh)(aa:BQ s.heap z y d L n)(W:(∀q∈L,n<q.b.length)∨∀q∈L,q.b.length=n)
  (hE:(∀q∈L,q.b.length=n)->∀u e,(∀c o,c≠z->c≠d->c∉L.map (·.a)->s.heap.get? c=d9 o->u.get? c=d9 o)->(∃o,u.get? e=d9 o∧o.cls=eK "StopIteration")->E (ec e) { s with heap:=u })
  (hQ:(∀q∈L,n<q.b.length)->∀u J,J.map nv=L.map (λq=>q.b.getD n ez)->pO u z y d (kT s.heap.objs.size)->u.get? d=d9 (kE J)->(∀q∈L,u.IsListIter q.a q.c (n+1))->u.get? s.heap.objs.size=d9 (kE J)->
   (∀c o,c≠z->c≠d->c∉L.map (·.a)->s.heap.get? c=d9 o->u.get? c=d9 o)->Q (ec s.heap.objs.size) { s with heap:=u }):
  fi (jJ Z w) A (Builtin.«zip.__next__» ⟨[ec z],[]⟩) (λaw s'=>∃v,aw=.done (iV v)∧Q v s') E s:=by
 refine eR aa.e λaL ae Y=>?_;have P:=aa.a;show fi _ _ (field (ec z) 2>>=_) _ _ _;refine fv (pU P rfl (x:=fF em) rfl ?_);show fi _ _ (field (ec z) 3>>=_) _ _ _;refine fv (pU P rfl (x:=ec y) rfl ?_);refine fv (EL aa.c rfl ?_);have he:(pJ (λq:jP=>ec q.a) L).toArray.isEmpty=false:=by
  cases L with
  |nil=>exact absurd rfl aa.d
  |cons=>rfl
 show fi _ _ (if(pJ (λq:jP=>ec q.a) L).toArray.isEmpty=eb then _ else _) _ _ _;rw[if_neg (by rw[he];exactλaz=>nB az)];show fi _ _ (Xg (ec z)>>=_) _ _ _;refine fv ?_;unfold Xg;refine fv (pU P rfl (x:=ez) rfl (iA ?_));show fi _ _ (rule _>>=_) _ _ _;refine fv (wpAny_rule ?_);refine fv (pU P rfl (x:=ec d) rfl ?_);refine fv (EN P (by show 0<5;decide) λaH h m=>?_);replace h:pO aH z y d En:=h;have O:d≠z:=lB ae P (gM pG.1.1);rcases W with W|W
 rotate_left
 ·(refine ur (List.exists_cons_of_ne_nil aa.d) λq L e1=>?_;(clear hQ Y he;obtain rfl:=e1))
  have q1:=aa.b q (gL _);refine eR q1.b λaJ g1 T=>?_;refine f5 q1.a λoi V i2 F=>?_;refine f5 g1 λol B j2 b=>?_;have k:=lB V P (i2▸pG.1.2);have nl:=lB B P (j2▸pG.2);show fi _ _ (uF (List.zipIdx (ec q.a::pJ (λq:jP=>ec q.a) L) 0) _ _>>=_) _ _ _;rw(occs:=eO) [WZ,Ky];refine fv (fv (fv (Lq ?_)));show fi _ _ (Xe (ec q.a)>>=_) _ _ _;refine fv (wpAny_nextOf_list_end hh (fQ oi (m.extBut _ _ k V) i2 F) (fQ ol (m.extBut _ _ nl B) j2 b) (by rw(occs:=eO) [Ay,kg T,W q (gL _)];exact ig _) λM e r he=>?_);refine eR he λoe j R=>?_;have a:pO M z y d En:=r _ _ (gM k) h;have aC:e≠z:=λx=>by(clear P m h O aa hE k nl;subst x);rw[a] at j;(replace j:=eX j;subst j);exact absurd (Value.type.inj R) (by decide)
  refine EN a (by show 0<5;decide) λS U X=>hE W S e (λc o p U c3 x=>X.extBut _ _ p (r _ _ (λe=>c3 (e▸gL _)) (m.extBut _ _ p x))) (ey oe (X.extBut _ _ aC j) R)
 refine fv (Wb (d:=d) (n:=n) (i:=[]) (g:=aL) (λ{q aK i g aO s aP} f a2 N a4 am a5=>?_) Y (Y▸aa.f) (m.extBut _ _ O ae) (λq G=>⟨(aa.b q G).d (λo K I=>m.extBut _ _ (lB K P (I▸pG.1.2)) K) λo K I=>m.extBut _ _ (lB K P (I▸pG.2)) K,W q G⟩) aa.g λM J hv r H aD ag=>?_)
 ·refine eR f.b λaJ g1 T=>?_
  refine rv T (jF a2) λx hx aF=>?_;refine fv (Lq ?_);show fi _ _ (Xe (ec q.a)>>=_) _ _ _;refine fv (wpAny_nextOf_list_item f.a g1 hx λM aA r=>iA ?_);refine f5 f.a λoi V i2 U=>?_;have k:d≠q.a:=gM (lB V N (i2▸sL.1.1));have H:M.get? d=d9 (kE (i++aO::g)):=r.extBut _ _ k N;refine fv (EL H rfl ?_);refine fv (wpAny_updateSeq H rfl ?_ ?_ ?_)
  ·generalize af:M.update d (K6 λav=>av.setIfInBounds aK x)=S
   have X:qH d M S:=af▸K4 ..;have aB:S.get? d=d9 (kE (i++x::g)):=by
    rw[←af,xR _ H rfl,←a4];unfold kE K6;dsimp only;rw[Um,if_pos (by rw[AN,AN,il,il];exact beq_self_eq_true _)]
   refine fv (wpAny_letGo (iA (ey _ rfl ?_)));refine f5 aA λo B j2 b=>?_;exact a5 S x (by rw[aF,Hd a2]) (X.1.trans r.1) aB (fQ o (X.extBut _ _ (gM k) B) j2 b) λc o p t e=>X.extBut _ _ p (r.extBut _ _ t e)
  ·rw[AN];exact im am (by decide)
  ·rw[Array.size_setIfInBounds,AN];exact im am (by decide)
 ·refine fv (EL H rfl ?_)
  have aE:J.length≤sizeLine:=by
   have:=congrArg qB hv;rw[fC,fC] at this;rw[this];exact im aa.f (by decide)
  refine fv (wpAny_newTuple ?_ aE);have ak:M.objs.size=s.heap.objs.size:=r.trans m.1;refine fL (Kv _ aa.d) λq0 aQ=>?_;have zi:z∉L.map (·.a):=λq=>by
   refine fP q λaM hr e=>?_;refine f5 ((aa.b aM hr).a) λo V i2 U=>?_;exact lB V P (i2▸pG.1.2) e
  have a:pO M z y d En:=ag _ _ (gM O) zi h;have au:z<M.objs.size:=ty a;show fi _ _ (Xf (ec z) (ec M.objs.size)>>=_) _ _ _;refine fv ?_;unfold Xf;have aG:pO (M.push { cls:=eK "tuple",data:=kR J.toArray }) z y d En:=hY _ a;refine fv (EN aG (by show 0<5;decide) λaI ac aq=>?_);replace ac:pO aI z y d (kT M.objs.size):=ac;refine EN ac (by show 1<5;decide) λD l aj=>?_;replace l:pO D z y d (kT M.objs.size):=l;have C:∀c o,c≠z->M.get? c=d9 o->D.get? c=d9 o:=λc o p e=>aj.extBut _ _ p (aq.extBut _ _ p (hY _ e));have hT:D.get? M.objs.size=d9 (kE J):=aj.extBut _ _ (uL au) (aq.extBut _ _ (uL au) (jf _ rfl));rw[ak] at l hT;refine iA (ey _ rfl ?_);show Q (ec M.objs.size) _;rw[ak];refine hQ W D J hv l (C _ _ O H) (λq G=>?_) hT λc o p t c3 e=>C _ _ p (ag _ _ t c3 (m.extBut _ _ p e));refine f5 (aD q G) λo V i2 F=>?_;exact(fQ o (C _ _ (lB V a (i2▸pG.1.2)) V) i2 F)
theorem IC{z y d:et}{L:List jP}{n:Nat}{Q:Option ed->eZ->Prop}(B:A.handled=eh)(a:BQ s.heap z y d L n)(W:(∀q∈L,n<q.b.length)∨∀q∈L,q.b.length=n)
  (b:(∀q∈L,q.b.length=n)->∀u,(∀c o,c≠z->c≠d->c∉L.map (·.a)->s.heap.get? c=d9 o->u.get? c=d9 o)->Q eh { s with heap:=u })
  (O:(∀q∈L,n<q.b.length)->∀u J,J.map nv=L.map (λq=>q.b.getD n ez)->pO u z y d (kT s.heap.objs.size)->u.get? d=d9 (kE J)->(∀q∈L,u.IsListIter q.a q.c (n+1))->u.get? s.heap.objs.size=d9 (kE J)->
   (∀c o,c≠z->c≠d->c∉L.map (·.a)->s.heap.get? c=d9 o->u.get? c=d9 o)->Q (d9 (ec s.heap.objs.size)) { s with heap:=u }):fi (jJ Z w) A (rQ (ec z)) Q E s:=by
 have m:s.TypeIs (ec z) "zip":=(ey _ a.a rfl);unfold rQ;refine fv (wpAny_attempt (Lp (name:=eE "__next__") m Xw
  (EJ Xw m F.entry_zip_next (Wa B a W (λK u e h g=>?_) λK u J f l N G i T=>iA (O K u J f l N G i T)) (F.args_zip_next_1 _))))
 refine eR g λo j X=>?_;refine fv (XV (T:="StopIteration") (b:=eb) (ey o j X) isSubtype_stop ?_);exact iA (b K _ h)
end
noncomputable def DA(y d:et)(R:ed):Obj:={ cls:=eK "zip",dict:=eh,data:=fB #[R,fF em,fF em,ec y,ec d],slots:=#[] }
def zl(o:fM)(l:et)(i:Nat):Prop:=o.cls=eK "list_iterator"∧o.data=fB #[ec l,ej i 0]
theorem Nk{x y:String}{z I:fE}{u v:ed}{Q:eJ->AH->Prop}(O:c.d)(Z:c.a.kindOf (eE x)=d9 eu)(B:c.a.kindOf (eE y)=d9 eu)
  (h:Q (ic (ic V x u) y v) H):oZ c [gk (eE x) z,gk (eE y) I] [u,v] V H Q:=
 tS (oU O Z (tS (oU O B h)))
noncomputable def mF(V:eJ):List String->List ed->eJ
 |x::z,u::A=>mF (ic V x u) z A
 |_,_=>V
def zL(z y d:et)(L:List jP)(f:List ed)(g:et->fM):List (et×fM):=(z,DA y d ez)::(y,kE (L.map λq=>ec q.a))::(d,kE f)::L.map λq=>(q.a,g q.a)
structure BP(TI TO:et)(L:List jP):Prop where
 d:(L.map (·.a)).Nodup
 b:TI≠TO
 a:L≠[]
 c:L.length≤9
structure ZP(z TI TO:et)(L:List jP)(i:Nat)(p:List (et×fM))(kept:List ed)(g:et->fM):Prop where
 b:p=zL z TI TO L kept g
 c:kept.length=L.length
 f:∀q∈L,zl (g q.a) q.c i
theorem Kj{z y d:et}{L:List jP}{f:List ed}{g:et->fM}{R:et->Prop}(K:R z)(I:R y)(W:R d)(O:∀q∈L,R q.a):∀x∈zL z y d L f g,R x.1:=
 gV K (gV I (gV W λx h=>fP h λq G e=>e▸O q G))
theorem ZP.d{z y d:et}{L:List jP}{i:Nat}{p:List (et×fM)}{f:List ed}{g:et->fM}{s:eZ}(D:BP y d L)(h:ZP z y d L i p f g)(S:St (gO c p) V H s)(W:∀q∈L,H q.c=d9 (.a q.b)):BQ s.heap z y d L i:=by
 have r:∀q∈zL z y d L f g,s.heap.get? q.1=d9 q.2:=λq G=>(S.d q.1 q.2 (eH (h.b▸G))).1;refine⟨r _ (gL _),r _ (gu _ (gL _)),(ey f (r _ (gu _ (gu _ (gL _)))) h.c),λq G=>⟨(ey (g q.a) (r (q.a,g q.a) (gu _ (gu _ (gu _ (mm.mpr (ey q G rfl)))))) (h.f q G)),?_⟩,D.d,D.b,D.a,D.c⟩;refine S.b.e (W q G) λF n a T=>?_;exact(ey F (iU a) T)
noncomputable def xt(z y d:et)(L:List jP):List Addr:=z::y::d::L.map (·.a)
theorem V8{z y d:et}{L:List jP}{f:List ed}{g:et->fM}:∀q∈zL z y d L f g,q.1∈xt z y d L:=
 Kj (R:=λa=>a∈xt z y d L) (gL _) (gu _ (gL _)) (gu _ (gu _ (gL _))) λq G=>gu _ (gu _ (gu _ (mm.mpr (ey q G rfl))))
theorem ZP.a{z y d:et}{L:List jP}{i:Nat}{p:List (et×fM)}{f:List ed}{g:et->fM}(h:ZP z y d L i p f g){b:et}(j:∀q∈p,q.1≠b):b≠z∧b≠d∧b∉L.map (·.a):=by
 rw[h.b] at j;refine⟨λq=>j _ (gL _) q.symm,λq=>j _ (gu _ (gu _ (gL _))) q.symm,λq=>?_⟩;refine fP q λr E e=>?_;exact j (r.a,g r.a) (gu _ (gu _ (gu _ (mm.mpr (ey r E rfl))))) e
theorem ZP.e{z y d:et}{L:List jP}{i:Nat}{p:List (et×fM)}{f:List ed}{g:et->fM}(h:ZP z y d L i p f g):∀q∈p,q.1∈xt z y d L:=by
 rw[h.b];exact V8
theorem FT{I:List eP}{k:Nat}{d:fE}{t:et}{F:Array ed}{E:ed->eZ->Prop}{s:eZ}{Q:eJ->AH->Prop}(B:c.b.handled=eh)(z:s.heap.IsTuple t F)(p:F.size=I.length)(W:iQ I=eb)
  (S:St c V H s) (h:oZ c I (F.toList.map nv) V H Q):fi c.g c.b (om (iD I k d) c.a (ec t)) (λU P=>∃l M,St c l M P∧Q l M) E s:=by
 refine XT B z (by rw[(yK W).1,p]) (yK W).2 λu j=>?_;have R:St c V H { s with heap:=u,toks:=s.toks }:=S.k λb o e=>j b o (λq=>by
  have:=l9 e;rw[q] at this;exact absurd this (lg _)) e
 exact E4 W h R
theorem S2{aA:lJ}{aB:jI}{ac:j0}{z y d:et}{L:List jP}{n:Nat}{Y:List String}{I:List eP}{kk:Nat}{pt:fE}(B:ac.handled=eh)(D:BP y d L)(aa:∀q∈L,q.b.length=n)(au:iQ I=eb)(aq:I.length=L.length)
  (az:∀{t:Cx} {A:List ed} {V H} {Q:eJ->AH->Prop},t.d->(∀x∈Y,t.a.kindOf (eE x)=d9 eu)->A.length=L.length->Q (mF V Y A) H->oZ t I A V H Q):
  qa aA aB ac (iD I kk pt) Y (ec z) n (λi V=>mF V Y (L.map λq=>q.b.getD i ez)) (λH=>∀q∈L,H q.c=d9 (.a q.b)) (xt z y d L) (λi p=>∃f g,ZP z y d L i p f g) where
 e:=by
  rintro i p ⟨f,g,h⟩;exact h.e
 d:=by
  rintro t rfl rfl rfl i p V H ae s ⟨f,g,h⟩ W S;exact XY (h.d D S W).a ⟨rfl,S⟩
 b:=by
  rintro t rfl rfl rfl ag hl P i p V H ae s hi ⟨f,g,h⟩ W S;have Z:=h.d D S W;refine eR Z.e λkv m aC=>?_;refine IC B Z (eH λq G=>(aa q G).symm▸hi) (λe=>absurd (e _ (DS D.a)) (by rw[aa _ (DS D.a)];exact uL hi)) λU u J N c1 ak c3 c5 c=>(ey _ rfl ?_);have zi:∀{x:et} {o:fM},s.heap.get? x=d9 o->o.cls=eK "list_iterator"->x≠z∧x≠d:=λK h2=>⟨lB K Z.a (h2▸pG.1.2),lB K m (h2▸sL.1.1)⟩;have X:d≠z∧y≠z:=⟨lB m Z.a (gM pG.1.1),lB Z.c Z.a (gM pG.1.1)⟩;have ti:y∉L.map (·.a):=λq=>by
   refine fP q λr E e=>?_;refine f5 ((Z.b r E).a) λo i1 w U=>?_;exact lB i1 Z.c (w▸sL.1.1) e
  refine wpAny_letOwnedTupleGo_zip (s:={ s with heap:=u }) c1 λM d1 d2=>?_;have C:∀b o,b≠z->u.get? b=d9 o->M.get? b=d9 o:=λb o j e=>(d2.2 b j).trans e;have av:z≠s.heap.objs.size:=rJ (l9 Z.a);let T:et->Obj:=λaj=>(M.get? aj).getD (DA y d ez);have R:∀q∈L,M.get? q.a=d9 (T q.a)∧zl (T q.a) q.c (i+1):=λq G=>by
   refine f5 (c3 q G) λo i1 w F=>?_;refine f5 ((Z.b q G).a) λo0 j1 j2 U=>?_;have e:=C _ _ (zi j1 j2).1 i1;have O:T q.a=o:=by show(M.get? q.a).getD _=_;rw[e];rfl
   rw[O];exact⟨e,w,F⟩
  have a:ZP z y d L (i+1) (zL z y d L J T) J T:=⟨rfl,by have:=congrArg qB N;rwa [fC,fC] at this,λq G=>(R q G).2⟩;have af:St (gO t (zL z y d L J T)) V H { s with heap:=M }:=by
   refine S.f (n:=s.toks) (λq G=>P _ (h.e q G)) (λk o j e=>?_) ?_
   ·refine gY (h.a j) λb1 b2 v=>?_
    exact C k o b1 (c k o b1 b2 v e)
   ·rw[h.b]
    intro q G;rcases gy.mp G with rfl|G
    ·exact⟨d1,eH ⟨_,gL _⟩⟩
    rcases gy.mp G with rfl|G
    ·exact⟨C _ _ X.2 (c _ _ X.2 D.b ti Z.c),eH ⟨_,gu _ (gL _)⟩⟩
    rcases gy.mp G with rfl|G
    ·exact⟨C _ _ X.1 ak,eH ⟨_,gu _ (gu _ (gL _))⟩⟩
    (refine fP G λr E O=>?_;(clear G;clear G;clear G;clear G;obtain rfl:=O))
    exact⟨(R r E).1,eH ⟨g r.a,gu _ (gu _ (gu _ (mm.mpr (ey r E rfl))))⟩⟩
  have hT:M.IsTuple s.heap.objs.size J.toArray:=(fQ _ (C _ _ (gM av) c5) rfl ⟨0,rfl⟩);refine fc (FT (c:=gO t (zL z y d L J T)) (Q:=λl H'=>l=mF V Y (L.map λq=>q.b.getD i ez)∧H'=H) B hT (by rw[AN,a.c,aq]) au af (az ag.k hl (by rw[fC];exact a.c) ⟨by rw[←N],rfl⟩)) (λU aD G=>?_) λU U x=>x
  (refine fT G λl H' aw e3 e4=>?_;obtain rfl:=e3;(clear W S af G;obtain rfl:=e4))
  exact(ey _ ⟨_,_,a⟩ aw)
 c:=by
  rintro t rfl rfl rfl P p V H ae s ⟨f,g,h⟩ W S;refine IC B (h.d D S W) (eI aa) (λU u c=>⟨rfl,?_⟩) λe=>absurd (e _ (DS D.a)) (by rw[aa _ (DS D.a)];exact lg _);refine(S.f (v:=[]) (n:=s.toks) (λq G=>P _ (h.e q G)) (λk o j e=>c k o (h.a j).1 (h.a j).2.1 (h.a j).2.2 e) (by simp)).j
noncomputable abbrev Ap(h:fH)(X:et):Heap:=h.push { cls:=eK "list_iterator",data:=fB #[ec X,ej 0 0] }
abbrev Aq(h:fH)(X V:et):Heap:=(Ap h X).push { cls:=eK "list_iterator",data:=fB #[ec V,ej 0 0] }
abbrev Ar(h:fH)(X V r:et):Heap:=(Aq h X V).push { cls:=eK "list_iterator",data:=fB #[ec r,ej 0 0] }
abbrev As(h:fH)(X V r:et):Heap:=(Ar h X V r).push { cls:=eK "tuple",data:=kR #[ec h.objs.size,ec (Ap h X).objs.size,ec (Aq h X V).objs.size] }
abbrev At(h:fH)(X V r:et):Heap:=(As h X V r).push { cls:=eK "tuple",data:=kR #[ez,ez,ez] }
abbrev tl(h:fH)(X V r:et):Heap:=(At h X V r).push { cls:=eK "zip",data:=fB #[ez,fF em,fF em,ec (Ar h X V r).objs.size,ec (As h X V r).objs.size] }
set_option maxHeartbeats 4000000 in
theorem Ro(X V r:et)(z l N:Array ed):
  Meets (Builtin.«zip.__new__» ⟨[eK "zip",ec X,ec V,ec r],[]⟩) (λU R s=>s.heap.IsList X z∧s.heap.IsList V l∧s.heap.IsList r N∧
   R (kF (iV (ec (At s.heap X V r).objs.size))) { s with heap:=tl s.heap X V r }):=
 .of_wp λZ w A R s h=>by
  obtain⟨J,g,d,k,L⟩ :=s;refine i8 h λj C B o=>?_;have I:=sub_zip;have K:K0 (Ek ⟨J,g,d,k,L⟩) X z:=j;have O:K0 (Ek ⟨J.push { cls:=eK "list_iterator",data:=fB #[ec X,ej 0 0] },g,d,k,L⟩) V l:=K1 C _;have Y:K0 (Ek ⟨(J.push { cls:=eK "list_iterator",data:=fB #[ec X,ej 0 0] }).push { cls:=eK "list_iterator",data:=fB #[ec V,ej 0 0] },g,d,k,L⟩) r N:=K1 (K1 B _) _
  wp_walk using yd K,yd O,yd Y
  exact(ey _ rfl o)
section
variable{Z:lJ}{w:jI}{A:j0}{E:ed->eZ->Prop}{s:eZ}
theorem Py{X V r:et}{z l N:Array ed}{Q:ed->eZ->Prop}(j:s.heap.IsList X z)(C:s.heap.IsList V l)(B:s.heap.IsList r N)
  (h:∀u,pO u (s.heap.objs.size+5) (s.heap.objs.size+3) (s.heap.objs.size+4) ez->u.get? (s.heap.objs.size+3)=d9 (kE [ec s.heap.objs.size,ec (s.heap.objs.size+1),ec (s.heap.objs.size+2)])->
   u.get? (s.heap.objs.size+4)=d9 (kE [ez,ez,ez])->u.IsListIter s.heap.objs.size X 0->u.IsListIter (s.heap.objs.size+1) V 0->u.IsListIter (s.heap.objs.size+2) r 0->
   (∀c o,s.heap.get? c=d9 o->u.get? c=d9 o)->Q (ec (s.heap.objs.size+5)) { s with heap:=u }):
  fi (jJ Z w) A (xX (eK "zip") [ec X,ec V,ec r]) Q E s:=by
 refine callType_new F.called_zip (by decide) (Vi _ _ _) (RE _ _ _) (λM=>O5 M _ _ _) F.entry_zip_new
  (Ro X V r z l N) ⟨j,C,B,?_⟩
 have D:(Ap s.heap X).objs.size=s.heap.objs.size+1:=tz ..;have g:(Aq s.heap X V).objs.size=s.heap.objs.size+2:=by rw[tz,D]
 have p:(Ar s.heap X V r).objs.size=s.heap.objs.size+3:=by rw[tz,g]
 have n:(As s.heap X V r).objs.size=s.heap.objs.size+4:=by rw[tz,p]
 have t:(At s.heap X V r).objs.size=s.heap.objs.size+5:=by rw[tz,n]
 have I:(tl s.heap X V r).get? (At s.heap X V r).objs.size=d9 _:=jf _ rfl;have K:(tl s.heap X V r).get? (As s.heap X V r).objs.size=d9 _:=hY _ (jf _ rfl);have b:(tl s.heap X V r).get? (Ar s.heap X V r).objs.size=d9 _:=hY _ (hY _ (jf _ rfl));have a:(tl s.heap X V r).get? (Aq s.heap X V).objs.size=d9 _:=hY _ (hY _ (hY _ (jf _ rfl)));have T:(tl s.heap X V r).get? (Ap s.heap X).objs.size=d9 _:=hY _ (hY _ (hY _ (hY _ (jf _ rfl))));have L:(tl s.heap X V r).get? s.heap.objs.size=d9 _:=hY _ (hY _ (hY _ (hY _ (hY _ (jf _ rfl)))));show _∧_;rw[p,n,t] at I;rw[D,g,p] at b;rw[n] at K;rw[g] at a;rw[D] at T;rw[t];exact⟨(ey _ I rfl),h _ I b K (fQ _ L rfl rfl) (fQ _ T rfl rfl) (fQ _ a rfl rfl) λc o x=>
  hY _ (hY _ (hY _ (hY _ (hY _ (hY _ x)))))⟩
structure OO(h h':fH)(ls:List et)(z TI TO:et)(is:List et):Prop where
 d:pO h' z TI TO ez
 f:h'.get? TI=d9 (kE (is.map ec))
 e:h'.get? TO=d9 (kE (ls.map λU=>ez))
 k:∀q∈is.zip ls,h'.IsListIter q.1 q.2 0
 l:is.Nodup
 g:TI≠TO
 i:is.length=ls.length
 j:∀c o,h.get? c=d9 o->h'.get? c=d9 o
 b:∀a∈z::TI::TO::is,h.get? a=eh
theorem HW{a:et}:[a].Nodup:=kG.mpr ⟨iI,og⟩
theorem V'{M:List et}{Q:ed->eZ->Prop}(C:M.length=2∨M.length=3)(S:∀l∈M,∃F,s.heap.IsList l F)(G:∀u b y d m,OO s.heap u M b y d m->Q (ec b) { s with heap:=u }):fi (jJ Z w) A (xX (eK "zip") (M.map ec)) Q E s:=by
 have I:∀k,s.heap.get? (s.heap.objs.size+k)=none:=λk=>kA (xF _ _);have a:∀{j k:Nat},j≠k->s.heap.objs.size+j≠s.heap.objs.size+k:=λh e=>h (Nat.add_left_cancel e);rcases M with _|⟨X,_|⟨V,_|⟨r,_|⟨_,_⟩⟩⟩⟩
 ·rcases C with h|h<;>exact nZ h
 ·rcases C with h|h<;>cases h
 ·refine fL (S X (gL _)) λU L=>?_
  refine fL (S V (gu _ (gL _))) λU T=>?_;refine call_zip_2 L T λu p t z J R i c=>G u _ _ _ [s.heap.objs.size+0,s.heap.objs.size+1] ⟨p,t,z,?_,?_,a (by decide),rfl,c,?_⟩
  ·exact gV J (gV R lZ)
  ·exact kG.mpr ⟨λh=>a (by decide) (gR.mp h),HW⟩
  ·exact gV (I _) (gV (I _) (gV (I _) (gV (I _) (gV (I _) lZ))))
 ·refine fL (S X (gL _)) λU L=>?_
  refine fL (S V (gu _ (gL _))) λU T=>?_;obtain⟨_,f⟩ :=S r (gu _ (gu _ (gL _)));refine Py L T f λu p t z J R i c=>G u _ _ _ [s.heap.objs.size+0,s.heap.objs.size+1,s.heap.objs.size+2] ⟨p,t,z,?_,?_,a (by decide),rfl,c,?_⟩
  ·exact gV J (gV R (gV i lZ))
  ·refine kG.mpr ⟨λh=>?_,kG.mpr ⟨λh=>a (by decide) (gR.mp h),HW⟩⟩
   rcases gy.mp h with h|h
   ·exact a (by decide) h
   ·exact a (by decide) (gR.mp h)
  ·exact gV (I _) (gV (I _) (gV (I _) (gV (I _) (gV (I _) (gV (I _) lZ)))))
 ·rcases C with h|h<;>cases h
end
noncomputable def wy:List et->List (et×List ed)->List jP
 |i::m,q::M=>⟨i,q.1,q.2⟩ ::wy m M
 |_,_=>[]
theorem Q1:∀{m:List et} {M:List (et×List ed)},m.length=M.length->(wy m M).length=M.length∧(wy m M).map (·.a)=m∧((wy m M).map λq=>(q.c,q.b))=M:=by
 intro m
 induction m with
 |nil=>
  intro M h;rw[oN.mp h.symm];exact⟨rfl,rfl,rfl⟩
 |cons i m D=>
  intro M h;cases M with
  |nil=>exact rB h
  |cons q M=>refine gY (D (nA h)) λa b c=>?_;exact⟨congrArg (·+1) a,congrArg (i::·) b,congrArg (q::·) c⟩
theorem Q2:∀{m:List et} {M:List (et×List ed)} {q:jP},q∈wy m M->(q.a,q.c)∈m.zip (M.map (·.1)):=by
 intro m
 induction m with
 |nil=>intro M q h;exact absurd h iI
 |cons i m D=>
  intro M q h;cases M with
  |nil=>exact absurd h iI
  |cons r M=>
   rcases gy.mp h with e|h
   ·rw[e];exact gL _
   ·exact gu _ (D h)
theorem Fy{w I:List eP}{j cp pt:fE}{kk n:Nat}{Y:List String}{Q:Nat->(Nat->eJ->eJ)->(AH->Prop)->AH->Prop}(ae:c.d)(hh:c.b.handled=eh)
  (P:TE c (gk "zip" j) V H (λv H1=>v=eK "zip"∧TA c w V H1 (λJ T=>∃M:List (et×List ed),J=M.map (λq=>ec q.1)∧(∀q∈M,T q.1=d9 (.a q.2)∧q.2.length=n)∧(M.length=2∨M.length=3)∧I.length=M.length∧
   Q n (λi V=>mF V Y (M.map λq=>q.2.getD i ez)) (λH=>∀q∈M,H q.1=d9 (.a q.2)) T)))
  (W:iQ w=eb) (aj:iQ I=eb)
  (au:∀{t:Cx} {A:List ed} {V H} {Q:eJ->AH->Prop},t.d->(∀x∈Y,t.a.kindOf (eE x)=d9 eu)->A.length=I.length->Q (mF V Y A) H->oZ t I A V H Q):
  j8 c (jr (gk "zip" j) w [] cp) (iD I kk pt) Y V H Q:=λac s hs=>by
 refine u6 (fc (P ac s hs) (λv aw G=>?_) λU U x=>x);obtain⟨H1,ak,hv,G⟩ :=G;obtain rfl:=zI hv;refine xW (P:=λh=>True) (by rw[qp W];rfl) (λh U=>(ey (xS) (eI (eH rfl)) (AZ rfl))) (sQ W (fc (G ac aw cp ak) (λJ f G=>⟨trivial,?_⟩) λU U x=>x));obtain⟨T,aa,M,k,C,p,B,G⟩ :=G;have e:J=(M.map (·.1)).map ec:=by
  rw[gJ];clear G B p C;revert J
  induction M with
  |nil=>exactλJ k=>ny.mp k
  |cons q M ih=>
   intro J k;cases J with
   |nil=>exact nL k
   |cons v J=>
    obtain⟨h1,h2⟩ :=Ww k;rw[gX h1,ih _ h2];rfl
 rw[e];refine V' (by rw[fC];exact p) (λaz hm=>?_) λu z y d m N=>?_
 ·(refine fP hm λq G e5=>?_;(clear hm;obtain rfl:=e5))
  refine aa.b.e (C q G).1 λav n g1 U=>?_;exact⟨av,iU g1⟩
 obtain⟨L,X,rfl,l3,lz⟩ :∃L:List jP,L.length=M.length∧L.map (·.a)=m∧L.map (λq=>(q.c,q.b))=M∧∀q∈L,(q.a,q.c)∈m.zip (M.map (·.1)):=
  let⟨a,b,c⟩ :=Q1 (m:=m) (M:=M) (by rw[N.i,fC]);(lP _ a b c (λU=>Q2))
 have ag:M.length≤9:=by rcases p with h|h<;>rw[h]<;>decide
 have D:BP y d L:=⟨N.l,N.g,(λq=>by rw[q] at X;rw[←show 0=M.length from X] at p;exact p.elim (λh=>nZ h) (λh=>nZ h)),X▸ag⟩;have S:∀q∈L,(q.c,q.b)∈M:=λq G=>l3▸mm.mpr (ey q G rfl);let g:et->Obj:=λa=>(u.get? a).getD (DA y d ez);have R:∀q∈L,u.get? q.a=d9 (g q.a)∧zl (g q.a) q.c 0:=λq G=>by
  refine f5 (N.k _ (lz q G)) λo i1 i2 F=>?_;have O:g q.a=o:=by show(u.get? q.a).getD _=_;rw[i1];rfl
  rw[O];exact⟨i1,i2,F⟩
 have iK:∀q∈L,q.a∈L.map (·.a):=λq G=>mm.mpr (ey q G rfl);have K:ZP z y d L 0 (zL z y d L (M.map λU=>ez) g) (M.map λU=>ez) g:=⟨rfl,by rw[fC,X],λq G=>(R q G).2⟩;have af:∀x∈zL z y d L (M.map λU=>ez) g,u.get? x.1=d9 x.2:=by
  intro x Z;rcases gy.mp Z with rfl|Z
  ·exact N.d
  rcases gy.mp Z with rfl|Z
  ·rw[N.f,gJ];rfl
  rcases gy.mp Z with rfl|Z
  ·rw[N.e,gJ];rfl
  (refine fP Z λr E e6=>?_;(clear Z;clear Z;clear Z;clear Z;obtain rfl:=e6))
  exact(R r E).1
 have fr:∀x∈zL z y d L (M.map λU=>ez) g,f.heap.get? x.1=none:=Kj (R:=λa=>f.heap.get? a=eh) (N.b _ (gL _)) (N.b _ (gu _ (gL _))) (N.b _ (gu _ (gu _ (gL _)))) λq G=>N.b _ (gu _ (gu _ (gu _ (iK q G))));refine XY (s:={ f with heap:=u }) N.d ?_;refine⟨_,_,_,(xt z y d L),_,_,T,(S2 (n:=n) hh D (λq G=>(C _ (S q G)).2) aj (by rw[B,X]) (λae C hu h=>au ae C (by rw[hu,X,B]) h)),⟨_,_,K⟩,?_,?_,(λq G=>(C _ (S q G)).1),?_⟩
 ·intro a ha
  have l:=N.b a ha;refine⟨(aa.h l).b,?_⟩;rcases gy.mp ha with rfl|ha
  ·exact⟨_,N.d⟩
  rcases gy.mp ha with rfl|ha
  ·exact⟨_,N.f⟩
  clear D K af fr;rcases gy.mp ha with rfl|ha
  ·exact⟨_,N.e⟩
  (refine fP ha λr E e7=>?_;(clear ha l;clear ha;clear ha;clear ha;obtain rfl:=e7))
  exact⟨_,(R r E).1⟩
 ·have aq:St (gO c []) V T f:=aa.q (f:=_) λa o h=>by simpa using h
  exact aq.f (n:=f.toks) (by simp) (λb o U e=>N.j b o e) λq G=>⟨af q G,eI (fr q G)⟩
 ·have e1:(λi V=>mF V Y (L.map λq=>q.b.getD i ez))=λi V=>mF V Y (M.map λq=>q.2.getD i ez):=by
   funext i V;rw[←l3,gJ];rfl
  have O:(λH:AH=>∀q∈L,H q.c=d9 (.a q.b))=λH=>∀q∈M,H q.1=d9 (.a q.2):=by
   funext H;rw[←l3]
   exact propext ⟨λh q G=>by(refine fP G λr E e8=>?_;(clear G;obtain rfl:=e8));exact h r E,λh q G=>h _ (mm.mpr (ey q G rfl))⟩
  rw[e1,O];exact G
end
section
variable{c:Cx}{V:eJ}{H:AH}
theorem BR{J:List ed}{a:ed}(h:J.map nv=[a]):∃x,J=[x]∧nv x=a:=by
 (refine fT (DZ.mp h) λv U R K k=>?_;(clear h;obtain rfl:=R))
 obtain rfl:=ny.mp k;exact(ey v rfl K)
theorem nK{J:List ed}{a:ed}(h:J.map nv=[a]){G:Prop}(N:∀x,J=[x]->nv x=a->G):G:=eR (BR h) N
noncomputable def ph(N:et)(i:Nat)(d:ed):Obj:={ cls:=eK "enumerate",dict:=eh,data:=fB #[ez,fF em,ec N,kT i,ez,d],slots:=#[] }
def P6(l e N:et):Nat->List (et×fM)->Prop:=λi p=>∃d o,p=[(e,ph N i d),(N,o)]∧zl o l i∧e≠N
def yR(x y:String)(J:List ed):Nat->eJ->eJ:=λi V=>ic (ic V x (ej i 0)) y (J.getD i ez)
theorem SV{Z:lJ}{w:jI}{A:j0}{ac e N:et}{J:List ed}{x y:String}{px py pt:fE}{kk:Nat}(B:A.handled=eh):
  qa Z w A (iD [gk (eE x) px,gk (eE y) py] kk pt) [x,y] (ec e) J.length (yR x y J) (λH=>H ac=d9 (.a J)) [e,N] (P6 ac e N) where
 e:=by
  rintro i p ⟨d,o,rfl,_⟩ q G;simp only[gy,iI,or_false] at G;rcases G with rfl|rfl<;>simp
 d:=by
  rintro t rfl rfl rfl i p V H E s ⟨d,o,rfl,_⟩ W S;exact XW (S.d e (ph N i d) (eH (by simp))).1 ⟨rfl,S⟩
 b:=by
  rintro t rfl rfl rfl O hl P i p V H E s v ⟨d,o,rfl,⟨f,l⟩,D⟩ W S;refine S.b.e W λF aj L T=>?_;refine rv T (jF v) λu g Q=>?_;have r:∀q∈[(e,ph N i d),(N,o)],s.heap.get? q.1=d9 q.2:=λq G=>(S.d q.1 q.2 (eH G)).1;have n:=r (e,ph N i d) (by simp);have a:=r (N,o) (by simp);refine wpAny_pyNext_enum_item n (fQ o a f l) (iU L) g D λh' c1 z R c6 c=>(ey (ec s.heap.objs.size) rfl ?_);refine f5 z λY ak aq h=>?_;refine wpAny_letOwnedTupleGo_enum (s:={ s with heap:=h',toks:=s.toks+1 }) c1 λM d1 I=>?_;have C:∀b o,b≠e->h'.get? b=d9 o->M.get? b=d9 o:=λb o j e=>(I.2 b j).trans e;have af:s.heap.objs.size≠e:=uL (l9 n);have aa:St (gO t [(e,ph N (i+1) u),(N,Y)]) V H { s with heap:=M,toks:=s.toks+1 }:=by
   refine S.f (n:=s.toks+1) ?_ (λk X j e'=>?_) ?_
   ·intro q G
    simp only[gy,iI,or_false] at G;rcases G with rfl|rfl<;>exact P _ (by simp)
   ·have K:k≠e:=λq=>j (e,ph N i d) (by simp) q.symm
    exact C k X K (c k X K (λq=>j (N,o) (by simp) q.symm) e')
   ·intro q G
    simp only[gy,iI,or_false] at G;rcases G with rfl|rfl
    ·exact⟨d1,eH ⟨ph N i d,by simp⟩⟩
    ·exact⟨C _ _ (gM D) ak,eH ⟨o,by simp⟩⟩
  have m:M.IsTuple s.heap.objs.size #[ej i s.toks,u]:=(fQ _ (C _ _ af R) rfl ⟨0,rfl⟩);refine fc (FT (c:=gO t [(e,ph N (i+1) u),(N,Y)]) (Q:=λae H'=>ae=yR x y J i V∧H'=H) B m rfl rfl aa (Nk O.k (hl x (by simp)) (hl y (by simp)) ⟨?_,rfl⟩)) (λU au G=>?_) λU U x=>x
  ·unfold yR
   rw[Q,Hd v];rfl
  ·(refine fT G λae H' ag e2 e3=>?_;obtain rfl:=e2;(clear W S aa G;obtain rfl:=e3))
   exact(ey _ (fS u Y rfl ⟨aq,by simpa using h⟩ D) ag)
 c:=by
  rintro t rfl rfl rfl P p V H E s ⟨d,o,rfl,⟨f,l⟩,D⟩ W S;obtain⟨F,aj,L,T⟩ :=S.b.i W;have r:∀q∈[(e,ph N J.length d),(N,o)],s.heap.get? q.1=d9 q.2:=λq G=>(S.d q.1 q.2 (eH G)).1;have v:F[J.length]? =none:=by rw(occs:=eO) [Ay,kg T];exact ig _
  refine wpAny_pyNext_enum_end B (r (e,ph N J.length d) (by simp)) (fQ o (r (N,o) (by simp)) f l) (iU L) v λh' c=>⟨rfl,?_⟩;refine(S.f (v:=[]) (n:=s.toks) ?_ (λk X j e'=>c k X (λq=>j (N,o) (by simp) q.symm) e') (by simp)).j;intro q G;simp only[gy,iI,or_false] at G;rcases G with rfl|rfl<;>exact P _ (by simp)
theorem Ov{R:eP}{j D z py C:fE}{kk:Nat}{x y:String}{Q:Nat->(Nat->eJ->eJ)->(AH->Prop)->AH->Prop}(O:c.d)(B:c.b.handled=eh)
  (P:TE c (gk "enumerate" j) V H (λv Z=>v=eK "enumerate"∧TA c [R] V Z (λJ T=>∃l A,J=[ec l]∧T l=d9 (.a A)∧
   Q A.length (yR x y A) (λH=>H l=d9 (.a A)) T)))
  (W:iQ [R]=eb):
  j8 c (jr (gk "enumerate" j) [R] [] D) (iD [gk (eE x) z,gk (eE y) py] kk C) [x,y] V H Q:=λE s S=>by
 refine u6 (fc (P E s S) (λv g G=>?_) λU U x=>x);obtain⟨Z,m,N,G⟩ :=G;obtain rfl:=zI N;refine xW (P:=λh=>True) (by rw[qp W];rfl) (λh U=>(ey (xS) (eI (eH rfl)) (AZ rfl))) (sQ W (fc (G E g D m) (λJ f G=>⟨trivial,?_⟩) λU U x=>x));obtain⟨T,r,l,A,k,K,G⟩ :=G;obtain⟨v1,rfl,F⟩ :=BR k;clear k;obtain rfl:=gX F;obtain⟨ae,n1,L,g2⟩ :=r.b.i K;refine call_enumerate_list (iU L) λu p t i c7=>?_;refine XW (s:={ f with heap:=u }) p ?_;obtain⟨q1,d,n,ac⟩ :=t;have I:∀aa,f.heap.get? (f.heap.objs.size+aa)=none:=λaa=>kA (xF _ _);have w:f.heap.get? f.heap.objs.size=none:=I 0;refine⟨_,_,_,([f.heap.objs.size+1,f.heap.objs.size]),_,_,T,(SV B),(fS (ez) q1 rfl ⟨n,ac⟩ (KP _)),?_,?_,K,G⟩
 ·intro a M
  simp only[gy,iI,or_false] at M;rcases M with rfl|rfl
  ·exact⟨(r.h (I 1)).b,_,p⟩
  ·exact⟨(r.h w).b,_,d⟩
 ·have X:St (gO c []) V T f:=r.q (f:=_) λa o h=>by simpa using h
  refine X.f (n:=f.toks) (by simp) (λb o U e=>c7 b o e) ?_;intro q Y;simp only[gy,iI,or_false] at Y;rcases Y with rfl|rfl
  ·exact⟨p,eI (I 1)⟩
  ·exact⟨d,eI w⟩
def JZ(l N:et):Nat->List (et×fM)->Prop:=λi p=>∃o:fM,p=[(N,o)]∧o.cls=eK "tuple_iterator"∧o.data=fB #[ec l,ej i 0]
theorem Dq{s:eZ}{l N:et}{i:Nat}{p:List (et×fM)}(h:JZ l N i p)(S:St (gO c p) V H s):s.heap.IsTupleIter N l i:=by
 (refine f5 h λo d K I=>?_;(clear h;obtain rfl:=d))
 exact(fQ o ((S.d N o (eH (by simp))).1) K I)
theorem S0{aa:lJ}{w:jI}{A:j0}{l N:et}{J:List ed}{x:String}{z:fE}(B:A.handled=eh):
  qa aa w A (gk (eE x) z) [x] (ec N) J.length (λi V=>ic V x (J.getD i ez)) (λH=>H l=d9 (.f J)) [N] (JZ l N) where
 e:=by rintro i p ⟨o,rfl,_⟩ q G;simp at G;simp[G]
 d:=by
  rintro t rfl rfl rfl i p V H E s h W S;exact wpAny_pyIter_tupleiter (Dq h S) ⟨rfl,S⟩
 b:=by
  rintro t rfl rfl rfl O C P i p V H E s D h W S;refine S.b.k W λF n f T=>?_;have L:s.heap.IsTuple l F:=(fQ _ f rfl ⟨n,rfl⟩);refine rv T (jF D) λy Q d=>?_;refine wpAny_pyNext_tuple_item (Dq h S) L Q λu a j=>?_;refine f5 a λX m R k3=>?_;refine(ey y rfl (iA (tM ?_)))
  (refine f5 h λo Z K I=>?_;(clear h;obtain rfl:=Z))
  have r:St (gO t [(N,X)]) V H { s with heap:=u }:=S.f (n:=s.toks) (by simpa using P N (by simp)) (λb x g e=>(j.2 b (λq=>g (N,o) (by simp) q.symm)).trans e)
   (by intro q G;simp only[gR] at G;rw[G];exact⟨m,eH ⟨o,by simp⟩⟩)
  refine fc (oU (c:=gO t [(N,X)]) (Q:=λc M=>c=ic V x (J.getD i ez)∧M=H) O.k (C x (by simp)) ⟨rfl,rfl⟩ _ _ y r ?_) (λU ac G=>?_) λU U x=>x
  ·rw[d,lE,jF D];rfl
  ·(refine fT G λc M v k Y=>?_;obtain rfl:=k;(clear W S r G;obtain rfl:=Y))
   exact(ey _ (fQ X rfl R (by simpa using k3)) v)
 c:=by
  rintro t rfl rfl rfl P p V H E s h W S;refine S.b.k W λF n f T=>?_;have L:s.heap.IsTuple l F:=(fQ _ f rfl ⟨n,rfl⟩);have D:F[J.length]? =none:=by rw(occs:=eO) [Ay,kg T];exact ig _
  refine wpAny_pyNext_tuple_end B (Dq h S) L D λu j=>⟨rfl,?_⟩;obtain⟨o,rfl,K,I⟩ :=h;exact(S.f (v:=[]) (n:=s.toks) (by simpa using P N (by simp)) (λb x g e=>j b x (λq=>g (N,o) (by simp) q.symm) e) (by simp)).j
theorem Oz{w:eP}{x:String}{z:fE}{Q:Nat->(Nat->eJ->eJ)->(AH->Prop)->AH->Prop}(B:c.b.handled=eh)
  (h:TE c w V H (λv Z=>∃l J,v=ec l∧Z l=d9 (.f J)∧Q J.length (λi V=>ic V x (J.getD i ez)) (λH=>H l=d9 (.f J)) Z)):
  j8 c w (gk (eE x) z) [x] V H Q:=λE s S=>by
 refine fc (h E s S) (λv g G=>?_) λU U x=>x;obtain⟨Z,m,l,J,N,C,G⟩ :=G;obtain rfl:=gX N;obtain⟨F,n,f,T⟩ :=m.b.j C;have L:g.heap.IsTuple l F:=(fQ _ f rfl ⟨n,rfl⟩);refine wpAny_pyIter_tuple L ?_;have O:g.heap.get? g.heap.objs.size=none:=kA (ig _);have I:=m.h O;obtain⟨W,q⟩ :=m.r (d:=g.heap.objs.size) (X:=.c { cls:=eK "tuple_iterator",data:=fB #[ec l,ej 0 0] }) (u:=g.heap.push _) (k:=g.toks) O
  (λb o e=>hY _ e) (jf _ rfl) rfl
 exact⟨_,_,_,([g.heap.objs.size]),_,([(g.heap.objs.size,_)]),Z,(S0 B),(fQ _ rfl rfl rfl),(by simpa using⟨I.b,_,jf _ rfl⟩),(q.u W),C,G⟩
noncomputable def oH(i left:Nat):Obj:={ cls:=eK "range_iterator",dict:=eh,data:=fB #[kT i,kT left,kT 1],slots:=#[] }
def S5(n:Nat)(N:et):Nat->List (et×fM)->Prop:=λi p=>p=[(N,oH i (n-i))]
theorem SZ{Z:lJ}{w:jI}{A:j0}{N:et}{n:Nat}{x:String}{z:fE}(B:A.handled=eh):
  qa Z w A (gk (eE x) z) [x] (ec N) n (λi V=>ic V x (ej i 0)) (λH=>True) [N] (S5 n N) where
 e:=by rintro i p rfl q G;simp at G;simp[G]
 d:=by
  rintro t rfl rfl rfl i p V H E s rfl W S;exact wpAny_pyIter_rangeiter (S.d N (oH i (n-i)) (eH (by simp))).1 ⟨rfl,S⟩
 b:=by
  rintro t rfl rfl rfl O C P i p V H E s D rfl W S;refine wpAny_pyNext_range_item (S.d N (oH i (n-i)) (eH (by simp))).1 (by lia) λu a j=>?_;have a:u.get? N=d9 (oH (i+1) (n-(i+1))):=by
   rw[show IsRangeIter u N ((i:Int)+1) (((n-i:Nat):Int)-1) 1=(u.get? N=d9 _) from rfl] at a;rw[a];unfold oH;rw[show((n-i:Nat):Int)-1=((n-(i+1):Nat):Int) by lia];rfl
  refine(ey (ej i s.toks) rfl (iA (tM ?_)));have r:St (gO t [(N,oH (i+1) (n-(i+1)))]) V H { s with heap:=u,toks:=s.toks+1 }:=S.f (n:=s.toks+1) (by simpa using P N (by simp)) (λb x g e=>(j.2 b (λq=>g (N,oH i (n-i)) (by simp) q.symm)).trans e)
   (by intro q G;simp only[gR] at G;rw[G];exact⟨a,eH ⟨oH i (n-i),by simp⟩⟩)
  refine fc (oU (c:=gO t [(N,oH (i+1) (n-(i+1)))]) (Q:=λl M=>l=ic V x (ej i 0)∧M=H) O.k (C x (by simp)) ⟨rfl,rfl⟩ _ _ (ej i s.toks) r rfl) (λU K G=>?_) λU U x=>x;clear S r;obtain⟨l,M,X,rfl,rfl⟩ :=G;exact(ey _ rfl X)
 c:=by
  rintro t rfl rfl rfl P p V H E s rfl W S;refine wpAny_pyNext_range_end B (S.d N (oH n (n-n)) (eH (by simp))).1 (by lia) λu j=>⟨rfl,?_⟩;exact(S.f (v:=[]) (n:=s.toks) (by simpa using P N (by simp)) (λb x g e=>j b x (λq=>g (N,oH n (n-n)) (by simp) q.symm) e) (by simp)).j
theorem Fx{R:eP}{x:String}{u D z:fE}{Q:Nat->(Nat->eJ->eJ)->(AH->Prop)->AH->Prop}(O:c.d)(B:c.b.handled=eh)
  (P:TE c (gk "range" u) V H (λv Z=>v=eK "range"∧TA c [R] V Z (λJ T=>∃n:Nat,J=[ej n 0]∧n<1000000∧Q n (λi V=>ic V x (ej i 0)) (λU=>True) T)))
  (W:iQ [R]=eb):
  j8 c (jr (gk "range" u) [R] [] D) (gk (eE x) z) [x] V H Q:=λE s S=>by
 refine u6 (fc (P E s S) (λv g G=>?_) λU U x=>x);obtain⟨Z,m,N,G⟩ :=G;obtain rfl:=zI N;refine xW (P:=λh=>True) (by rw[qp W];rfl) (λh U=>(ey (xS) (eI (eH rfl)) (AZ rfl))) (sQ W (fc (G E g D m) (λJ f G=>⟨trivial,?_⟩) λU U x=>x));obtain⟨T,r,n,k,y,G⟩ :=G;obtain⟨v1,rfl,F⟩ :=BR k;clear k;obtain⟨t,rfl⟩ :=uo F;refine call_range_1 ?_;have A:Yi 0 (n:Int) 1=(n:Int):=by rw[rangeSize_one];split<;>lia
 have I:∀d,f.heap.get? (f.heap.objs.size+d)=none:=λd=>kA (xF _ _);have w:f.heap.get? f.heap.objs.size=none:=I 0;have j:(f.heap.push { cls:=eK "range",data:=fB #[ej 0 f.toks,ej n t,ej 1 (f.toks+1)] }).objs.size=f.heap.objs.size+1:=tz ..;refine wpAny_pyIter_range (IsRange.new f.heap 0 n 1 f.toks t (f.toks+1)) (small_one (by lia) (by lia) (by lia) (by lia)) ?_;rw[A];have L:=jf (f.heap.push { cls:=eK "range",data:=fB #[ej 0 f.toks,ej n t,ej 1 (f.toks+1)] }) (o:={ cls:=eK "range_iterator",data:=fB #[kT 0,kT n,kT 1] }) rfl;rw[j] at L;show∃n aa l C K p Z,qa _ _ _ _ _ (ec (f.heap.push _).objs.size) _ _ _ _ _∧_;rw[j];refine⟨_,_,_,([f.heap.objs.size+1]),_,_,T,(SZ B),rfl,?_,?_,trivial,G⟩
 ·intro a M
  obtain rfl:=gR.mp M;exact⟨(r.h (I 1)).b,_,L⟩
 ·have X:St (gO c []) V T f:=r.q (f:=_) λa o h=>by simpa using h
  refine X.f (n:=f.toks+1+1) (by simp) (λb o U e=>hY _ (hY _ e)) ?_;intro q Y;obtain rfl:=gR.mp Y;exact⟨L,eI (I 1)⟩
theorem Ka{a:et}{o:AO}(h:H a=d9 o):eQ H a o=H:=by
 funext b;unfold eQ;by_cases j:b=a
 ·rw[if_pos j,j,h]
 ·rw[if_neg j]
theorem GH{Z:lJ}{w:jI}:OR Z w (.e []) { cls:=eK "dict",data:=oQ #[] }:=by
 refine eR (tx.mp (Heap.DictOf.new (knd:=pT Z w) (fU:fH))) λo L T=>?_;rw[jf _ rfl] at L;obtain rfl:=eX L;exact(ey ([]) T rfl)
theorem Fi{d:fE}{Q:ed->AH->Prop}(O:c.d)(h:∀D,H D=eh->(D==mO)=em->Q (ec D) (eQ H D (.e []))):TE c (.Dict [] [] d) V H Q:=λE s S=>by
 refine wpAny_Dict_empty ?_;refine eR S.e λm F U=>?_;have a:s.heap.get? s.heap.objs.size=none:=kA (ig _);refine S.i (d:=s.heap.objs.size) (X:=.e []) (u:=s.heap.push { cls:=eK "dict",data:=oQ #[] }) (k:=s.toks) a
  (λb o e=>hY _ e) (jf _ rfl) GH λW q=>?_
 exact(ey _ q (h _ W (F.notModules (modules_low O.d.nolimit))))
theorem OA{w B:eP}{d:et}{o:fM}{G:List (Int×ed)}{i:Int}{u:ed}{Q:ed->AH->Prop}(C:H d=d9 (.c o))(y:OR c.l c.k (.e G) o)(g:G.lookup i=d9 u)(h:Q u H)
  (W:qZ B):re c w B (ec d) (vi i) V H Q:=λE s v k S N z=>by
 obtain rfl:=gX N
 (refine ik z λt R=>?_;(clear z;obtain rfl:=R))
 (refine S.b.d d _ C λf J O=>?_;(clear C;obtain rfl:=O))
 refine eR y λa K T=>?_;have L:s.heap.DictOf (pT c.l c.k) d a:=tx.mpr (ey f J K)
 (refine eR (Du T g) λx r p=>?_;(clear g;obtain rfl:=p))
 exact xI L.typeIs XM.lookup (XU (tJ _ _ _ _) L.mapOf r (ey H (S.g _) h)) (W _ _)
def PW(d N:et)(n A:Nat):Nat->List (et×fM)->Prop:=λi p=>∃o:fM,p=[(N,o)]∧o.cls=eK "dict_keyiterator"∧o.data=fB #[ec d,ej i 0,ej n 0,ej A 0]
theorem SW{Z:lJ}{w:jI}{v:j0}{d N:et}{A:Nat}{o:fM}{a:List (Int×ed)}{x:String}{px:fE}(B:v.handled=eh)
  (y:∀h:fH,h.get? d=d9 o->h.DictAt (pT Z w) d a A):
  qa Z w v (gk (eE x) px) [x] (ec N) a.length (λi V=>ic V x (ej ((a.map (·.1)).getD i 0) 0)) (λH=>H d=d9 (.c o)) [N] (PW d N a.length A) where
 e:=by rintro i p ⟨o,rfl,_⟩ q G;simp at G;simp[G]
 d:=by
  rintro t rfl rfl rfl i p V H E s ⟨o,rfl,K,I⟩ W S;exact wpAny_pyIter_keyiter (fQ o ((S.d N o (eH (by simp))).1) K I) ⟨rfl,S⟩
 b:=by
  rintro t rfl rfl rfl O C P i p V H E s D ⟨L,rfl,K,I⟩ W S
  (refine S.b.d d _ W λf J Q=>?_;(clear W;obtain rfl:=Q))
  have c:s.heap.IsKeyIter N d i a.length A:=(fQ L ((S.d N L (eH (by simp))).1) K I);refine wpAny_pyNext_dict_item c (y _ J) (k:=a[i].1) (v:=a[i].2) (jF D) λac u z T j=>?_
  (refine fL (XF z) λk e5=>?_;(clear z;obtain rfl:=e5))
  refine f5 T λX m R F=>?_;refine(ey _ rfl (letGo_keyiter (s':={ s with heap:=u }) (fQ X m R F) (tM ?_)));have r:St (gO t [(N,X)]) V H { s with heap:=u }:=S.f (n:=s.toks) (by simpa using P N (by simp)) (λb x g e=>(j.2 b (λq=>g (N,L) (by simp) q.symm)).trans e)
   (by intro q G;simp only[gR] at G;rw[G];exact⟨m,eH ⟨L,by simp⟩⟩)
  refine fc (oU (c:=gO t [(N,X)]) (Q:=λl M=>l=ic V x (ej ((a.map (·.1)).getD i 0) 0)∧M=H) O.k (C x (by simp)) ⟨rfl,rfl⟩ _ _ (ej a[i].1 k) r ?_) (λU ae G=>?_) λU U x=>x
  ·rw[lE,lF,jF D];rfl
  ·(refine fT G λl M aa n Y=>?_;obtain rfl:=n;(clear S r G;obtain rfl:=Y))
   exact(ey _ (fQ X rfl R (by simpa using F)) aa)
 c:=by
  rintro t rfl rfl rfl P p V H E s ⟨L,rfl,K,I⟩ W S
  (refine S.b.d d _ W λf J e8=>?_;(clear W;obtain rfl:=e8))
  have c:s.heap.IsKeyIter N d a.length a.length A:=(fQ L ((S.d N L (eH (by simp))).1) K I);refine wpAny_pyNext_dict_end B c (y _ J) (DQ (ig _)) λu j=>⟨rfl,?_⟩;exact(S.f (v:=[]) (n:=s.toks) (by simpa using P N (by simp)) (λb x g e=>j b x (λq=>g (N,L) (by simp) q.symm) e) (by simp)).j
theorem Ow{w:eP}{x:String}{z:fE}{Q:Nat->(Nat->eJ->eJ)->(AH->Prop)->AH->Prop}(B:c.b.handled=eh)
  (h:TE c w V H (λv Z=>∃d G,v=ec d∧(d==mO)=em∧Z d=d9 (.e G)∧∀o,OR c.l c.k (.e G) o->(∀s,St c V (eQ Z d (.c o)) s->St c V Z s)->
   Q G.length (λi V=>ic V x (ej ((G.map (·.1)).getD i 0) 0)) (λH=>H d=d9 (.c o)) (eQ Z d (.c o)))):
  j8 c w (gk (eE x) z) [x] V H Q:=λE s S=>by
 refine fc (h E s S) (λv g k=>?_) λU U x=>x;obtain⟨Z,m,d,G,N,D,C,k⟩ :=k;obtain rfl:=gX N;obtain⟨f,J,a,j,F⟩ :=m.b.f d _ C;have p:a.length=G.length:=by rw[←F];simp
 have K:a.map (·.1)=G.map (·.1):=by rw[←F];simp
 obtain⟨A,t⟩ :=(tx.mpr (ey f J j):g.heap.DictOf (pT c.l c.k) d a).dictAt;have T:∀h:fH,h.get? d=d9 f->h.DictAt (pT c.l c.k) d a A:=λh e=>by
  obtain⟨o,l,y,r⟩ :=t;rw[J] at y
  (replace y:=eX y;subst y)
  exact(ib _ l e r)
 refine wpAny_pyIter_dict D t ?_;have M:St c V (eQ Z d (.c f)) g:=m.p (X:=.c f) (L:=f) (u:=g.heap) (k:=g.toks) C (AX _ _) J rfl;have O:g.heap.get? g.heap.objs.size=none:=kA (ig _);have I:=M.h O;obtain⟨W,q⟩ :=M.r (d:=g.heap.objs.size) (X:=.c { cls:=eK "dict_keyiterator",data:=fB #[ec d,ej 0 0,ej a.length 0,ej A 0] }) (u:=g.heap.push _) (k:=g.toks) O
  (λb o e=>hY _ e) (jf _ rfl) rfl
 have R:∀s,St c V (eQ Z d (.c f)) s->St c V Z s:=λs h=>by
  have:=h.A (Y:=.e G) (ey a j F);rwa [Ka C] at this
 refine⟨_,_,_,([g.heap.objs.size]),_,([(g.heap.objs.size,_)]),(eQ Z d (.c f)),(SW B T),(fQ _ rfl rfl rfl),(by simpa using⟨I.b,_,jf _ rfl⟩),(q.u W),(gA _ _ _),?_⟩;rw[p,K];exact k f (ey a j F) R
theorem PI{Z:lJ}{w:jI}{A:j0}{R:pQ->eZ->Prop}{s:eZ}{b o W e:eP}{a:List eP}{t:jG}{d:fE}{N:ed}{D:et}{B:iN}(I:Nat->eZ->Prop)
  (p:∀n s,I n s->∀E,fi (jJ Z w) A (rQ N) (λr g=>match r with
   |none=>R (kF fY) g
   |some v=>fi (jJ Z w) A (ED W N v) (λU j=>fi (jJ Z w) A (om W B v) (λU f=>
     fi (jJ Z w) A (uF a eb λc r=>if r=eb then do let F←xZ c B (jc c B);f9 (rG F) else f9 (rG r)) (λF K=>
      if F=eb then fi (jJ Z w) A (jc b B) (λT q=>fi (jJ Z w) A (jc o B) (λi L=>
       fi (jJ Z w) A (dictSet D T i) (λU J=>∃m,m<n∧I m J) E L) E q) E K
      else∃m,m<n∧I m K) E f) E j) E g) E s)
  (n:Nat) (h:I n s):qL (jJ Z w) A (xK (qG b o [⟨W,e,a,0⟩] t d) 0 N (ec D) B) R s:=by
 refine Lg rfl I (λn s O=>?_) n h;show fi _ A ((compTurn (qG b o [⟨W,e,a,0⟩] t d) 0 N (ec D) B).onRaise (λx=>do tK x B;Lo x)) _ _ s;refine wpAny_noted ?_;rw(occs:=eO) [compTurn_dict];refine fv (rT (fv (fc (p n s O _) (λr g X=>?_) λU U u=>u)));cases r with
 |none=>exact iA X
 |some v=>
  refine fv (fc X (λU j Y=>?_) λU U u=>u);refine fv (fc Y (λU f M=>fv (fc M (λF K S=>?_) λU U u=>u)) λU U u=>u);cases F with
  |false=>exact iA ⟨rfl,S⟩
  |true=>exact fv (fv (fc S (λT q C=>fv (rR (fc C (λi L G=>fv (rT (rR (fc G (λU J k=>iA ⟨rfl,k⟩) λU U u=>u)))) λU U u=>u))) λU U u=>u))
abbrev FA(c:Cx)(t:jG)(X:List (ft×et))(b o:eP)(a:List eP):Nat->(Nat->eJ->eJ)->(AH->Prop)->AH->(Nat->List (Int×ed)->AH->Prop)->Prop:=
 BA (λc V H z K=>TE c b V H λu L=>∃k,u=ej k 0∧TE c o V L λv f=>K (qx z k v) f) c t X a
theorem PE{b o W w:eP}{a:List eP}{t:jG}{d:fE}{Y:List String}{X:List (ft×et)}{Q:ed->eZ->Prop}{v:Option (ed->Sem Unit)}{E:ed->eZ->Prop}{s:eZ}{ps:fE}(ac:c.d)(i:c.i=eh)
  (N:∀x,pS w c.a x=f9 x) (au:rO t c.a=f9 X) (aq:∀y∈t.names,y.2≠fK) (f:t.kind=jH)
  (aw:∀y∈t.names,y.2=eu->t.names.lookup y.1=d9 eu) (hl:∀x∈Y,t.names.lookup (eE x)=d9 eu)
  (S:St c V H s) {K:List (Int×ed)->AH->Prop}
  (h:j8 c w W Y V H (λn e l Z=>∃J,FA c t X b o a n e l Z J∧∀z M,J n z M->K z M))
  (j:∀z M D C P,K z M->M D=eh->(D==mO)=em->(∀u k,qH C P.heap u->St c V (eQ M D (.e z)) { P with heap:=u,toks:=k })->rW c (eQ M D (.e z)) C->(∃m,P.heap.Ns C m)->Ez c.g c.b E v Q (ec D) C (kF fY) P):
  fi c.g c.b (xY (qG b o [⟨W,w,a,0⟩] t d) t c.a ps (newDict) em (jc w c.a) v) Q E s:=
 GA (mk:=.e) (l:={ cls:=eK "dict",data:=oQ #[] }) (aZ:=λD B R E s=>fi c.g c.b (jc b B) (λT q=>fi c.g c.b (jc o B) (λvv L=>fi c.g c.b (dictSet D T vv) (λU aJ=>R aJ) E L) E q) E s) rfl rfl
  (λh=>A9 (T:="dict") (data:=oQ #[]) (dict:=eh) h (by size_fits)) GH (λaa=>PI aa)
  (λ{c2 V H z K D aH R E s} e1 O S G aK ho gD aE=>by
   rw[←e1,←O];refine fc (G E s S) (λu' sx A=>?_) λU U x=>x;refine eR A λHx aC g=>?_;refine eR g λaF I aB=>?_;refine ik I λk aj=>?_;clear A g I;rw[aj];refine fc (aB _ sx aC) (λv' L az=>?_) λU U x=>x;refine eR az λr p aA=>?_;refine eR ho λaG av F=>?_;have hl:aG.length=z.length:=by rw[←F];simp
   rw[e1,O];refine wpAny_dictSet_pairs (hsz:=by rw[hl,nC];omega) (tJ c.l c.k aF k) (tx.mpr (ey aH (gD _ _ _ p) av)) λaD af ae=>?_;refine eR (tx.mp af) λaI ak ag=>?_;exact aE _ r L aI aD (L.toks+1) p aA (ey _ ag (by rw(occs:=eO) [Jc,F];rfl)) ak ae)
  codeAny_compStart_dict ac i N au aq f aw hl S h j
theorem M6{y:String}{I:fE}{b o W w:eP}{a:List eP}{t:jG}{L d:fE}{Y:List String}{X:List (ft×et)}{Q:gr->eJ->AH->Prop}(O:c.d)(i:c.i=eh)
  (aj:tL (qG b o [⟨W,w,a,0⟩] t L) (d9 (gk (eE y) I)) d.line c.a=f9 eb) (B:c.a.kindOf (eE y)=d9 eu)
  (ae:rO t c.a=f9 X) (C:∀x∈Y,t.names.lookup (eE x)=d9 eu)
  (h:j8 c w W Y V H (λn e ak Z=>∃J,FA c t X b o a n e ak Z J∧∀z M,J n z M->∀D,M D=eh->(D==mO)=em->Q fY (ic V y (ec D)) (eQ M D (.e z))))
  (N:∀x,pS w c.a x=f9 x) (A:∀y∈t.names,y.2≠fK) (f:t.kind=jH)
  (g:∀y∈t.names,y.2=eu->t.names.lookup y.1=d9 eu):
  T1 c (lm [gk (eE y) I] (qG b o [⟨W,w,a,0⟩] t L) d) V H Q:=λau s S=>by
 rw[XJ _ _ _ _ aj];refine fv (rT (fv ?_));show fi _ _ (do let _←xY (qG b o [⟨W,w,a,0⟩] t L) t c.a w.pos (newDict) em (jc w c.a) (d9 (om (gk (eE y) I) c.a))) _ _ s;refine fv (fc (PE O i N ae A f g C S (K:=λz M=>∀D,M D=eh->(D==mO)=em->Q fY (ic V y (ec D)) (eQ M D (.e z))) (v:=d9 (om (gk (eE y) I) c.a)) (Q:=λU P=>∃k M,St c k M P∧Q fY k M) h
  λz M D aq P F q aa j l p=>?_) (λU P G=>iA (iA G)) λU U x=>x)
 refine fL p λm hm=>?_;have R:=j P.heap P.toks (AX _ _);refine f5 (R.D (m:=m) i) λK v T af=>?_;show fi _ _ (om (gk (eE y) I) c.a (ec D)) _ _ _;have u:P.heap.Ns c.a.locals K:=by rw[T];exact v.ns
 refine tM (Lr B u (λav ag E=>?_) (by rw[O.b];rfl));have r:=R.w (x:=y) (v:=ec D) u af ag E (k:=P.toks+1);refine(ey m (hm.sameBut E l.e) (λaw ac=>(ib _ _ ?_ (F D q aa))));exact r.E l ac (k:=P.toks+1)
theorem Ht{F:Array ed}{X:List Int}(h:F.toList.map nv=X.map vi):Eb F.toList X:=zh h
theorem zk:∀{J:List ed} {X:List Int},Eb J X->J.map nv=X.map vi
 |_,_,.nil=>rfl
 |_,_,.cons n t h=>by rw[gj,gj,zk h];rfl
theorem NB{l:et}{J:List ed}{Q:ed->AH->Prop}(C:H l=d9 (.a J))(P:J.length≤100000)(h:Q (vi J.length) H):
  TC c (iP "len") [ec l] V H Q:=λE s f S g=>by
 (refine nK g λx R Z=>?_;(clear g;obtain rfl:=R))
 obtain rfl:=gX Z;refine S.b.e C λF n L T=>?_;have G:=kg T;exact call_len_list (iU L) (by lia) (ey H (S.g _) (by rw[G];exact h))
theorem Nu{a:Int}{Q:ed->AH->Prop}(h:Q (vi (if a<0 then-a else a)) H):TC c (iP "abs") [vi a] V H Q:=λE s f S g=>by
 (refine nK g λx O Z=>?_;(clear g;obtain rfl:=O))
 (refine ik Z λt p=>?_;(clear Z;obtain rfl:=p))
 exact call_abs_int λu k=>(ey H (S.g _) h)
theorem Cn{F:Array ed}{X:List Int}(h:F.toList.map nv=X.map vi){i:Nat}{v:ed}(N:F[i]? =d9 v):∃t,v=ej (X.getD i 0) t:=by
 have K:(F.toList.map nv)[i]? =d9 (nv v):=by rw[lF,DD,N];rfl
 rw[h,lF,uN] at K;refine eR K λa I W=>?_;rw[lE,I];refine ik W.symm λt z=>?_;exact⟨t,z⟩
theorem NJ{l:et}{X:List Int}{Q:ed->AH->Prop}(B:c.b.handled=eh)(C:H l=d9 (.a (X.map vi)))(h:Q (vi X.sum) H):
  TC c (iP "sum") [ec l] V H Q:=λE s f S g=>by
 (refine nK g λx d Z=>?_;(clear g;obtain rfl:=d))
 obtain rfl:=gX Z;refine S.b.e C λF n L T=>?_;have y:=l9 L;have G:=kg T;refine call_sum_walkAnyS (yd (iU L) ?_);refine⟨s.heap.objs.size,_,_,_,F.size,_,_,(λi=>X.getD i 0),rfl,((Walks.list (A:=c.b.in1) B s.heap.objs.size l (rJ y) F).toS),⟨(fQ _ (jf _ rfl) rfl rfl),(iU L).push _⟩,(λb j=>?_),(λi v N=>Cn T N),(λP a Y=>?_)⟩
 ·show b<(s.heap.push _).objs.size
  rw[tz];rcases gy.mp j with e|j
  ·rw[e];exact uK _
  ·rw[gR.mp j];exact W8 y
 ·have z:∀b o,s.heap.get? b=d9 o->P.heap.get? b=d9 o:=λb o e=>
   Y.heap b o (λO=>absurd (ty e) (by rw[gR.mp O];exact lg _)) (hY _ e)
  rw[Moved.eq_with Y];refine(ey H (S.k z (k:=P.toks)) ?_);rw[preSum_getD,KL (by rw[G];simp)];exact h
theorem NE{l:et}{X:List Int}{Q:ed->AH->Prop}(B:c.b.handled=eh)(C:H l=d9 (.a (X.map vi)))(i:0<X.length)(h:∀M,M∈X->(∀a∈X,a≤M)->Q (vi M) H):
  TC c (iP "max") [ec l] V H Q:=λE s f S g=>by
 (refine nK g λx Z m=>?_;(clear g;obtain rfl:=Z))
 obtain rfl:=gX m;refine S.b.e C λF o L T=>?_;have D:=Ht T;refine fL D.allInts.items λz e=>?_;have e:F=intItems z:=by simpa using e
 have p:X=z.toList.map (·.1):=by
  rw(occs:=eO) [←D.numsOf,←nums_intItems,←e]
 have r:0<z.size:=by
  have W:=i;rw[p,fC,tm] at W;exact W
 refine max_intList (xs:=z) B (e▸iU L) r λv u k N d=>?_
 (refine fL (intItems_at N) λt n=>?_;(clear N;obtain rfl:=n))
 refine fe (argBest_gt (numAt z) (z.size-1)) λK I=>?_;refine(ey H (S.k d) (h _ ?_ λa b=>?_))
 ·rw[p,numAt_eq];exact getD_mem (by rw[fC,tm];omega)
 ·rw[p] at b
  (refine eR (mem_getD b) λj J Y=>?_;(clear b;obtain rfl:=Y))
  rw[fC,tm] at J;rw(occs:=eO) [←numAt_eq];exact I j (by omega)
theorem NK{l:et}{J:List ed}{Q:ed->AH->Prop}(C:H l=d9 (.a J))(P:J.length≤100000)(h:∀D,H D=eh->Q (ec D) (eQ H D (.f J))):
  TC c (eK "tuple") [ec l] V H Q:=λE s f S g=>by
 (refine nK g λx m Z=>?_;(clear g;obtain rfl:=m))
 obtain rfl:=gX Z;refine S.b.e C λF n L T=>?_;refine call_tuple_list (iU L) (λu z=>?_) (qq T P);have R:St c V H { s with heap:=u }:=S.k z (k:=s.toks);refine R.i (d:=u.objs.size) (X:=.f J) (u:=u.push { cls:=eK "tuple",data:=kR F }) (k:=s.toks) (kA (ig _))
  (λb o e=>hY _ e) (jf _ rfl) (ib F 0 rfl T) λW q=>?_
 exact(ey _ q (h _ W))
theorem NC{l:et}{J:List ed}{Q:ed->AH->Prop}(C:H l=d9 (.a J))(P:J.length≤100000)(h:∀D,H D=eh->Q (ec D) (eQ H D (.a J))):
  TC c (eK "list") [ec l] V H Q:=λE s d S g=>by
 (refine nK g λx f Z=>?_;(clear g;obtain rfl:=f))
 obtain rfl:=gX Z;refine S.b.e C λF n L T=>?_;refine call_list_seq l (eH rfl) L rfl rfl (λu b z a=>?_) (qq T P);refine S.i (d:=s.heap.objs.size) (X:=.a J) (u:=u) (k:=s.toks) (kA (ig _)) z a (ib F b rfl T) λW q=>?_;exact(ey _ q (h _ W))
theorem NI{l:et}{X:List Int}{Q:ed->AH->Prop}(C:H l=d9 (.a (X.map vi)))(P:X.length<64)(h:∀(D:et) (j:List Int),j.Perm X->j.Pairwise (·≤·)->H D=eh->Q (ec D) (eQ H D (.a (j.map vi)))):
  TC c (iP "sorted") [ec l] V H Q:=λE s f S g=>by
 (refine nK g λx U Z=>?_;(clear g;obtain rfl:=U))
 obtain rfl:=gX Z;refine S.b.e C λF d L T=>?_;have r:=kg T;rw[fC] at r;refine sorted_ints (vs:=F.toList) (ns:=X) (by simpa using iU L) (Ht T) (by simpa [r] using P) λY j K I W=>?_;refine fL (sortedAll_at s.heap F.toList Y) λe n=>?_;refine S.i (d:=s.heap.objs.size+1) (X:=.a (j.map vi)) (u:=sortedAll s.heap F.toList Y) (k:=s.toks) (kA (xH _)) (λb o e=>sortedAll_old e) n (ib Y e rfl (zk K)) λa q=>?_;exact(ey _ q (h _ j I W a))
theorem NH{d:et}{G:List (Int×ed)}{Q:ed->AH->Prop}(B:c.b.handled=eh)(m:H d=d9 (.e G))(U:(d==mO)=em)(P:G.length<64)
  (h:∀(D:et) (j:List Int),j.Perm (G.map (·.1))->j.Pairwise (·≤·)->H D=eh->Q (ec D) (eQ H D (.a (j.map vi)))):
  TC c (iP "sorted") [ec d] V H Q:=λE s ws S g=>by
 (refine nK g λx F Z=>?_;(clear g;obtain rfl:=F))
 obtain rfl:=gX Z;refine S.b.g m λa L T=>?_;refine fL L.dictAt λA t=>?_;have p:a.length=G.length:=by rw[←T];simp
 have J:a.map (·.1)=G.map (·.1):=by rw[←T];simp
 refine call_function_entry kind_sorted plain_sorted entry_sorted (args_sorted1 _) ?_;unfold Builtin.«sorted»;refine fv (m:=checkCount "sorted" 1 1 _) (iA ?_);refine fv (kdu_collect (A:=c.b.in1) (kdl_dict (knd:=pT c.l c.k) (kvs:=a) (ep:=A) U) B t (by rw[p,nC];lia) λu k z w r=>?_);have C:z.toList.length=a.length:=by rw[tm];exact r.1
 refine fv (wpAny_newList ?_ (by rw[C,p,nC];lia));have O:Eb z.toList (a.map (·.1)):=by
  refine zh ?_;refine List.ext_getElem? λi=>?_;rw[lF,lF,lF];by_cases v:i<a.length
  ·have M:i<z.size:=by rw[←tm,C];exact v
   refine iH (r.2 i z[i] (DC M)) λaa x K I=>?_;rw[DD,DC M,K];refine fL (XF I) λac X=>?_;rw[X];rfl
  ·rw[DQ (by rw[C];lia),DQ (by lia)];rfl
 have y:(u.push { cls:=eK "list",data:=kR z.toList.toArray }).get? u.objs.size=d9 (seqObj "list" z.toList.toArray 0):=jf _ rfl;refine fv (rR (EJ slot_list_sort (ey _ y rfl) entry_list_sort (list_sort_tree y O (by rw[C,p];exact P) λY j f l N=>(ey _ rfl (iA (ey _ rfl ?_)))) (args_list_sort _)));have R:St c V H { s with heap:=u,toks:=k }:=S.k w;refine fL (sortedHeap_at (out:=Y) y) λe n=>?_;refine R.i (d:=u.objs.size) (X:=.a (j.map vi)) (u:=sortedHeap (u.push { cls:=eK "list",data:=kR z.toList.toArray }) u.objs.size z.toList Y) (k:=k) (kA (ig _))
  (λb o e=>by rw[sortedHeap_old (rJ (l9 e)) (by rw[tz];exact W8 (l9 e))];exact hY _ e) n (ib Y e rfl (zk f)) λW q=>?_
 exact(ey _ q (h _ j (J▸l) N W))
theorem CJ{L j:Type}(f:L->j):∀(l:List L) (i:Nat),(l.eraseIdx i).map f=(l.map f).eraseIdx i
 |[],_=>rfl
 |_::_,0=>rfl
 |a::l,i+1=>by simp only[List.eraseIdx_cons_succ,gj,CJ f l i]
theorem GS{F:Array ed}{X:List Int}(h:F.toList.map nv=X.map vi)(k:Int)(t:Tok):∀y,y∈F->MeetsSeq.EqGives y (ej k t) (eU (nv y=vi k)):=λy B=>by
 refine fL (D5.mp (Array.mem_toList_iff.mpr B)) λi D=>?_
 (refine fL (Cn h (by rw[←DD];exact D)) λu e=>?_;(clear B D;obtain rfl:=e))
 have:(eU (nv (ej (X.getD i 0) u)=vi k))=(X.getD i 0==k):=by
  rw(occs:=eO) [AA];simp[nv,vi]
 rw[this];exact Yl _ _ _ _
theorem FU{F:Array ed}{X:List Int}(h:F.toList.map nv=X.map vi){i:Nat}(D:i<F.size):nv F[i]=vi (X.getD i 0):=by
 refine fL (Cn h (DC D)) λt z=>?_;rw[z];rfl
theorem Hi{F:Array ed}{X:List Int}{k:Int}(h:F.toList.map nv=X.map vi)(z:k∈X):∃J:X.idxOf k<F.size,eU (nv F[X.idxOf k]=vi k)=eb∧∀m (Y:m<F.size),m<X.idxOf k->eU (nv F[m]=vi k)=false:=by
 have S:F.size=X.length:=by have:=kg h;simpa using this
 have J:X.idxOf k<F.size:=by rw[S];exact List.idxOf_lt_length_of_mem z
 refine(ey J ?_ (λm Y y=>?_))
 ·rw[FU h J,lE,jF (by rw[←S];exact J)]
  simp
 ·rw(occs:=eO) [FU h Y,decide_eq_false_iff_not]
  intro e;have e:X.getD m 0=k:=by simpa [vi] using e
  rw[lE,jF (by rw[←S];exact Y)] at e;have q:=List.not_of_lt_findIdx y;rw[beq_eq_false_iff_ne] at q;exact q e
theorem Nz{l:et}{X:List Int}{k:Int}{Q:ed->AH->Prop}(C:H l=d9 (.a (X.map vi)))(z:k∈X)(P:X.length≤100000)(h:Q (vi (X.idxOf k:Nat)) H):
  TC c (iP "list.index") [ec l,vi k] V H Q:=by
 refine ve Xr F.entry_list_index λs x f S Z g=>?_;obtain rfl:=gX Z
 (refine nK g λy q B=>?_;(clear g;obtain rfl:=q))
 (refine ik B λt O=>?_;(clear B;obtain rfl:=O))
 refine S.b.e C λa n L T=>?_;refine eR (Hi T z) λJ K I=>?_;have R:a.size=X.length:=by have:=kg T;simpa using this
 exact⟨(iU L).typeIs,F.args_list_index_2 _ _,_,MeetsSeq.list_index l a n (ej k t) (λy=>eU (nv y=vi k)) (GS T k t) (X.idxOf k) J (by lia) K I,λA E=>⟨L,H,S.g _,h⟩⟩
theorem NG{l:et}{X:List Int}{k:Int}{Q:ed->AH->Prop}(C:H l=d9 (.a (X.map vi)))(z:k∈X)(P:X.length≤100000)(h:Q ez (eQ H l (.a ((X.eraseIdx (X.idxOf k)).map vi)))):
  TC c (iP "list.remove") [ec l,vi k] V H Q:=by
 refine ve Xv F.entry_list_remove λs x f S Z g=>?_;obtain rfl:=gX Z
 (refine nK g λy j B=>?_;(clear g;obtain rfl:=j))
 (refine ik B λt Y=>?_;(clear B;obtain rfl:=Y))
 refine S.b.e C λa n L T=>?_;refine eR (Hi T z) λJ K I=>?_;have R:a.size=X.length:=by have:=kg T;simpa using this
 refine⟨(iU L).typeIs,F.args_list_remove_2 _ _,_,MeetsSeq.list_remove l a n (ej k t) (λy=>eU (nv y=vi k)) (GS T k t) (X.idxOf k) J K I (qq T (by simpa using P)),λA E=>⟨L,_,S.t C L ?_,h⟩⟩;rw(occs:=eO) [Wc,dif_pos J,Wf,CJ,CJ,T]
theorem E8{T id:String}{D:ft}{b:Builtin}{x:ed}{w:List ed}{Q:ed->AH->Prop}(m:Slot T D id)(j:entryFor table id=d9 b)
  (h:∀s v J,St c V H s->nv v=x->J.map nv=w->s.TypeIs v T∧argsOk id ⟨v::J,[]⟩ ∧∃S:XE,MeetsIn c.l c.k (b ⟨v::J,[]⟩) S∧
   ∀A E,S A (wants (λr P=>∃M,St c V M P∧Q (nv r) M) E) s):TC c (iP id) (x::w) V H Q:=λE s J a k=>by
 cases J with
 |nil=>exact nL k
 |cons v J=>
  rw[gj,uG] at k
  (refine gY (h s v J a k.1 k.2) λK I Z=>?_;refine eR Z λS W O=>?_)
  refine yb (Lf m.plain j (m.check _ _ _ _ _ _ _ _ K I ?_));exact W c.b _ s (O c.b E)
theorem Vl{a:List (Int×ed)}{G:List (Int×ed)}(h:a.map (λp=>(p.1,nv p.2))=G)(k:Int)(d:ed):nv ((ya a k).getD d)=(G.lookup k).getD (nv d):=by
 subst h
 induction a with
 |nil=>rfl
 |cons p r D=>
  rw[gj,iw];unfold ya at D ⊢;by_cases J:p.1=k
  ·rw[DO (by simpa using J)]
   clear D;rw[J];simp
  ·rw[DN (by simpa using J)]
   have:(k==p.1)=false:=by rw(occs:=eO) [beq_eq_false_iff_ne];exactλe=>J e.symm
   rw[this];exact D
theorem Nw{d:et}{G:List (Int×ed)}{k:Int}{u:ed}{Q:ed->AH->Prop}(D:H d=d9 (.e G))(U:(d==mO)=em)(h:Q ((G.lookup k).getD u) H):
  TC c (iP "dict.get") [ec d,vi k,u] V H Q:=by
 refine E8 Xn F.entry_dict_get λs x f S Z g=>?_;obtain rfl:=gX Z
 (refine fT (BS g) λy z o B R=>?_;(clear g;obtain rfl:=o);obtain rfl:=R)
 (refine ik B λt Y=>?_;(clear B;obtain rfl:=Y))
 refine S.b.g D λa L T=>?_;refine⟨L.typeIs,F.args_dict_get_3 _ _ _,_,meets_dict_get_default (knd:=pT c.l c.k) d (hkey:=tJ _ _ k t) U z,λA E=>(ey _ L.mapOf (ey H (S.g _) ?_))⟩;rw[Vl T];exact h
noncomputable def wT(G:List (Int×ed))(k:Int):List (Int×ed):=G.filter λp=>eU (p.1≠k)
theorem Nx{d:et}{G:List (Int×ed)}{k:Int}{u:ed}{Q:ed->AH->Prop}(D:H d=d9 (.e G))(b:G.lookup k=d9 u)(P:G.length≤100000)(h:Q u (eQ H d (.e (wT G k)))):
  TC c (iP "dict.pop") [ec d,vi k] V H Q:=by
 refine E8 Xo F.entry_dict_pop λs x f S Z g=>?_;obtain rfl:=gX Z
 (refine nK g λl z B=>?_;(clear g;obtain rfl:=z))
 (refine ik B λt K=>?_;(clear B;obtain rfl:=K))
 refine S.b.g D λa L T=>?_;refine eR (Du T b) λv W e=>?_;have p:a.length=G.length:=by rw[←T];simp
 refine⟨L.typeIs,F.args_dict_pop_2 _ _,_,meets_dict_pop_there (knd:=pT c.l c.k) d (hkey:=tJ _ _ k t) [] (eH rfl) rfl,λA E=>(kM a v L (by clear W;rw[p,nC];lia) W (λi Y j=>?_))⟩;refine eR (tx.mp Y) λo y O=>?_;refine(ey _ (S.p (X:=.e (wT G k)) D j y (ey _ O ?_)) (by rw[e];exact h));unfold without wT;rw[←T,Kx];rfl
theorem I1{s P:eZ}{w B:eP}{l:et}{J:List ed}{Z j C:ed}{Y D u:Option Int}{R:List ed}{Q:ed->AH->Prop}{E:ed->eZ->Prop}
  {F:Array ed} (S:St c V H s) (L:s.heap.IsList l F) (T:F.toList.map nv=J) (g:J.length≤100000) (K:IsPart Z Y) (y:IsPart j D) (O:IsPart C u) (d:u≠d9 0) {A:List ed} (n:∀F:Array ed,F.toList.map nv=J->(Ll F Y D u).toList.map nv=A)
  (I:subscripted B em (ec l) (ec s.heap.objs.size)=operate R (getItem (ec l) (ec s.heap.objs.size))) (h:∀a,H a=eh->Q (ec a) (eQ H a (.a A))):
  fi c.g c.b (subscriptTail w B (ec l) (ec s.heap.objs.size)) (λr P=>∃M,St c V M P∧Q (nv r) M) E { s with heap:=s.heap.push { cls:=eK "slice",data:=fB #[Z,j,C] } }:=by
 have f:St c V H { s with heap:=s.heap.push { cls:=eK "slice",data:=fB #[Z,j,C] } }:=S.k (λb o e=>hY _ e) (k:=s.toks);refine xI (L.push _).typeIs Lm.lookup (wpAny_getItem_list_slice (L.push _) (Yk ..) K y O d ?_ (qq T g)) I;obtain⟨W,q⟩ :=f.r (d:=(s.heap.push { cls:=eK "slice",data:=fB #[Z,j,C] }).objs.size) (X:=.a A) (u:=(s.heap.push { cls:=eK "slice",data:=fB #[Z,j,C] }).push { cls:=eK "list",data:=kR (Ll F Y D u) }) (k:=s.toks) (kA (ig _))
  (λb o e=>hY _ e) (jf _ rfl) (ib (Ll F Y D u) 0 rfl (n F T))
 exact(ey _ q (h _ W))
theorem Oc{w u:eP}{p d:fE}{Q:ed->AH->Prop}
  (h:TE c w V H (λv Z=>∃l,v=ec l∧TE c u V Z (λk T=>k=vi (-1)∧∃J,T l=d9 (.a J)∧J.length≤100000∧∀D,T D=eh->Q (ec D) (eQ T D (.a J.reverse))))):
  TE c (pN w (xN eh eh (d9 u) p) d) V H Q:=λE s S=>by
 refine KS (fc (h E s S) (λv g G=>?_) λU U x=>x);obtain⟨Z,m,l,N,G⟩ :=G;obtain rfl:=gX N;refine wpAny_Slice (iA (iA (fc (G E g m) (λk f G=>?_) λU U x=>x)));obtain⟨T,r,z,J,C,P,G⟩ :=G;obtain⟨t,rfl⟩ :=uo z;obtain⟨F,I,L,a⟩ :=r.b.i C;refine I1 (P:=f) r (iU L) a P .none .none (.int (-1) t) (by decide) (A:=J.reverse) (λF b=>?_) rfl G;rw[krv_pick,←b];simp
theorem Oj{a b:et}{J A:List ed}{Q:ed->AH->Prop}(M:H a=d9 (.a J))(j:H b=d9 (.a A))(P:J.length+A.length≤100000)(h:∀D,H D=eh->Q (ec D) (eQ H D (.a (J++A)))):
  nJ c io (ec a) (ec b) V H Q:=λE s v u S N g=>by
 obtain rfl:=gX N;obtain rfl:=gX g;refine S.b.e M λd n L T=>?_;refine S.b.e j λO f m R=>?_;have I:=kg T;have Y:=kg R;refine concat_meets (iU L).typeIs (iU m).typeIs noFill_list_add seq_list_add F.slot_list_add F.entry_list_add (F.args_list_add_2 _ _) (AutoSeq1.list___add___list_list_0 a d n b O f (by rw[I,Y,nC];lia)) ⟨L,m,?_⟩;refine S.i (d:=s.heap.objs.size) (X:=.a (J++A)) (u:=s.heap.push { cls:=eK "list",data:=kR (d++O) }) (k:=s.toks) (kA (ig _))
  (λb o e=>hY _ e) (jf _ rfl) (ib (d++O) 0 rfl (by rw[Km,lb,T,R])) λW q=>?_
 exact(ey _ q (h _ W))
theorem Te{x:ed}{n:Nat}:List.foldl (λr t=>r++t) #[] (iJ (if(#[x]:Array ed).isEmpty=eb then 0 else n) #[x])=(iJ n x).toArray:=by
 rw[listMul_foldl_if]
 congr 1
 induction n with
 |zero=>rfl
 |succ n D=>rw[KI,List.flatten_cons,D,KI];rfl
theorem Oo{a:et}{x:ed}{n:Int}{Q:ed->AH->Prop}(M:H a=d9 (.a [x]))(i:n≤100000)(G:-100000≤n)(h:∀D,H D=eh->Q (ec D) (eQ H D (.a (iJ n.toNat x)))):
  nJ c jb (ec a) (vi n) V H Q:=λE s v u S N g=>by
 obtain rfl:=gX N
 (refine ik g λt R=>?_;(clear g;obtain rfl:=R))
 refine S.b.e M λd k L T=>?_;have f:=L;clear f;obtain⟨y,rfl,B⟩ :∃y,d=#[y]∧nv y=x:=by
  refine nK T λy K I=>?_;exact(ey y (by rw[←Array.toArray_toList (xs:=d),K]) I)
 refine wpAny_binaryOp_repeat_ref (T:="list") (U:="int") (by decide) (ey _ L rfl) (λP=>typeIs_int P n t) noFill_list_mul F.fills_int_mul Xp repeat_list F.slot_int_index.lookup
  (call_meets Xp (typeIs_int s n t) F.entry_int_rmul (F.args_int_rmul_2 _ _) (int___rmul___int_list n t a #[y] k)
   ⟨L,rfl,(ey _ L rfl),call_meets F.slot_list_mul (ey _ L rfl) F.entry_list_mul (F.args_list_mul_2 _ _)
    (AutoListH.list___mul___list_int_3 a #[y] k n t (by simp[KU];lia) (by simp;lia) (by simp[KV,sizeLine];lia))
    ⟨L,?_⟩⟩)
 rw[Te];refine S.i (d:=s.heap.objs.size) (X:=.a (iJ n.toNat x)) (u:=s.heap.push { cls:=eK "list",data:=kR (iJ n.toNat y).toArray }) (k:=s.toks) (kA (ig _))
  (λb o e=>hY _ e) (jf _ rfl) (ib ((iJ n.toNat y).toArray) 0 rfl (by simp[B])) λW q=>?_
 exact(ey _ q (h _ W))
theorem St.J{s:eZ}{a:et}{v:Option ed}(S:St c V H s)(h:H a=d9 (.g v)):∃m,s.heap.IsCell a m∧m.map nv=v:=by
 refine Iu (S.b.f a _ h) λf K m I W=>?_;exact(ey m (ey f K I) W)
theorem Fh{x:String}{d:fE}{a:et}{v:ed}{Q:ed->AH->Prop}(O:c.d)(Z:c.a.kindOf (eE x)=d9 fK)(X:c.a.cells.lookup (eE x)=d9 a)(N:H a=d9 (.g (d9 v)))(h:Q v H)
  (D:(eE x==("__debug__":ft))=em):TE c (gk (eE x) d) V H Q:=λE s S=>by
 refine eR (S.J N) λb L T=>?_
 (refine wG T λu R e=>?_;(clear T;obtain rfl:=R);(clear N;obtain rfl:=e))
 exact wpAny_Name (wpAny_loadName_cell O.b Z X L (ey H S h)) D
theorem Fq{x:String}{a:et}{v:ed}{o:Option ed}{Q:eJ->AH->Prop}(O:c.d)(Z:c.a.kindOf (eE x)=d9 fK)(X:c.a.cells.lookup (eE x)=d9 a)(N:H a=d9 (.g o))(h:Q V (eQ H a (.g (d9 v)))):
  TN c x v V H Q:=λE s b S C=>by
 refine eR (S.J N) λg L T=>?_;refine wpAny_storeName_cell O.b Z X L λu D j=>?_;refine eR D λf d e=>?_;exact(ib V _ (S.p (X:=.g (d9 v)) (u:=u) (k:=s.toks) N j d (ey (d9 b) e (by rw[KR,C]))) h)
theorem RO{h:fH}{L:et}{m X:ft->Option ed}(a:h.Ns L m)(b:h.Ns L X):m=X:=by
 refine mZ a λo w A y D U l=>?_;refine mZ b λc j J u g U C=>?_;rw[y] at u
 (replace u:=eX u;subst u)
 rw[D] at g;clear U;cases g
 funext x
 rw(occs:=eO) [←l,←C]
theorem St.M{s:eZ}{u:fH}{e:Nat}(S:St c V H s)(k:∀m,Fr c.f c.h s.heap m->Fr c.f c.h u m)(z:∀U o,U≠c.h->s.heap.get? U=d9 o->u.get? U=d9 o):St c V H { s with heap:=u,toks:=e }:=by
 obtain⟨⟨m,F,Y⟩,R,P,B,N⟩ :=S;refine⟨(ey m (k m F) ?_),⟨λa x Z=>?_,R.b⟩,λa x Z=>⟨z a x (P a x Z).2.1 (P a x Z).1,(P a x Z).2⟩,B,N⟩
 ·cases i:c.i with
  |none=>rw[i] at Y;exact Y
  |some d=>
   rw[i] at Y
   (refine kD Y λK Q b E=>?_;refine gY E λW O J=>?_;refine oF b λo w A y r=>?_)
   exact⟨K,Q,(pi o w A (z _ _ O y) r),W,O,J⟩
 ·refine R.d a x Z λf L T=>?_
  exact(ey f (z a f (R.b a x Z).1 L) T)
theorem St.x{s:eZ}{a:et}{o:AO}{f:fM}(S:St c V H s)(M:s.heap.get? a=d9 f)(y:OR c.l c.k o f)(I:rW c H a):St c V (eQ H a o) s:=by
 obtain⟨⟨m,F,Y⟩,R,P,B,N⟩ :=S;refine⟨(ey m F ?_),⟨λb x Z=>?_,λb x Z=>?_⟩,λb x Z=>⟨(P b x Z).1,(P b x Z).2.1,(P b x Z).2.2.1,(P b x Z).2.2.2.1,?_⟩,B,N⟩
 ·cases i:c.i with
  |none=>rw[i] at Y;exact Y
  |some d=>
   rw[i] at Y
   (refine kD Y λg Q h K=>?_;refine i8 K λW O J U=>?_)
   exact⟨g,Q,h,W,O,J,(fw _ _ (gM I.e)).trans U⟩
 ·by_cases j:b=a
  ·clear I
   subst j;rw[gA] at Z;(replace Z:=eX Z;subst Z);exact(ey f M y)
  ·rw[fw _ _ j] at Z;exact R.f b x Z
 ·by_cases j:b=a
  ·clear M Z
   rw[j];exact⟨I.g,I.f⟩
  ·rw[fw _ _ j] at Z;exact R.b b x Z
 ·have C:b≠a:=λe=>I.b x (by rw[←e];exact Z)
  rw[fw _ _ C];exact(P b x Z).2.2.2.2
noncomputable def cA(c:Cx)(C:et)(i:List ed):Cx:={ c with b:=c.b.under (uP "type.__call__" ⟨ec C::i,[]⟩) }
theorem Cx.d.l(O:c.d){C:et}{i:List ed}:(cA c C i).d:=⟨O.g,O.a,O.d,O.e,O.f,O.h,O.b,O.i,O.j⟩
theorem St.C{s:eZ}{C:et}{i:List ed}(S:St c V H s):St (cA c C i) V H s:=⟨S.e,⟨S.b.f,S.b.b⟩,S.d,S.n,S.l⟩
theorem St.G{s:eZ}{C:et}{i:List ed}(S:St (cA c C i) V H s):St c V H s:=⟨S.e,⟨S.b.f,S.b.b⟩,S.d,S.n,S.l⟩
theorem E7{C W:et}{w:List ed}{Q:ed->AH->Prop}(O:c.d)(Y:makesIn c.e C=eb)(D:rL c.e (ec C) "__init__"=d9 (d9 (ec W)))(hf:typeIn c.e (ec W)=d9 (eK "function"))
  (h:∀x j i,H x=eh->H j=eh->x≠j->lM (cA c C i) (ec W) (ec x::w) V (eQ (eQ H j (.b [])) x (.h C j)) (λv M=>v=ez∧Q (ec x) M)):TC c (ec C) w V H Q:=λaa s J S k=>by
 have B:=S;obtain⟨⟨m,F,L⟩,_⟩ :=S;have N:=Ia (q:=c.f) (L:=c.h) (h:=s.heap);refine yb (make_K F N (O.a.keeps F.keep) Y D hf λx j u A g U y=>?_);have d:=g (x,_) (gL _);have G:=g (j,_) (gu _ (gL _));have z:∀b o,b≠c.h->s.heap.get? b=d9 o->u.get? b=d9 o:=λb o hb e=>by
  cases l:c.f.get? b with
  |none=>exact(g (b,o) (gu _ (gu _ (wH.mpr ⟨e,hb,l⟩)))).1
  |some o'=>
   have:=F.keep _ _ l;rw[e] at this
   (replace this:=eX this;rw[this])
   exact A.keep _ _ l
 have t:∀b,b≠c.h->c.f.get? b=eh->j≤b->s.heap.get? b=none:=λb K I h3=>by
  cases l:s.heap.get? b with
  |none=>rfl
  |some o=>exact absurd (U (b,o) (wH.mpr ⟨l,K,I⟩)) (KO.mpr h3)
 have q:=t x d.2.1 d.2.2 (Nat.le_of_lt y);have Z:=t j G.2.1 G.2.2 (ig _);have T:=B.h q;have od:=B.h Z;have f:St c V H { s with heap:=u,toks:=s.toks }:=B.M (λX P=>by
  clear L;obtain rfl:X=m:=RO P.ns F.ns;exact A) z
 have n:=f.x (o:=.b []) G.1 (ib ([]) 0 rfl rfl) od;have p:x≠j:=uL y;have a:=n.x (o:=.h C j) d.1 rfl ⟨T.g,T.e,T.f,(fw _ _ p).trans T.d,T.b⟩;refine codeAny_mono (h x j J T.d od.d p aa { s with heap:=u,toks:=s.toks } (ec x::J) a.C (by rw[gj,k];rfl)) λr s' E=>?_;cases r with
 |error e=>exact E
 |ok fl=>
  cases fl with
  |ret v=>
   refine f5 E λM R hv hq=>?_;exact⟨wK hv,M,R.G,hq⟩
  |next=>exact E.elim
  |brk=>exact E.elim
  |cont=>exact E.elim
def Z2(e:et)(h:fH):Prop:=∃o J,h.get? e=d9 o∧o.data=fB J∧J[2]? =d9 ez
section
variable{M:Model}{A:j0}{E:ed->eZ->Prop}{s:eZ}
theorem GQ{R:fH}{B:iN}{i:List iN}{L e:et}{p:fM}{J:Array ed}{Z w:ed}{t:Bool}{Q:Unit->eZ->Prop}
  (O:A.frames=d9 (B::i)) (C:s.heap.FunFrames R (B::i)) (l:B.frame=d9 L)
  (n:s.heap.get? e=d9 p) (F:R.StaysIn s.heap) (f:R.get? e=eh) (D:p.data=fB J) (r:1<J.size) (d:J[0]? =d9 w) (I:J[2]? =d9 ez)
  (h:∀u,K2 R (B::i) e p.cls w (kT L) s.heap u->Z2 e u->Q () { s with heap:=u }):
  fi M A (do let a←frameOf B;let K←entryPlaceOf L t;let b←Xl Z a ez (kT L) ez K;setField (ec e) 1 b) Q E s:=by
 have U:e∉(B::i).filterMap (·.frame):=λY=>by
  refine kD (C.mem Y) λae o y G=>?_;rw[n] at y;(replace y:=eX y;subst y);exact G J D
 refine fv (wpAny_frameOf_fun O C l λX m=>fv (wpAny_entryPlaceOf λK W=>?_));unfold Xl newFields;refine fv (A9 ?_ (W.sizeOk5 _ _ _ _ _));have T:X.get? e=d9 p:=(m.2.1 e U).trans n;have g:R.StaysIn X:=λb o N=>(m.2.1 b λY=>by rw[(C.mem Y).1] at N;exact nS N).trans (F b o N);have V:X.objs.size≠e:=uL (ty T);generalize hT:({ cls:=eK "traceback",dict:=eh,data:=fB ([Z,ec L,ez,kT L,ez]++(if K.isEmpty then iJ 6 ez else K)).toArray }:fM)=c;have v:(X.push c).get? e=d9 p:=hY _ T;have aa:(X.push c).get? X.objs.size=d9 c:=jf _ (by rw[←hT];rfl);have z:=K5 D (·.setIfInBounds 1 (ec X.objs.size));have P:=xR (uT (·.setIfInBounds 1 (ec X.objs.size))) v (XD z);have k:∀b o,b≠e->X.get? b=d9 o->((X.push c).update e (uT (·.setIfInBounds 1 (ec X.objs.size)))).get? b=d9 o:=
  λb o ac j=>(xQ _ _ (gM ac)).trans (hY _ j)
 have H:∀b o,s.heap.get? b=d9 o->(∀J,o.data≠fB J)->b≠e:=λb o j G q=>by
  rw[q,n] at j;(replace j:=eX j;subst j);exact G J D
 refine EM v D r (h _ ⟨λb o N=>k b o (λq=>by rw[q,f] at N;exact nS N) (g b o N),C.of_keeps λb o j G=>?_,?_,λb o j G=>?_⟩ ?_)
 ·refine fL (m.2.2 b o j) λx S=>?_
  exact(ey _ (k b _ (H b o j G) S) rfl)
 ·refine⟨_,_,X.objs.size,c,(([Z,ec L,ez,kT L,ez]++(if K.isEmpty then iJ 6 ez else K)).toArray),P,⟨Obj.cls_mapFields _ _,by rw[We (by decide)];exact d⟩,z,(by simp[r]),g.fresh,V,((xQ _ _ (gM V)).trans aa),(by rw[←hT]),?_⟩
  first|(simp;done)|(rcases W with rfl|⟨_,_,_,_,_,_,_,rfl⟩ <;>simp)
 ·refine fL (m.2.2 b o j) λx S=>?_
  exact⟨x,k b _ (H b o j G) S⟩
 ·exact(fS _ _ P z (by rw[We (by decide)];exact I))
theorem RJ{R:fH}{B:iN}{i:List iN}{L e:et}{p:fM}{J:Array ed}{w:ed}{Q:Unit->eZ->Prop}
  (O:A.frames=d9 (B::i)) (C:s.heap.FunFrames R (B::i)) (l:B.frame=d9 L)
  (n:s.heap.get? e=d9 p) (F:R.StaysIn s.heap) (f:R.get? e=eh) (D:p.data=fB J) (K:J[1]? =d9 ez) (d:J[0]? =d9 w) (I:J[2]? =d9 ez)
  (h:∀u,K2 R (B::i) e p.cls w (kT L) s.heap u->Z2 e u->Q () { s with heap:=u }):fi M A (tK (ec e) B) Q E s:=by
 unfold tK;simp only[l];refine fv (pU n D K ?_);rw[if_neg (by decide)];exact GQ O C l n F f D (Az.mp K).1 d I h
theorem Ik{R:fH}{B:iN}{i:List iN}{L e:et}{S w:ed}{Q:Unit->eZ->Prop}
  (O:A.frames=d9 (B::i)) (C:s.heap.FunFrames R (B::i)) (l:B.frame=d9 L) (z:s.heap.TracedW R e S w) (P:Z2 e s.heap) (F:R.StaysIn s.heap) (f:R.get? e=eh)
  (h:∀u,K2 R (B::i) e S w (kT L) s.heap u->Z2 e u->Q () { s with heap:=u }):fi M A (tK (ec e) B) Q E s:=by
 (refine ut z λp J T c a n g1 D g2=>?_;refine zJ g2 λK k V m U W=>?_;refine fe g1 λx d=>?_)
 refine fT P λac X Z g I=>?_;rw[n] at Z;(replace Z:=eX Z;subst Z);rw[D] at g;cases g;clear z g1;subst x;unfold tK;simp only[l];refine fv (pU n D K ?_);rw[if_pos (show(ec T !=ez)=eb from by simp)];refine fv (pU m U W ?_);rw[if_neg (show¬((ez==kT L)=eb) from by simp[kT])];refine fv (EM m U (Az.mp W).1 ?_);have y:∀b,b≠T->(s.heap.update T (uT (·.setIfInBounds 3 ez))).get? b=s.heap.get? b:=λb j=>xQ _ _ (gM j);have H:∀b o,s.heap.get? b=d9 o->(∀J,o.data≠fB J)->b≠T:=λb o j G q=>by
  rw[q,m] at j;(replace j:=eX j;subst j);exact G a U
 exact GQ O (C.of_keeps λb o j G=>(ey o ((y b (H b o j G)).trans j) rfl)) l ((y e (gM V)).trans n)
  (λb o N=>(y b λq=>by rw[q,k] at N;exact nS N).trans (F b o N)) f D (Az.mp K).1 d I
  λu Y aa=>i8 Y λr t v x4=>h u ⟨r,t,v,λb o j G=>x4 b o ((y b (H b o j G)).trans j) G⟩ aa
theorem y6{R:fH}{l:List iN}{e:et}{S w d:ed}{Q:Unit->eZ->Prop}
  (F:R.StaysIn s.heap) (C:s.heap.FunFrames R l) (z:s.heap.TracedAtW R e S w d) (P:Z2 e s.heap)
  (h:∀u,R.StaysIn u->u.FunFrames R l->u.TracedW R e S w->s.heap.UpToSlots u->Z2 e u->Q () { s with heap:=u }):
  fi M A (Lk (ec e) eh) Q E s:=by
 (refine ut z λp J T c a n x D i=>?_;refine zJ i λK k V m U W=>?_)
 refine fT P λL X Z g I=>?_;rw[n] at Z;(replace Z:=eX Z;subst Z);rw[D] at g;cases g;have B:3<a.size:=(Az.mp W).1;have y:∀b,b≠T->(s.heap.update T (uT (·.setIfInBounds 3 ((eh:Option et).elim ez λf=>kT f)))).get? b=s.heap.get? b:=
  λb j=>xQ _ _ (gM j)
 have H:∀b o,s.heap.get? b=d9 o->(∀J,o.data≠fB J)->b≠T:=λb o j G q=>by
  rw[q,m] at j;(replace j:=eX j;subst j);exact G a U
 unfold Lk;refine fv (pU n D K ?_);rw[if_pos (show(ec T !=ez)=eb from by simp)];refine EM m U B (h _ (λb o N=>(y b λq=>by rw[q,k] at N;exact nS N).trans (F b o N))
  (C.of_keeps λb o j G=>(ey o ((y b (H b o j G)).trans j) rfl)) ?_ (λb o j G=>⟨o.slots,(y b (H b o j G)).trans j⟩) (fS p J ((y e (gM V)).trans n) D I))
 exact⟨p,J,T,_,_,((y e (gM V)).trans n),x,D,K,k,V,(xR _ m (XD (K5 U _))),(K5 U _),(by simp[B])⟩
end
noncomputable def fs(c:Cx):List Addr:=(c.n::c.o).filterMap (·.frame)
noncomputable def fo(c:Cx):List Addr:=c.o.filterMap (·.frame)
theorem ru(O:c.d){b:et}(h:b∈fs c):b=c.h∨b∈fo c:=by
 unfold fs at h;rw[DL,O.f] at h;exact gy.mp h
theorem y7(O:c.d){b:et}(h:b∈fo c):c.m.get? b=eh∧∃o,c.f.get? b=d9 o∧∀J,o.data≠fB J:=O.g.frames.mem h
theorem y8(O:c.d){b:et}(h:b∈fo c){G:Prop}(N:c.m.get? b=eh->∀o,c.f.get? b=d9 o->(∀J,o.data≠fB J)->G):G:=kD (y7 O h) N
structure mw(c:Cx)(ρ:eJ)(H:AH)(e C:et)(s:eZ):Prop where
 j:∃G B m a0,Fr c.f c.h G m∧(c.a.locals=c.h∧j6 ρ m)∧(∀b o,G.get? b=d9 o->b∉fs c->B.get? b=d9 o)∧
  (∀a o,H a=d9 o->(∃ro,B.get? a=d9 ro∧OR c.l c.k o ro)∧a≠c.h∧c.f.get? a=eh)∧
  (∀a o,c.j a o->B.get? a=d9 o∧a≠c.h∧a≠c.a.locals∧c.f.get? a=eh∧H a=eh)∧
  Eh B (c.n::c.o) e (ec C) a0 s.heap∧G.UpToSlots s.heap∧c.m.StaysIn B
 g:s.gens=#[]
 h:s.os=c.u
 i:Z2 e s.heap
abbrev jt(H:AH)(s:eZ):Heap:=lr s.heap ((ke H s.heap).map (·.1))
theorem Hf{s:eZ}{H:AH}{b:et}{o:fM}(h:s.heap.get? b=d9 o)(z:H b=eh):(jt H s).get? b=d9 o:=A2 _ h λq=>by
 refine fP q λp J n=>?_;have:=(s9.mp J).1;rw[n,z] at this;exact nB this
theorem EW{x:eJ}{v:AH}{Q:eZ}{L:et}{E:iN}{e C:et}{w:ed}{s:eZ}{B:fH}(O:c.d)(k:c.i=eh)(V:St c x v Q)
  (i:∀b o,(jt v Q).get? b=d9 o->b∉fs c->B.get? b=d9 o) (z:∀a o,H a=d9 o->(∃f,B.get? a=d9 f∧OR c.l c.k o f)∧(jt v Q).get? a=eh)
  (W:Eh B (c.n::c.o) e (ec C) w s.heap) (I:(jt v Q).UpToSlots s.heap) (J:c.m.StaysIn B) (l:s.gens=#[]) (y:s.os=c.u) (d:Z2 e s.heap):mw c x H e C s:=by
 obtain⟨⟨m,F,Y⟩,R,P,aa,N⟩ :=V;rw[k] at Y;obtain⟨Z,T,u,-⟩ :=groundX (R:=λU U=>True) O.g F R.l O.e O.f O.h;have S:(jt v Q).get? c.h≠none:=λq=>by
  refine oF Z.ns λo es A K U=>?_;rw[K] at q;exact iX q
 have r:∀a,(jt v Q).get? a=eh->a≠c.h∧c.f.get? a=none:=λa M=>by
  refine⟨λq=>S (q▸M),?_⟩;cases G:c.f.get? a with
  |none=>rfl
  |some o=>have:=u a o G;rw[M] at this;exact nS this
 refine⟨(wh (jt v Q) B m w Z Y i (λa o h=>⟨(z a o h).1,r a (z a o h).2⟩) ⟨(λa o h=>?_),W,I,J⟩),l,y,d⟩;refine mf (P a o h) λD g p n t=>?_;have j:=Hf D t;refine⟨i a o j λq=>?_,g,p,n,?_⟩
 ·rcases ru O q with q|q
  ·exact g q
  ·refine y8 O q λU X K U=>?_
   rw[n] at K;exact nS K
 ·cases G:H a with
  |none=>rfl
  |some X=>have:=(z a X G).2;rw[j] at this;exact iX this
theorem LO{x:eJ}{v:AH}{Q:eZ}{L:et}{B:iN}{e C:et}{s:eZ}{E:ed->eZ->Prop}(O:c.d)(i:c.i=eh)(aa:St c x v Q)
  (m:(iM c (jt v Q) L B).d) (T:(jt v Q).get? L=eh) (F:mw (iM c (jt v Q) L B) V H e C s):fi c.g (c.b.deeper B) (EB B (ec e)) (λU P=>mw c x H e C P) E s:=by
 obtain⟨⟨G',Y,m',l,A,_,p,y,_,⟨n,w,S,R⟩,I,J⟩,D,N,d⟩ :=F;unfold EB;refine fv (Ik m.e S m.f R d n w λac q2 z=>i8 q2 λM f G Z=>y6 M f G z λu y1 g X k K=>?_);have r:Eh Y (c.n::c.o) e (ec C) l u:=⟨y1,w,g.2.2,X⟩;have t:s.heap.UpToSlots u:=XA Z k;refine EW O i aa (L:=L) (E:=B) (λb o j W=>p b o (A.keep b o j) λq=>?_) (λa o h=>⟨(y a o h).1,(y a o h).2.2⟩) r ((Xz A.keep).trans (I.trans t)) J D N K;rcases ru m q with q|q
 ·have q:b=L:=q
  rw[q,T] at j;exact nS j
 ·exact W q
theorem LN{x:eJ}{v:AH}{Q:eZ}{L:et}{B:iN}{e C:et}{s:eZ}{p:fM}{J:Array ed}{w:ed}{E:ed->eZ->Prop}(O:c.d)(i:c.i=eh)(ag:St c x v Q)
  (m:(iM c (jt v Q) L B).d) (T:(jt v Q).get? L=eh) (S:St (iM c (jt v Q) L B) V H s) (n:H e=d9 (.c p)) (X:p.cls=ec C) (D:p.data=fB J) (K:J[1]? =d9 ez) (h0:J[0]? =d9 w) (I:J[2]? =d9 ez):
  fi c.g (c.b.deeper B) (EB B (ec e)) (λU P=>mw c x (pg H e) e C P) E s:=by
 obtain⟨⟨av,F,hm⟩,R,hz,ae,N⟩ :=S
 (refine R.d e _ n λro aa d=>?_;obtain rfl:=d)
 have ac:=(pushX m.g F m.f m.h).frames;have af:∀t∈(B::c.n::c.o),∀b,t.frame=d9 b->b∈e::fs (iM c (jt v Q) L B):=λt n b j=>gC _ (D4.mpr (ey t n j));have y:∀a o,H a=d9 o->a∉fs (iM c (jt v Q) L B):=λa o M q=>by
  rcases ru m q with q|q
  ·exact(R.b a o M).1 q
  ·refine y8 m q λU o' K U=>?_
   rw[(R.b a o M).2] at K;exact nS K
 have aq:c.m.StaysIn (lr s.heap (e::fs (iM c (jt v Q) L B))):=λb o q=>by
  have l:(jt v Q).get? b=d9 o:=m.g.stays b o q;refine A2 _ (F.keep b o l) λA=>?_;rcases gy.mp A with z|z
  ·have:=(R.b e _ n).2
   rw[←z] at this;have this:(jt v Q).get? b=none:=this;rw[l] at this;exact iX this
  ·rcases ru m z with z|z
   ·have z:b=L:=z
    rw[z,T] at l;exact nS l
   ·have:=(y7 m z).1
    have this:c.m.get? b=none:=this;rw[q] at this;exact iX this
 unfold EB;refine fv (RJ m.e (funFrames_hide ac af) m.f aa (λb o q=>A5 _ q) (A3 _ (gL _)) D K h0 I λau k z=>i8 k λn1 f G Z=>y6 n1 f G z λu l1 g r y4 aj=>?_);have l2:=g.2.2;have l4:s.heap.UpToSlots u:=XA Z y4;refine EW O i ag (L:=L) (E:=B) (λb o j W=>A2 _ (F.keep b o j) λq=>?_) (λa o h=>?_) ⟨l1,A3 _ (gL _),l2,X▸r⟩ ((Xz F.keep).trans l4) aq ae N aj
 ·rcases gy.mp q with z|z
  ·have:=(R.b e _ n).2
   rw[←z] at this;have this:(jt v Q).get? b=none:=this;rw[j] at this;exact iX this
  ·rcases ru m z with z|z
   ·have z:b=L:=z
    rw[z,T] at j;exact nS j
   ·exact W z
 ·unfold pg at h
  split at h
  ·exact nS h
  ·rename_i Y
   refine R.d a o h λak r1 r2=>?_;refine⟨(ey ak (A2 _ r1 λq=>?_) r2),(R.b a o h).2⟩;rcases gy.mp q with z|z
   ·exact Y z
   ·exact y a o h z
theorem mw.d{e C:et}{s:eZ}(O:c.d)(v:c.i=eh)(d:c.e.In c.m)(L:rK c.p (rM c.p []) c.r c.s c.m)(F:mw c V H e C s):
  ∃r,uX (fo c) c.f r∧({ c with f:=r }:Cx).d∧St { c with f:=r } V H s:=by
 obtain⟨⟨ac,aa,m,w,R,Q,E,z,P,W,I,J⟩,B,N,_⟩ :=F;have A:c.f.get? c.h=none:=kts_self R;obtain⟨T,S⟩ :=kts_turn_at (h:=s.heap) (fs:=fo c) (g:=c.f) (λb j=>let⟨_,o,y,_⟩ :=y7 O j;⟨o,y⟩)
  (λb o G k=>W.1 b o (E b o (R.keep b o G) λq=>by
   rcases ru O q with q|q
   ·rw[q,A] at G;exact nS G
   ·exact k q))
  (λb o G Y=>by
   refine y8 O Y λU X u D=>?_;rw[G] at u;(replace u:=eX u;subst u);exact I b o (R.keep b o G) D)
 refine(fQ _ T ?_ ⟨(ey m ⟨I.ns R.ns,S,by show(ktsHeap s.heap (fo c) c.f).objs.size≤c.h;rw[T.size];exact R.above⟩ ?_),⟨λa o h=>?_,λa o h=>?_⟩,λa o h=>?_,B,N⟩)
 ·have i:Below c.t c.m c.o (ktsHeap s.heap (fo c) c.f):=⟨O.g.stack,λb o G=>T.other b o (O.g.stays b o G) (λY=>by
   rw[(y7 O Y).1] at G;exact nS G),O.g.frames.of_keeps λb o G U=>by
    refine fL (T.up G) λx hs=>?_;exact(ey _ hs rfl)⟩
  exact⟨i,d.keeps i.stays,L.keeps i.stays,O.e,O.f,O.h,O.b,O.i,O.j⟩
 ·rw[show({ c with f:=ktsHeap s.heap (fo c) c.f }:Cx).i=eh from v];exact Q
 ·(refine fe (z a o h) λK U=>?_;refine eR K λf Z r2=>?_)
  exact(ey f (W.1 _ _ Z) r2)
 ·refine gY (z a o h) λU M l=>?_
  exact⟨M,T.none_ _ l⟩
 ·refine mf (P a o h) λz1 g p n t=>?_
  exact⟨W.1 _ _ z1,g,p,T.none_ _ n,t⟩
end
section
variable{c:Cx}{V:eJ}{H:AH}
def tV(c:Cx)(X:et->AH->Prop)(e:ed)(s:eZ):Prop:=∃a C,e=ec a∧((∃V H,mw c V H a C s∧X C H)∨
 (∃V H p J w,St c V H s∧H a=d9 (.c p)∧p.cls=ec C∧p.data=fB J∧J[1]? =d9 ez∧J[0]? =d9 w∧J[2]? =d9 ez∧X C (pg H a)))
def BO(c:Cx)(e:eP)(V:eJ)(H:AH)(Q:ed->AH->Prop)(X:et->AH->Prop):Prop:=
 ∀(E:ed->eZ->Prop) s,St c V H s->(∀e P,tV c X e P->E e P)->fi c.g c.b (jc e c.a) (λv P=>∃M,St c V M P∧Q (nv v) M) E s
def qd(c:Cx)(u:fG)(V:eJ)(H:AH)(Q:gr->eJ->AH->Prop)(X:et->AH->Prop):Prop:=
 ∀(E:ed->eZ->Prop) s,St c V H s->(∀e P,tV c X e P->E e P)->fi c.g c.b (exec u c.a) (λf P=>∃l M,St c l M P∧Q (nf f) l M) E s
def mS(c:Cx)(Z:List fG)(V:eJ)(H:AH)(Q:gr->eJ->AH->Prop)(X:et->AH->Prop):Prop:=
 ∀(E:ed->eZ->Prop) s,St c V H s->(∀e P,tV c X e P->E e P)->fi c.g c.b (uZ Z c.a) (λf P=>∃l M,St c l M P∧Q (nf f) l M) E s
set_option backward.match.sparseCases true in
def mR(c:Cx)(f:ed)(w:List ed)(V:eJ)(H:AH)(Q:ed->AH->Prop)(X:et->AH->Prop):Prop:=
 ∀(E:ed->eZ->Prop) (s:eZ) (J:List ed),St c V H s->J.map nv=w->(∀a C M P,mw c V M a C P->X C M->E (ec a) P)->
  qL c.g c.b (.call f ⟨J,[]⟩) (λ(r:pQ) (P:eZ)=>match r with|kF (iV v)=>(∃M,St c V M P∧Q (nv v) M)|kF _=>False|xv e=>E e P) s
variable{X:et->AH->Prop}
theorem Nh{u:fG}{Q:gr->eJ->AH->Prop}(h:T1 c u V H Q):qd c u V H Q X:=λE s S U=>h E s S
theorem yu{u:fG}{o:List fG}{Q:gr->eJ->AH->Prop}
  (h:qd c u V H (λf l M=>match f with|fY=>mS c o l M Q X|f=>Q f l M) X):mS c (u::o) V H Q X:=λE s S b=>by
 refine A8 (fc (h E s S b) (λf P G=>?_) λU U x=>x);refine iH G λl M R A=>?_;cases f with
 |next=>exact A E P R b
 |brk=>exact(ib l M R A)
 |cont=>exact(ib l M R A)
 |ret v=>exact(ib l M R A)
theorem Ng{j B L d}{Q:gr->eJ->AH->Prop}
  (h:TB c j V H (λb M=>if b then mS c B V M Q X else mS c L V M Q X)):qd c (.If j B L d) V H Q X:=λE s S a=>by
 refine wpAny_If (fc (h E s S) (λb P G=>?_) λU U x=>x);refine eR G λM R A=>?_;clear G;cases b
 ·exact A E P R a
 ·exact A E P R a
theorem Nf{I:List eP}{k:Nat}{y d:fE}{w:eP}{Q:gr->eJ->AH->Prop}
  (h:BO c w V H (λv M=>sd c (iD I k y) v V M (λl i=>Q fY l i)) X)
  (O:Ln [iD I k y] w d.line c.a=f9 em) (g:qM [iD I k y] w c.a=f9 eh):
  qd c (lm [iD I k y] w d) V H Q X:=λE s S b=>by
 refine Assign_Tuple (fc (h E s S b) (λv P G=>?_) λU U x=>x) O g;refine eR G λM R A=>?_;exact fc (A E P v R rfl) (λU f A=>A) λU U x=>x
theorem Of{x:ft}{r d:fE}{w:List eP}{Q:ed->AH->Prop}{f:ed}(O:c.d)(W:iQ w=eb)
  (l:TE c (gk x r) V H (λv M=>v=f∧nv f=f∧(∀u,nv u=f->u=f)∧nH c f∧TA c w V M (λJ i=>mR c f J V i Q X))):BO c (jr (gk x r) w [] d) V H Q X:=λE s S b=>by
 refine u6 (fc (l E s S) (λv P G=>?_) λU U x=>x);refine uq G λM R A K I z Z=>?_;clear l K;clear G;obtain rfl:=I v A;refine xW (P:=λh=>c.e.In h) (by rw[qp W];rfl) z (sQ W (fc (Z E P d R) (λJ g A=>?_) λU U x=>x));refine eR A λi F y=>?_;exact⟨F.y O,yb (y E g J F rfl λa C L B k q=>b _ _ (ib a C rfl (eH (ib V L k q))))⟩
set_option backward.match.sparseCases true in
theorem NM{f:et}{w:List ed}{Q:ed->AH->Prop}{D W:ft}{v:AU}{B:List fG}{t:jG}{T i r E d N oc:ed}{S od:Option et}{aP:Array (Option ed)}{X:et->AH->Prop}(O:c.d)(ag:c.i=eh)
  (ho:c.e.lookup f=d9 ⟨oc,od,xL (lK D W v B t T i r E S d N),aP⟩) (aB:pR c.e d W=eb) (aL:c.b.depth<EE)
  (Y:List String) (aA:∀s J,J.length=w.length->Ed s (lK D W v B t T i r E S d N) ⟨J,[]⟩ ((Y.map eE).zip J))
  (aH:∀x∈Y,t.names.lookup (eE x)=d9 eu) (aC:∀x∈t.names,x.2≠fK)
  (aD:t.isCoroutine=em) (aE:t.isGenerator=em) (z:t.kind=jH)
  (az:∀ae L,(iM c ae L (kS W t L f d [])).d->mS (iM c ae L (kS W t L f d [])) B (iR Y w) H (λj U M=>Q (pC j) M) X):
  mR c (ec f) w V H Q X:=λau s J hs ak b=>by
 have aj:=hs;have aG:J.length=w.length:=by rw[←ak,fC]
 refine oC (hs.I O (G:=λ(aR:pQ) (P:eZ)=>match aR with|kF (iV aS)=>(∃M,St c V M P∧Q (nv aS) M)|kF _=>False|xv e=>au e P)) λaT F FG BG u aw=>?_;obtain⟨_,ac,_,aF,aJ⟩ :=hs;have hl:∀y∈(Y.map eE).zip J,t.names.lookup y.1=d9 eu:=by
  intro y hy;refine fP (rI hy).1 λx Z n=>?_;rw[←n];exact aH x Z
 refine(XI (fd:=lK D W v B t T i r E S d N) (body:=B) (binds:=(Y.map eE).zip J) aL (F.keep _ _ (O.a _ _ ho)) rfl (O.d.nolimit.keeps F.keep) (K' (O.a.keeps F.keep) aB) rfl (aA s J aG) aC hl (λaq aI h=>?_) aD aE z);have A:Fr (lr s.heap ((ke H s.heap).map (·.1))) s.heap.objs.size aq (λy=>((Y.map eE).zip J).reverse.lookup y):=⟨aI,λav o e=>h av o (A5 _ e),xG (Et _ _)⟩;have m:(iM c (lr s.heap ((ke H s.heap).map (·.1))) s.heap.objs.size (kS W t s.heap.objs.size f d [])).d:=⟨BG,O.a.keeps u,O.d.keeps u,Ec O.e,rfl,z,z,rfl,rfl⟩;have aO:St (iM c (lr s.heap ((ke H s.heap).map (·.1))) s.heap.objs.size (kS W t s.heap.objs.size f d [])) (iR Y w) H { s with heap:=aq,toks:=s.toks+((Y.map eE).zip J).length }:=by
  refine⟨(ey _ A ?_),⟨λa o aa=>?_,λa o aa=>?_⟩,(λa o aQ=>aQ.elim),aF,aJ⟩
  ·exact⟨rfl,ak▸B4⟩
  ·refine ac.d a o aa λro K I=>?_
   exact(ey ro (h _ _ K) I)
  ·refine ac.d a o aa λro K I=>?_
   exact⟨rJ (l9 K),A3 _ (jZ (s9 (p:=(a,ro)) |>.mpr ⟨by rw[aa];rfl,K⟩))⟩
 have af:(jt H s).get? s.heap.objs.size=none:=kA (xG (Et _ _));refine fc (az _ _ m _ _ aO λe P n=>?_) (λj P G=>?_) λU U x=>x
 ·(refine iH n λa C R Z=>?_;(clear n;obtain rfl:=R))
  rcases Z with ⟨l,M,k,q⟩ |⟨l,M,oe,aU,a0,aM,R,e2,p,e4,e5,e6,q⟩
  ·exact fc (LO O ag aj m af k) (λU g k=>b a C M g k q) λU U x=>x
  ·exact fc (LN O ag aj m af aM R e2 p e4 e5 e6) (λU g k=>b a C _ g k q) λU U x=>x
 refine iH G λl M I aK=>?_;exact aw I λh3=>(ey M h3 (C6 j▸aK))
end
section
variable{c:Cx}{V:eJ}{H:AH}
noncomputable def GV:List Value:=[eK "Exception",eK "BaseException",eK "object"]
structure oV(K:Frag)(C N fI:et):Prop where
 b:∃nm q bs sn sub ab col dd k0 k1 k2 k3 k5,K.lookup C=d9 (EA nm q C N bs GV eb sn sub ab col dd k0 k1 k2 k3 k5 "Exception.__new__")
 a:nsOkIn K N=eb
 d:jg K N "__init__"=d9 (d9 (ec fI))
 c:jg K N "__setattr__"=d9 eh
 e:∃o,K.lookup fI=d9 o∧o.cls=eK "function"
set_option tactic.hygienic true in
theorem RN{K:Frag}{h:fH}{N:et}{H:ft->Option ed}{n:ft}{v:ed}(X:K.In h)(G:h.Ns N H)(e:jg K N n=d9 (d9 v)):H n=d9 v:=by
 refine mZ G λo w A y D U l=>?_;unfold jg at e
 split at e
 ·rename_i c d j I x q
  have:=X _ _ q;rw[y] at this;clear y
  (replace this:=eX this;subst this)
  clear q;cases D
  split at e
  ·rename_i m a
   cases e;rw(occs:=eO) [←l];unfold nsFind findBy;rw[←Array.find?_toList,a];rfl
  ·split at e<;>cases e
 ·exact nS e
noncomputable def l5(C t:et)(z:Option et):Obj:={ cls:=ec C,dict:=z,data:=fB #[ec t,ez,ez,ez,fF em,ez] }
theorem S7{M:Model}{A:j0}{E:ed->eZ->Prop}{B:iN}{k q:ft}{C N:et}{D O:List ed}{Y:Bool}{P:List ft}{y:List ed}{c:Bool}{H:Option Bool}{z:Option et}{a m p r F:Option ed}{f:String}
  {s:eZ} {x:Sem ed} {Q:gr->eZ->Prop} (J:O.contains (eK "BaseException")=eb) (i:A.handled=eh)
  (h:fi M A x (λv g=>∃e t j,v=ec e∧g.heap.get? C=d9 (EA k q C N D O Y P y c H z a m p r F f)∧
   g.heap.get? e=d9 (l5 C t j)∧E (ec e) g) E s):
  fi M A (raiseStmt B (d9 x) eh) Q E s:=by
 have o:(ec C::O).contains (eK "BaseException")=true:=by rw[List.contains_cons,J,pI]
 unfold raiseStmt;refine fv (fc h (λv g X=>?_) λU U x=>x)
 (refine mZ X λe t j R l n b=>?_;obtain rfl:=R)
 obtain⟨w,u,d,G,L⟩ :=g;unfold l5 at n
 repeat (first|with_reducible refine EK n ?_|with_reducible refine EK l ?_|(with_reducible refine wpAny_isSubtype_exc l ?_;rw[o])|wp_step)
 exact wpAny_raiseNew_none i b
theorem Ni{x:ft}{np aa d:fE}{w:List eP}{C N W:et}{Q:gr->eJ->AH->Prop}{X:et->AH->Prop}(O:c.d)(hh:c.b.handled=eh)(n:oV c.e C N W)(hn:iQ w=eb)
  (h:TE c (gk x np) V H (λv Z=>v=ec C∧TA c w V Z (λJ T=>J.length≤100∧∀e t i,T e=eh->TC (cA c C i) (ec W) (ec e::J) V (eQ T e (.c (l5 C t eh))) (λr L=>r=ez∧∃j,L e=d9 (.c (l5 C t j))∧X C (pg L e))))):
  qd c (Em (d9 (jr (gk x np) w [] aa)) eh d) V H Q X:=λE aC S hE=>by
 (refine lC n.b λnm aA D P g2=>?_;refine lC g2 λy M af z A=>?_;refine lC A λk0 k1 R s g4=>?_;refine fL g4 λk5 k=>?_)
 refine eR n.e λoI aq au=>?_;rw(occs:=eO) [arm_exec_Raise];refine fv (rT (S7 (C:=C) (k:=nm) (q:=aA) (N:=N) (D:=D) (O:=GV) (Y:=eb) (P:=P) (y:=y) (c:=M) (H:=af) (z:=z) (a:=k0) (m:=k1) (p:=R) (r:=s) (F:=k5) (f:="Exception.__new__") rfl hh (fv (fc (u6 (fc (h E aC S) (λaE aD G=>?_) λU U x=>x)) (λv aJ az=>fv (rT (iA az))) λU U x=>x))));obtain⟨Z,m,hf,G⟩ :=G;obtain rfl:=gX hf;unfold callWith;refine fv (rR (fc (sQ hn (Q:=λa f=>a.kw=[]∧∃T,St c V T f∧(a.pos.map nv).length≤100∧∀e t i,T e=eh->TC (cA c C i) (ec W) (ec e::a.pos.map nv) V (eQ T e (.c (l5 C t eh))) (λr L=>r=ez∧∃j,L e=d9 (.c (l5 C t j))∧X C (pg L e))) (fc (G E aD aa m) (λJ f G=>⟨rfl,G⟩) λU U x=>x)) (λa f aw=>fv (rT ?_)) λU U x=>x));obtain⟨g,ae⟩ :=a
 (refine kD aw λaj T ac K=>?_;refine fe K λak G=>?_)
 obtain rfl:ae=[]:=aj;simp only[qp hn,AL];refine eR ac.e λaH F U=>?_;have B:=O.a.keeps F.keep;have l:=B _ _ k;have p:=K3 (La B n.a);refine fv (wpAny_keeperOf_exc l ?_);refine fv (wpAny_call_exc_init (rest:=g) (hrest:=by rw[nC];simp at ak;omega) PySem.F.excBase_Exception l p (RN B p n.d) (B _ _ aq) au λu e Y=>?_);refine f5 Y.there λt ht aF aG=>?_;refine ac.i (d:=e) (X:=.c (l5 C t eh)) (u:=u) (k:=f.toks) Y.new Y.keeps ht rfl λag av=>?_;refine fc (G e t g ag E { f with heap:=u,toks:=f.toks } (ec e::g) av.C rfl) (λr aK G=>?_) λU U x=>x
 (refine f5 G λL b hr g6=>?_;refine eR g6 λj o q=>?_)
 have b:=b.G;refine⟨wK hr,fv (rR (wpAny_point (iA ?_)))⟩
 (refine b.b.d e _ o λro aB e7=>?_;obtain rfl:=e7)
 refine eR b.e λaI I U=>?_;exact(pj e t j rfl ((O.a.keeps I.keep) _ _ k) aB (hE _ _ (ib e C rfl (eI ⟨V,L,_,_,_,b,o,rfl,rfl,rfl,rfl,rfl,q⟩))))
end
section
open Builtin Builtin.ObjectAttr
section
variable{Z:lJ}{w:jI}{A:j0}{E:ed->eZ->Prop}{h:fH}{g:Array GenState}{d:Drawn}{t:Nat}{L:uU}
variable{k q:ft}{C N x:et}{G O:List ed}{P:List ft}{y:List ed}{M:Bool}{H:Option Bool}{z:Option et}{a m R s F:Option ed}{B f U j:String}
 {r:ft->Option ed} {D:ft} {v:ed} {T:fM}
theorem Qm{o:fM}{x:Option et}(h:o.isFreed=em):({ cls:=o.cls,dict:=x,data:=o.data,slots:=o.slots }:fM).isFreed=false:=by
 obtain⟨C,G,I,K⟩ :=o;cases I<;>first|rfl|exact h
theorem Qb{tk:Tok}{Q:Fin->eZ->Prop}(Y:StoreFacts B O U j)
  (l:h.get? C=d9 (EA k q C N G O eb P y M H z a m R s F f)) (W:h.Ns N r) (e:r D=eh)
  (i:EI (eK B) D=f9 eh) (hx:h.get? x=d9 T) (X:T.cls=ec C) (ak:∀c,T.data≠.cls c) (ag:T.dict=eh)
  (hq:∀u J,u.get? x=d9 { T with dict:=d9 h.objs.size }->u.Ns1 h.objs.size (λaw=>if aw=D then d9 v else eh)->
   (∀b o,b≠x->h.get? b=d9 o->u.get? b=d9 o)->Q (.done (iV ez)) ⟨u,g,d,J,L⟩):
  fi (jJ Z w) A (Builtin.«object.__setattr__» ⟨[ec x,eC D tk,v],[]⟩) Q E ⟨h,g,d,t,L⟩ :=by
 have av:=Y.passes (ec x);unfold Builtin.«object.__setattr__»
 repeat (first|rw[refuse_eq]|(rw[refuseLoop_ref,av])|(with_reducible refine EK hx ?_;rw[X])|with_reducible refine wpAny_mroOf_exc l ?_|(with_reducible refine X1 l W Y.mro i ?_;rw[e])|wp_step)
 rw[ag,if_neg (by simp[typeHasDict])]
 split
 ·rename_i V
  cases V
 split
 ·rename_i c V
  exact absurd V (ak c)
 ·have aa:(h.push { cls:=eK "dict",data:=oQ #[] }).get? x=d9 T:=hY _ hx
  have p:x≠h.objs.size:=rJ (ty hx);refine fv (wpAny_alloc' ?_);refine fv (wpAny_update' aa ?_);refine iA ?_;have aj:((h.push { cls:=eK "dict",data:=oQ #[] }).update x λo=>{ cls:=o.cls,dict:=d9 h.objs.size,data:=o.data,slots:=o.slots }).get? h.objs.size
    =d9 { cls:=eK "dict",data:=oQ #[] }:=
   (XC _ _ _ _ p.symm).trans (Heap.get?_push_at rfl rfl)
  have aq:((h.push { cls:=eK "dict",data:=oQ #[] }).update x λo=>{ cls:=o.cls,dict:=d9 h.objs.size,data:=o.data,slots:=o.slots }).Ns h.objs.size (λac=>eh):=
   (pj _ (#[]) _ aj rfl (λaz n=>absurd n (by simp)) (λac=>rfl))
  show fi _ _ (storeInDict h.objs.size (eC D tk) D v) _ _ _;unfold storeInDict newKeyGuard;refine fv (iA (fv (wpAny_nsSet1 (Heap.Ns1.of_empty aq) λu K S=>?_)));refine qr (K.count (XG D v XH)) λoD aB aA au af ae=>?_;refine fv (wpAny_lookBehind au (by rw[af];exact pastItsLine_dict (im ae (by rw[lG,WH,nC];lia))) ?_)
  wp_walk
  refine hq u _ ?_ K λb ob I hb=>?_
  ·refine(S.2 x p).trans (xR _ aa ?_)
   exact Qm (Heap.get?_some_iff.mp hx).2
  ·exact(S.2 b (rJ (ty hb))).trans ((XC _ _ _ _ I).trans (hY _ hb))
theorem Qa{Q:Unit->eZ->Prop}(Y:StoreFacts B O U j)
  (l:h.get? C=d9 (EA k q C N G O eb P y M H z a m R s F f)) (W:h.Ns N r) (p:r "__setattr__"=eh) (e:r D=eh)
  (i:EI (eK B) D=f9 eh) (n:h.get? x=d9 T) (X:T.cls=ec C) (ac:∀c,T.data≠.cls c) (aa:T.dict=eh)
  (hq:∀u J,u.get? x=d9 { T with dict:=d9 h.objs.size }->u.Ns1 h.objs.size (λae=>if ae=D then d9 v else eh)->
   (∀b o,b≠x->h.get? b=d9 o->u.get? b=d9 o)->Q () ⟨u,g,d,J,L⟩):
  fi (jJ Z w) A (setAttr (ec x) D v) Q E ⟨h,g,d,t,L⟩ :=by
 have S:=Y.slot.bind (ec x);unfold setAttr callSpecial? specialOf
 repeat (any_goals (first|assumption|(with_reducible refine EK n ?_;rw[X])|(with_reducible refine X1 l W Y.mro Y.slot.lookup ?_;rw[p])|wp_step))
 refine Lf Y.slot.plain Y.entry (wpAny_check_sa Y l n X (Qb Y l W e i n X ac aa λu J K I V=>?_))
 repeat (any_goals (first|assumption|wp_step))
 exact hq u J K I V
end
variable{c:Cx}{V:eJ}{H:AH}
theorem Ot{x C N fI t:et}{a:String}{v:ed}{Q:AH->Prop}(O:c.d)(n:oV c.e C N fI)(M:jg c.e N (eE a)=d9 eh)(i:EI (eK "Exception") (eE a)=f9 eh)
  (Z:H x=d9 (.c (l5 C t eh)))
  (h:∀j G,H j=eh->j≠x->(∀h:fH,h.get? j=d9 G->∃b,h.Ns1 j (λaj=>if aj=eE a then d9 b else eh))->Q (eQ (eQ H x (.c (l5 C t (d9 j)))) j (.c G))):qf c (ec x) a v V H Q:=λE s b S hv=>by
 (refine lC n.b λnm q bs sn L=>?_;refine lC L λaw ab ak dd T=>?_;refine lC T λk0 m k2 k3 g3=>?_;refine fL g3 λk5 k=>?_)
 refine eR S.e λav F U=>?_;have B:=O.a.keeps F.keep;have l:=B _ _ k;have ac:=K3 (La B n.a)
 (refine S.b.d x _ Z λro J d=>?_;obtain rfl:=d)
 refine Qa (g:=s.gens) (d:=s.drawn) (t:=s.toks) (L:=s.os) Xx l ac (Eu B n.a n.c) (Eu B n.a M) i J rfl (by intro c q;cases q) rfl λu ag K h2 W=>?_;have z:s.heap.get? s.heap.objs.size=none:=kA (ig _);have p:s.heap.objs.size≠x:=λe=>by rw[←e,z] at J;exact nS J
 have I:=S.h z;refine fe (S.b.b x _ Z) λe1 e2=>?_;have f:St c V (eQ H x (.c (l5 C t (d9 s.heap.objs.size)))) { s with heap:=u,toks:=ag }:=by
  have au:=S;obtain⟨⟨X,A,Y⟩,R,P,aa,ae⟩ :=S;refine St.v (s:=s) (X:=.c (l5 C t (d9 s.heap.objs.size))) ⟨(ey X A Y),R,P,aa,ae⟩ Z (ey X ?_ Y) (λa o hb U e=>W a o hb e) K rfl;exact⟨A.ns.at' λo e=>W _ o (gM e1) e,λg o e=>W g o (λq=>by rw[q,e2] at e;exact nS e) (A.keep g o e),A.above⟩
 have aq:=h2;refine oF h2 λG w ep y r=>?_;have D:rW c (eQ H x (.c (l5 C t (d9 s.heap.objs.size)))) s.heap.objs.size:=⟨I.g,I.e,I.f,(fw _ _ p).trans I.d,I.b⟩;have af:=f.x (a:=s.heap.objs.size) (o:=.c G) (f:=G) y rfl D;exact(ey _ af (h _ G I.d p λhp hg=>⟨b,G,w,ep,hg,r⟩))
theorem Ou{x C N fI az j:et}{G:fM}{a b:String}{aA:ed}{Q:AH->Prop}(O:c.d)(n:oV c.e C N fI)(M:jg c.e N (eE a)=d9 eh)(hB:EI (eK "Exception") (eE a)=f9 eh)
  (Z:H x=d9 (.c (l5 C az (d9 j)))) (D:H j=d9 (.c G)) (Y:j≠x) (aq:∀h:fH,h.get? j=d9 G->∃v',h.Ns1 j (λaB=>if aB=eE b then d9 v' else eh))
  (h:∀I,Q (eQ H j (.c I))):qf c (ec x) a aA V H Q:=λaC s v' S hv=>by
 (refine lC n.b λnm q bs sn K=>?_;refine lC K λaI ab aD dd g6=>?_;refine lC g6 λk0 k1 k2 k3 g7=>?_;refine fL g7 λk5 k=>?_)
 refine eR S.e λaE ae U=>?_;have B:=O.a.keeps ae.keep;have hC:=B _ _ k;have p:=K3 (La B n.a)
 (refine S.b.d x _ Z λro J m=>?_;obtain rfl:=m)
 (refine S.b.d j _ D λaH ag f=>?_;obtain rfl:=f)
 refine fL (aq _ ag) λaK g=>?_;refine fe (S.b.b j _ D) λe1 e2=>?_;refine fe (S.b.b x _ Z) λr t=>?_;have i:x≠C:=λq=>by
  have:=O.a _ _ k;rw[←q,t] at this;exact nS this
 refine store_attr (g:=s.gens) (d:=s.drawn) (t:=s.toks) (os:=s.os) Xx hC p (Eu B n.a n.c) (Eu B n.a M) hB i (lP _ J rfl (by intro c q;cases q) (eI (fQ j rfl Y g))) (λu aJ v z av=>?_) (hw:=XG _ _ XH) (hsz:=by rw[nC];simp);have W:∀b o,b≠j->s.heap.get? b=d9 o->u.get? b=d9 o:=λb o hb e=>by
  by_cases ac:b=x
  ·clear Z Y r t i v z
   subst ac;rw[J] at e
   (replace e:=eX e;subst e)
   refine oC (av _ J) λaw L T g3 E K=>?_;have aa:=K j rfl;clear K;obtain⟨c1,c2,c3,c4⟩ :=aw;dsimp only at T g3 E aa;subst T g3 E aa;exact L
  ·refine z b o ac (λaF af d l=>?_) e
   rw[J] at d
   (replace d:=eX d;subst d)
   have:d9 j=d9 af:=l;clear l
   (replace this:=eX this;subst this)
   exact hb
 refine nU v λoo i1 U U w=>?_;have gx:=W x _ (gM Y) J;rw[gx] at i1;clear U;clear U
 (replace i1:=eX i1;subst i1)
 rcases w with ⟨w,_⟩ |⟨d',F,_,ak⟩
 ·exact iX w
 ·have:d9 j=d9 d':=F
  clear F;clear left
  (replace this:=eX this;subst this)
  refine oF ak λI es ep y aG=>?_;refine(ey _ ?_ (h I));obtain⟨⟨X,A,hm⟩,R,P,aj,au⟩ :=S;refine St.v (s:=s) (X:=.c I) ⟨(ey X A hm),R,P,aj,au⟩ D (ey X ?_ hm) (λa o hb U e=>W a o hb e) y rfl;exact⟨A.ns.at' λo e=>W _ o (gM e1) e,λb o e=>W b o (λq=>by rw[q,e2] at e;exact nS e) (A.keep b o e),A.above⟩
end
section
variable{c:Cx}{V:eJ}{H:AH}
def BC(c:Cx)(X:eJ->et->AH->Prop)(e:ed)(s:eZ):Prop:=∃a C V H,e=ec a∧mw c V H a C s∧X V C H
def BN(c:Cx)(e:eP)(V:eJ)(H:AH)(Q:ed->AH->Prop)(X:eJ->et->AH->Prop):Prop:=
 ∀(E:ed->eZ->Prop) s,St c V H s->(∀e P,BC c X e P->E e P)->fi c.g c.b (jc e c.a) (λv P=>∃M,St c V M P∧Q (nv v) M) E s
def FK(c:Cx)(u:fG)(V:eJ)(H:AH)(Q:gr->eJ->AH->Prop)(X:eJ->et->AH->Prop):Prop:=
 ∀(E:ed->eZ->Prop) s,St c V H s->(∀e P,BC c X e P->E e P)->fi c.g c.b (exec u c.a) (λf P=>∃l M,St c l M P∧Q (nf f) l M) E s
def sf(c:Cx)(Z:List fG)(V:eJ)(H:AH)(Q:gr->eJ->AH->Prop)(X:eJ->et->AH->Prop):Prop:=
 ∀(E:ed->eZ->Prop) s,St c V H s->(∀e P,BC c X e P->E e P)->fi c.g c.b (uZ Z c.a) (λf P=>∃l M,St c l M P∧Q (nf f) l M) E s
variable{X:eJ->et->AH->Prop}
theorem Fu{Z:List fG}{Q:gr->eJ->AH->Prop}(h:TS c Z V H Q):sf c Z V H Q X:=λE s S U=>h E s S
theorem Ft{u:fG}{o:List fG}{Q:gr->eJ->AH->Prop}
  (h:FK c u V H (λf l M=>match f with|fY=>sf c o l M Q X|f=>Q f l M) X):sf c (u::o) V H Q X:=λE s S b=>by
 refine A8 (fc (h E s S b) (λf P G=>?_) λU U x=>x);refine iH G λl M R A=>?_;cases f with
 |next=>exact A E P R b
 |brk=>exact(ib l M R A)
 |cont=>exact(ib l M R A)
 |ret v=>exact(ib l M R A)
theorem E2{e d}{Q:gr->eJ->AH->Prop}(h:BN c e V H (λv M=>Q fY V M) X)
  (D:rP c.a=em) (O:tL e eh d.line c.a=f9 em):FK c (qJ e d) V H Q X:=λE s S b=>by
 refine wpAny_Expr_any (fc (h E s S b) (λv P G=>?_) λU U x=>x) D O;refine eR G λM R A=>?_;exact(ib V M R A)
theorem Oe{x:ft}{r d:fE}{w:List eP}{Q:ed->AH->Prop}{f:ed}(O:c.d)(W:iQ w=eb)
  (l:TE c (gk x r) V H (λv M=>v=f∧nv f=f∧(∀u,nv u=f->u=f)∧nH c f∧TA c w V M (λJ i=>mR c f J V i Q (X V)))):BN c (jr (gk x r) w [] d) V H Q X:=λE s S b=>by
 refine u6 (fc (l E s S) (λv P G=>?_) λU U x=>x);refine uq G λM R A K I z Z=>?_;clear l K;clear G;obtain rfl:=I v A;refine xW (P:=λh=>c.e.In h) (by rw[qp W];rfl) z (sQ W (fc (Z E P d R) (λJ g A=>?_) λU U x=>x));refine eR A λi F y=>?_;exact⟨F.y O,yb (y E g J F rfl λa C L B k q=>b _ _ ⟨a,C,V,L,rfl,k,q⟩)⟩
theorem mw.f{e C:et}{s:eZ}{g:fH}(O:c.d)(F:mw c V H e C s)(m:uX (fo c) c.f g)(S:St (cg c g) V H s):∃p J,p.data=fB J∧J[2]? =d9 ez∧St (gO (cg c g) [(e,p)]) V H s:=by
 obtain⟨⟨b,aa,ac,a0,r,t,v,M,L,⟨f1,w,f3,f4⟩,j,x8⟩,l,y,p,J,n,D,I⟩ :=F;have i:∀o,b.get? e=d9 o->(∀J,o.data≠fB J)->False:=λo K W=>by
  refine fL (j e o K W) λx S=>?_;rw[n] at S;clear n
  (replace S:=eX S;subst S)
  exact W J D
 have T:e≠c.h:=λq=>by
  refine qr r.ns λo es ep K h3 U=>?_;exact i o (q▸K) (λJ q=>by rw[h3] at q;cases q)
 have d:c.f.get? e=none:=by
  cases G:c.f.get? e with
  |none=>rfl
  |some o=>
   have E:=r.keep _ _ G;by_cases Y:e∈fs c
   ·rcases ru O Y with z|z
    ·exact absurd z T
    ·refine y8 O z λU X u W=>?_
     rw[G] at u;(replace u:=eX u;subst u);exact(i o E W).elim
   ·have:=v e o E Y
    rw[w] at this;exact nS this
 refine(fS p J D I ?_);obtain⟨Q,R,P,B,N⟩ :=S;refine⟨Q,⟨R.f,R.b⟩,λa o h=>?_,B,N⟩;rcases h with h|h
 ·simp only[gR,AT] at h
  (refine fe h λk e2=>?_;(clear f4 i h;obtain rfl:=k);(clear D;obtain rfl:=e2))
  refine⟨n,T,?_,m.none_ _ d,?_⟩
  ·show a≠c.a.locals
   rw[t.1];exact T
  ·cases G:H a with
   |none=>rfl
   |some X=>
    (refine fe (M a X G) λA U=>?_;refine eR A λf Z U=>?_)
    rw[w] at Z;exact nS Z
 ·exact P a o h
theorem Qs{e C af fI:et}{x:ft}{np aD:fE}{t:fG}{b:List fG}{E:ed->eZ->Prop}{Q:gr->eZ->Prop}{s:eZ}(O:c.d)(i:c.i=eh)(I:c.a=c.n)(z:c.e.In c.m)(L:rK c.p (rM c.p []) c.r c.s c.m)
  (EC:oV c.e C af fI) (ex:jg c.e j4 x=d9 (d9 (ec C))) (hx:c.a.kindOf x=d9 eY) (D:(x==("__debug__":ft))=em) (F:mw c V H e C s)
  (aC:∀T P p J,uX (fo c) c.f T->(cg c T).d->p.data=fB J->J[2]? =d9 ez->St (gO (cg c T) [(e,p)]) V H P->∀E',fi c.g (c.b.mark (d9 (ec e))) (uZ (t::b) c.a) Q E' P):
  fi c.g c.b (tK (ec e) c.a) (λU aE=>fi c.g c.b (Lk (ec e) eh) (λU aF=>
    fi c.g c.b (handleBy (ec e) c.a [uS (d9 (gk x np)) eh (t::b) aD]) Q E aF) E aE) E s:=by
 (refine lC EC.b λnm q bs sn g4=>?_;refine lC g4 λaM ab aJ dd K=>?_;refine lC K λk0 k1 k2 k3 g6=>?_;refine fL g6 λk5 k=>?_)
 obtain⟨⟨aa,B,m,w,r,x2,v,M,x5,⟨f1,f2,f3,R⟩,j,Z⟩,l,y,d⟩ :=id F;rw[I];refine Ik O.e f3 O.f R d f1 f2 λaA Y aG=>i8 Y λn1 f n3 o=>?_;refine y6 n1 f n3 aG λG A g X N S=>?_;have o:s.heap.UpToSlots aA:=o;have u:Eh B (c.n::c.o) e (ec C) w G:=⟨A,f2,g,X⟩;have ae:mw c V H e C { s with heap:=G }:=⟨(wh aa B m w r x2 v M ⟨x5,u,((j.trans o).trans N),Z⟩),l,y,S⟩;refine f5 (ae.d O i z L) λaK aI W aj=>?_;refine eR aj.e λaL n U=>?_;refine eR u.there λob av aw=>?_;have au:G.get? C=_:=n.keep _ _ (W.a _ _ k);refine wpAny_handleBy_cons (codeAny_handlers_test ?_) (by intro q;cases q);rw[←I];refine KW O.b hx (Xi (O.i▸W.d.g.keeps n.keep) (mg_of W.a W.d.g ex) ?_) D;refine wpAny_excMatches_sub_self au av aw rfl (codeAny_handlers_suite ?_);refine y6 A g X.at S λaB w1 a w3 az aH=>?_;have h:mw c V H e C { s with heap:=aB }:=⟨(wh aa B m w r x2 v M ⟨x5,⟨w1,f2,a,w3⟩,(((j.trans o).trans N).trans az),Z⟩),l,y,aH⟩;refine f5 (h.d O i z L) λaq ac ag ak=>?_;refine fT (h.f O ac ak) λp J Y q2 q3=>?_;exact aC aq _ p J ac ag Y q2 q3 _
theorem J7{C N W:et}{x:ft}{r d y:fE}{t:fG}{B b:List fG}{E:ed->eZ->Prop}{Q:gr->eZ->Prop}{s:eZ}(O:c.d)(i:c.i=eh)(I:c.a=c.n)(z:c.e.In c.m)(L:rK c.p (rM c.p []) c.r c.s c.m)
  (n:oV c.e C N W) (w:jg c.e j4 x=d9 (d9 (ec C))) (Z:c.a.kindOf x=d9 eY) (D:(x==("__debug__":ft))=em) (hs:St c V H s)
  (j:sf c B V H (λf l M=>∀u P,nf u=f->St c l M P->Q u P) X)
  (K:∀l v M,X l v M->v=C) (k:∀l M e T P p J,X l C M->uX (fo c) c.f T->(cg c T).d->p.data=fB J->J[2]? =d9 ez->St (gO (cg c T) [(e,p)]) l M P->∀h,fi c.g (c.b.mark (d9 (ec e))) (uZ (t::b) c.a) Q h P):
  fi c.g c.b (exec (uW B [uS (d9 (gk x r)) eh (t::b) d] [] [] y) c.a) Q E s:=by
 refine wpAny_Try_except (fc (j _ s hs ?_) (λf P G=>?_) λU U x=>x)
 ·rintro e' P ⟨a,v,l,M,rfl,F,q⟩
  obtain rfl:=K _ _ _ q;exact Qs O i I z L n w Z D F λT g p J aa m Y o S h=>k l M a T g p J q aa m Y o S h
 ·refine iH G λl M R A=>?_
  cases f with
  |next=>exact yc (A _ _ rfl R)
  |brk=>exact A _ _ rfl R
  |cont=>exact A _ _ rfl R
  |ret ac=>exact A _ _ rfl R
end
section
variable{c:Cx}{V:eJ}{H:AH}
def Tn(c:Cx)(g:fH):Prop:=uX (fo c) c.f g∧(cg c g).d
theorem Tn.a(O:c.d):Tn c c.f:=⟨KtsTurn.refl,⟨O.g,O.a,O.d,O.e,O.f,O.h,O.b,O.i,O.j⟩⟩
theorem Tn.b{g T:fH}(f:Tn c g)(e:Tn (cg c g) T):Tn c T:=⟨f.1.trans e.1,⟨e.2.g,e.2.a,e.2.d,e.2.e,e.2.f,e.2.h,e.2.b,e.2.i,e.2.j⟩⟩
theorem St.z{s:eZ}(S:St c V H s):St (cg c c.f) V H s:=⟨S.e,⟨S.b.f,S.b.b⟩,S.d,S.n,S.l⟩
def vq(c:Cx)(u:fG)(V:eJ)(H:AH)(Q:fH->gr->eJ->AH->Prop):Prop:=
 ∀E s,St c V H s->fi c.g c.b (exec u c.a) (λf P=>∃g l M,Tn c g∧St (cg c g) l M P∧Q g (nf f) l M) E s
def o6(c:Cx)(Z:List fG)(V:eJ)(H:AH)(Q:fH->gr->eJ->AH->Prop):Prop:=
 ∀E s,St c V H s->fi c.g c.b (uZ Z c.a) (λf P=>∃g l M,Tn c g∧St (cg c g) l M P∧Q g (nf f) l M) E s
theorem Bm{u:fG}{Q:fH->gr->eJ->AH->Prop}(O:c.d)(h:T1 c u V H (Q c.f)):vq c u V H Q:=λE s S=>by
 refine fc (h E s S) (λf P G=>?_) λU U x=>x;refine iH G λl M R A=>?_;exact(mV _ l M (.a O) R.z A)
theorem Os{Q:fH->gr->eJ->AH->Prop}(O:c.d)(h:Q c.f fY V H):o6 c [] V H Q:=λE s S=>yc (mV _ V H (.a O) S.z h)
theorem vf{u:fG}{o:List fG}{Q:fH->gr->eJ->AH->Prop}
  (h:vq c u V H (λg f l M=>match f with|fY=>(cg c g).d->o6 (cg c g) o l M Q|f=>Q g f l M)):o6 c (u::o) V H Q:=λE s S=>by
 refine A8 (fc (h E s S) (λf P G=>?_) λU U x=>x);refine qr G λg l M z R A=>?_;cases f with
 |next=>
  refine fc (A z.2 E P R) (λf a A=>?_) λU U x=>x;refine qr A λT J i Z F y=>?_;exact(mV T J i (z.b Z) F y)
 |brk=>exact(mV g l M z R A)
 |cont=>exact(mV g l M z R A)
 |ret v=>exact(mV g l M z R A)
theorem Nd{C N W:et}{x:ft}{r d y k:fE}{B:List fG}{Q:fH->gr->eJ->AH->Prop}{X:eJ->et->AH->Prop}(O:c.d)(i:c.i=eh)(I:c.a=c.n)(z:c.e.In c.m)(L:rK c.p (rM c.p []) c.r c.s c.m)
  (n:oV c.e C N W) (w:jg c.e j4 x=d9 (d9 (ec C))) (Z:c.a.kindOf x=d9 eY) (D:(x==("__debug__":ft))=em)
  (j:sf c B V H (λf l M=>Q c.f f l M) X) (K:∀l v M,X l v M->v=C) (q:∀g l M,Tn c g->X l C M->Q g fY l M):
  vq c (uW B [uS (d9 (gk x r)) eh [.Pass k] d] [] [] y) V H Q:=λE s S=>by
 refine J7 (X:=X) O i I z L n w Z D S ?_ K ?_
 ·refineλh P R b=>fc (j h P R b) (λf aa G=>?_) λU U x=>x
  refine iH G λl M F A=>?_;refine(ib l M F (λu s3 t a=>(mV _ l M (.a O) a.z ?_)));rw[t];exact A
 ·intro l M e T P p J o m Y h1 h2 R h
  exact A8 (wpAny_Pass (yc (mV T l M ⟨m,Y⟩ R.j (q T l M ⟨m,Y⟩ o))))
def Vh(Q:fH->gr->eJ->AH->Prop)(P:eJ->AH->Prop):fH->gr->eJ->AH->Prop:=λg=>Ds (Q g) P
theorem Tn.d{p:List (et×fM)}{g:fH}(h:Tn (gO c p) g):Tn c g:=⟨h.1,⟨h.2.g,h.2.a,h.2.d,h.2.e,h.2.f,h.2.h,h.2.b,h.2.i,h.2.j⟩⟩
theorem Nc{W w:eP}{Y:List String}{B:List fG}{d:fE}{Q:fH->gr->eJ->AH->Prop}(O:c.d)(C:∀x∈Y,c.a.kindOf (eE x)=d9 eu)
  (y:∀a o,¬c.j a o)
  (h:j8 c w W Y V H (λn e A Z=>∃J:Nat->eJ->AH->Prop,J 0 V Z∧(∀i V H,J i V H->A H)∧
   (∀g,Tn c g->∀i l M p,i<n->J i l M->o6 (gO (cg c g) p) B (e i l) M (Vh Q (J (i+1))))∧(∀g l M,Tn c g->J n l M->Q g fY l M)))
  (N:∀v,pS w c.a v=f9 v):vq c (.For W w B [] d) V H Q:=λE s S=>
 G9 (f:=λg=>g) (F:=Tn c) (R:=Q) (λg t=>t.2) (.a O) (λh=>⟨h.e,⟨h.b.f,h.b.b⟩,h.d,h.n,h.l⟩) C (h.a λq=>nU q λJ K I m r=>lP J K I
  (λg z i l M p D u E s S=>fc (m g z i l M p D u E s S) (λj P q=>qr q λk L f t a b=>⟨k,L,f,z.b (c:=c) t.d,a,b⟩) λU U x=>x) λg l M t=>r g l M t) N S
theorem NL{f:et}{w:List ed}{Q:ed->AH->Prop}{D W:ft}{v:AU}{B:List fG}{t:jG}{dV i r E d N oc:ed}{S od:Option et}{aO:Array (Option ed)}(O:c.d)(aA:c.i=eh)(aJ:c.o=[])
  (ho:c.e.lookup f=d9 ⟨oc,od,xL (lK D W v B t dV i r E S d N),aO⟩) (aw:pR c.e d W=eb) (aK:c.b.depth<EE)
  (Y:List String) (av:∀s J,J.length=w.length->Ed s (lK D W v B t dV i r E S d N) ⟨J,[]⟩ ((Y.map eE).zip J))
  (aF:∀x∈Y,t.names.lookup (eE x)=d9 eu) (az:∀x∈t.names,x.2≠fK)
  (aB:t.isCoroutine=em) (aC:t.isGenerator=em) (hk:t.kind=jH)
  (h:∀g ac,(iM c g ac (kS W t ac f d [])).d->o6 (iM c g ac (kS W t ac f d [])) B (iR Y w) H (λU j U M=>Q (pC j) M)):
  lM c (ec f) w V H Q:=λak s J hs aj=>by
 obtain⟨⟨m,F,hm⟩,R,hz,aD,aH⟩ :=hs;have p:J.length=w.length:=by rw[←aj,fC]
 have au:=R.l;refine i8 (groundX (R:=λ(ae:pQ) (P:eZ)=>match ae with|kF (iV aP)=>(∃M,St c V M P∧Q (nv aP) M)|kF _=>False|xv e=>ak e P) O.g F au O.e O.f O.h) λFG BG u lv=>?_;have hl:∀y∈(Y.map eE).zip J,t.names.lookup y.1=d9 eu:=by
  intro y hy;refine fP (rI hy).1 λx Z n=>?_;rw[←n];exact aF x Z
 refine(XI (fd:=lK D W v B t dV i r E S d N) (body:=B) (binds:=(Y.map eE).zip J) aK (F.keep _ _ (O.a _ _ ho)) rfl (O.d.nolimit.keeps F.keep) (K' (O.a.keeps F.keep) aw) rfl (av s J p) az hl (λX aG ag=>?_) aB aC hk);have F':Fr (lr s.heap ((ke H s.heap).map (·.1))) s.heap.objs.size X (λy=>((Y.map eE).zip J).reverse.lookup y):=⟨aG,λb o e=>ag b o (A5 _ e),xG (Et _ _)⟩;have O':(iM c (lr s.heap ((ke H s.heap).map (·.1))) s.heap.objs.size (kS W t s.heap.objs.size f d [])).d:=⟨BG,O.a.keeps u,O.d.keeps u,Ec O.e,rfl,hk,hk,rfl,rfl⟩;have aL:St (iM c (lr s.heap ((ke H s.heap).map (·.1))) s.heap.objs.size (kS W t s.heap.objs.size f d [])) (iR Y w) H { s with heap:=X,toks:=s.toks+((Y.map eE).zip J).length }:=by
  refine⟨(ey _ F' ?_),⟨λa o aa=>?_,λa o aa=>?_⟩,(λa o q=>q.elim),aD,aH⟩
  ·exact⟨rfl,aj▸B4⟩
  ·refine R.d a o aa λro K I=>?_
   exact(ey ro (ag _ _ K) I)
  ·refine R.d a o aa λro K I=>?_
   exact⟨rJ (l9 K),A3 _ (jZ (s9 (p:=(a,ro)) |>.mpr ⟨by rw[aa];rfl,K⟩))⟩
 refine fc (h _ _ O' _ _ aL) (λj P G=>?_) λU U x=>x;obtain⟨g,aS,M,⟨T,_⟩,⟨⟨m',L,aR⟩,af,_,aE,aI⟩,G⟩ :=G;have aQ:fo (iM c (jt H s) s.heap.objs.size (kS W t s.heap.objs.size f d []))=fs c:=rfl;have T:uX (fs c) (jt H s) g:=T;have L:Fr g s.heap.objs.size P.heap m':=L;have C:∀a o,M a=d9 o->g.get? a=none:=λa o h=>(af.b a o h).2;have aM:∀b,b∈fs c->b=c.h:=λb hb=>by
  rcases ru O hb with z|z
  ·exact z
  ·unfold fo at z;rw[aJ] at z;cases z
 have up:∀b o,(jt H s).get? b=d9 o->b≠c.h->P.heap.get? b=d9 o:=λb o e hb=>L.keep _ _ (T.other b o e λq=>hb (aM b q));have aq:Fr c.f c.h P.heap m:=by
  refine⟨?_,λb o e=>up b o (u b o e) (λq=>by rw[q,kts_self F] at e;exact nS e),F.above⟩;obtain⟨o,es,A,K,ae⟩ :=FG.ns;obtain⟨sl,k⟩ :=T.up K;exact(pi _ es A (L.keep _ _ k) ae)
 have k0:∀a,g.get? a=eh->a≠c.h∧c.f.get? a=none:=λa ha=>by
  have l:(jt H s).get? a=none:=by
   cases Z:(jt H s).get? a with
   |none=>rfl
   |some o=>obtain⟨sl,k⟩ :=T.up Z;rw[ha] at k;exact nS k
  refine⟨λq=>?_,?_⟩
  ·obtain⟨o,es,A,K,_⟩ :=FG.ns
   rw[←q] at K;have K:(jt H s).get? a=d9 o:=K;rw[l] at K;exact nS K
  ·cases Z:c.f.get? a with
   |none=>rfl
   |some o=>
    have K:(jt H s).get? a=d9 o:=u a o Z;rw[l] at K;exact nS K
 refine(ey M ⟨(ey m aq ?_),⟨af.f,λa o aa=>k0 a (C a o aa)⟩,λa o aa=>?_,aE,aI⟩ ?_)
 ·rw[aA] at hm ⊢;exact hm
 ·obtain⟨z1,z2,z3,z4,z5⟩ :=hz a o aa
  have l:=Hf z1 z5;refine⟨up a o l z2,z2,z3,z4,?_⟩;cases hH:M a with
  |none=>rfl
  |some x=>
   obtain⟨sl,k⟩ :=T.up l;rw[C a x hH] at k;exact nS k
 ·rw[C6] at G
  cases j<;>exact G
end
section
section
variable{Z:lJ}{w:jI}{A:j0}{E:ed->eZ->Prop}{s:eZ}
theorem SP:plainId "proto.unchain"=true:=by decide+kernel
theorem P7:entryFor table "proto.unchain"=d9 Builtin.«proto.unchain»:=entryFor_of_tree (by kernel_rfl)
theorem Vj{a e:et}{p:fM}{J:Array ed}{Q:ed->eZ->Prop}(n:s.heap.get? e=d9 p)(D:p.data=fB J)(I:J[2]? =d9 ez)(G:Q ez s):
  fi (jJ Z w) A (runValue (uP "proto.unchain" ⟨[ec a,ec e,ec e,fF em],[]⟩)) Q E s:=by
 refine wpAny_runValue (codeAny_builtin P7 ?_);rw[Around.under_plainId SP _];show fi _ _ (field (ec e) 2>>=_) _ _ s;refine fv (pU n D I ?_);rw[if_pos (show(ez==ez)=eb from by simp)];exact iA G
theorem S6{L:Type}{a e:et}{p K:fM}{J f:Array ed}{Q:L->eZ->Prop}(B:A.handled=d9 (ec e))(Y:e≠a)(n:s.heap.get? e=d9 p)(D:p.data=fB J)(I:J[2]? =d9 ez)
  (M:s.heap.get? a=d9 K) (o:K.data=fB f) (r:2<f.size) (h:E (ec a) { s with heap:=s.heap.update a (uT (·.setIfInBounds 2 (ec e))) }):fi (jJ Z w) A (raiseNew (ec a):Sem L) Q E s:=by
 unfold raiseNew;refine fv (wpAny_handled ?_);rw[B];dsimp only;rw[if_pos (by simpa using Y)];refine fv (rR (Vj n D I (fv ?_)));unfold updateField;refine fv (wpAny_load M ?_);rw[o];dsimp only;rw[if_pos r];exact wpAny_update M (wpAny_throw h)
theorem Rb{N l e:et}{i:Nat}{W:Array ed}{p:fM}{J:Array ed}{Q:Option ed->eZ->Prop}(B:A.handled=d9 (ec e))(n:s.heap.get? e=d9 p)(M:p.data=fB J)(I:J[2]? =d9 ez)(Y:e≠N)
  (a:s.heap.IsListIter N l i) (C:s.heap.IsList l W) (c:W[i]? =eh)
  (O:∀u,Xy N s.heap u->Q eh { s with heap:=u }):fi (jJ Z w) A (rQ (ec N)) Q E s:=by
 refine f5 (id a) λo y X D=>?_
 (refine f5 C λz g U L=>?_;refine fL L λK S=>?_)
 unfold rQ;refine fv (wpAny_attempt (Lp (name:=eE "__next__") a.typeIs XO
  (EJ XO a.typeIs entry_listiter_next ?_ (args_listiter_next _))))
 show fi _ _ (field (ec N) 0>>=_) _ _ s;refine fv (pU y D (x:=ec l) rfl ?_);show fi _ _ (if(ec l==ez)=eb then _ else _) _ _ s;rw[if_neg (show¬((ec l==ez)=eb) from Wh)];show fi _ _ (field (ec N) 1>>=_) _ _ s;refine fv (pU y D (x:=ej i 0) rfl ?_);show fi _ _ (seqItems? (ec l)>>=_) _ _ s;refine fv (EL g S ?_);simp only[DJ,c];refine fv (wpAny_rule (fv (EM y D (by simp) ?_)));show fi _ _ (newExc (eK "StopIteration") []>>=_) _ _ _;refine fv ?_;simp only[newExc,newTuple];refine fv (A9 ?_ (by size_fits));refine fv (m:=firstArgMember _ _) (wpAny_of_eq (a:=ez) (by first|rfl|(simp only[firstArgMember];rfl)) ?_);refine A9 ?_ (by size_fits);have R:(s.heap.update N (uT (·.setIfInBounds 0 ez))).get? e=d9 p:=(xQ _ _ (gM Y)).trans n;refine S6 (e:=e) B ?_ (hY _ (hY _ R)) M I (jf _ rfl) rfl (by simp;lia) ?_
 ·exact rJ (ty (hY _ R))
 refine fv (XV (T:="StopIteration") (b:=eb) (ey _ (xR _ (jf _ rfl) rfl) rfl) isSubtype_stop ?_);refine iA (O _ λb q j G=>?_);have:=((K4 s.heap N (uT (·.setIfInBounds 0 ez))).extBut.push { cls:=eK "tuple",data:=kR ([]:List ed).toArray }) b q j G;refine(xQ _ _ ?_).trans (hY _ this);exact uL (ty this)
end
end
section
variable{c:Cx}{V:eJ}{H:AH}
def kK(A:j0)(H:AH):Prop:=A.handled=eh∨∃e p J,A.handled=d9 (ec e)∧H e=d9 (.c p)∧p.data=fB J∧J[2]? =d9 ez
theorem kK.b{A:j0}{M:AH}(h:kK A H)(z:∀d o,H d=d9 (.c o)->M d=d9 (.c o)):kK A M:=h.imp id λY=>qr Y λc p J K I W=>⟨c,p,J,K,z _ _ I,W⟩
theorem kK.a{A:j0}(h:A.handled=eh):kK A H:=eH h
theorem SY{af:lJ}{w:jI}{A:j0}{l N:et}{J:List ed}{x:String}{z:fE}:
  qa af w A (gk (eE x) z) [x] (ec N) J.length (λi V=>ic V x (J.getD i ez)) (λH=>H l=d9 (.a J)∧kK A H) [N] (CG l N) where
 e:=by rintro i c ⟨o,rfl,_⟩ q G;simp at G;simp[G]
 d:=by
  rintro t rfl rfl rfl i c V H E s h W S;exact XX (sW h S) ⟨rfl,S⟩
 b:=by
  rintro t rfl rfl rfl Q C P i c V H E s D h ⟨W,B⟩ S;refine S.b.e W λF ae L T=>?_;refine rv T (jF D) λy hy ac=>?_;refine X0 (sW h S) (iU L) hy λu a j=>?_;refine f5 a λX m k2 k3=>?_;refine(ey y rfl (iA (tM ?_)))
  (refine f5 h λo R K I=>?_;(clear h;obtain rfl:=R))
  have r:St (gO t [(N,X)]) V H { s with heap:=u }:=S.f (n:=s.toks) (by simpa using P N (by simp)) (λb x g e=>(j.2 b (λq=>g (N,o) (by simp) q.symm)).trans e)
   (by intro q G;simp only[gR] at G;rw[G];exact⟨m,eH ⟨o,by simp⟩⟩)
  refine fc (oU (c:=gO t [(N,X)]) (Q:=λv M=>v=ic V x (J.getD i ez)∧M=H) Q.k (C x (by simp)) ⟨rfl,rfl⟩ _ _ y r ?_) (λU ag G=>?_) λU U x=>x
  ·rw[ac,lE,jF D];rfl
  ·(refine fT G λv M aa O p=>?_;obtain rfl:=O;(clear W B S r G;obtain rfl:=p))
   exact(ey _ (fQ X rfl k2 (by simpa using k3)) aa)
 c:=by
  rintro t rfl rfl rfl P c V H E s h ⟨W,B⟩ S;refine S.b.e W λF ae L T=>?_;have D:F[J.length]? =none:=by rw(occs:=eO) [Ay,kg T];exact ig _
  have k:∀u,Xy N s.heap u->(eh:Option ed)=eh∧St t V H { s with heap:=u }:=λu j=>by
   (refine f5 h λo d K I=>?_;(clear h;obtain rfl:=d))
   exact⟨rfl,(S.f (v:=[]) (n:=s.toks) (by simpa using P N (by simp)) (λb x g e=>j b x (λq=>g (N,o) (by simp) q.symm) e) (by simp)).j⟩
  rcases B with B|⟨e,oe,aj,R,O,p,d⟩
  ·exact XZ B (sW h S) (iU L) D k
  ·(refine S.b.d e _ O λf r1 Z=>?_;obtain rfl:=Z)
   have Y:e≠N:=λq=>by
    (refine eR h λo n U=>?_;(clear h;obtain rfl:=n))
    have:=(S.d N o (eH (by simp))).2.2.2.2;rw[←q,O] at this;exact iX this
   exact Rb R r1 p d Y (sW h S) (iU L) D k
theorem Ox{w:eP}{x:String}{z:fE}{Q:Nat->(Nat->eJ->eJ)->(AH->Prop)->AH->Prop}
  (h:TE c w V H (λv Z=>∃l J,v=ec l∧Z l=d9 (.a J)∧kK c.b Z∧Q J.length (λi V=>ic V x (J.getD i ez)) (λH=>H l=d9 (.a J)∧kK c.b H) Z)):
  j8 c w (gk (eE x) z) [x] V H Q:=λE s S=>by
 refine fc (h E s S) (λv g G=>?_) λU U x=>x;obtain⟨Z,m,l,J,N,C,B,G⟩ :=G;obtain rfl:=gX N;obtain⟨F,n,L,T⟩ :=m.b.i C;refine yd (iU L) ?_;have O:g.heap.get? g.heap.objs.size=none:=kA (ig _);have I:=m.h O;obtain⟨W,q⟩ :=m.r (d:=g.heap.objs.size) (X:=.c { cls:=eK "list_iterator",data:=fB #[ec l,ej 0 0] }) (u:=g.heap.push _) (k:=g.toks) O
  (λb o e=>hY _ e) (jf _ rfl) rfl
 exact⟨_,_,_,([g.heap.objs.size]),_,([(g.heap.objs.size,_)]),Z,SY,(fQ _ rfl rfl rfl),(by simpa using⟨I.b,_,jf _ rfl⟩),(q.u W),⟨C,B⟩,G⟩
theorem St.K{g:fH}{s:eZ}(d:fo c=[])(T:uX (fo c) c.f g)(S:St (cg c g) V H s):St c V H s:=by
 have C:∀b o,c.f.get? b=d9 o->g.get? b=d9 o:=λb o e=>T.other b o e (by rw[d];simp);have v:∀b,g.get? b=eh->c.f.get? b=none:=λb e=>by
  cases G:c.f.get? b with
  |none=>rfl
  |some o=>have:=C b o G;rw[e] at this;exact nS this
 obtain⟨⟨m,F,Y⟩,R,P,B,N⟩ :=S;have A:Fr c.f c.h s.heap m:=⟨F.ns,λb o e=>F.keep b o (C b o e),by rw[←T.size];exact F.above⟩;refine⟨(ey m A ?_),⟨R.f,λa o h=>⟨(R.b a o h).1,v _ (R.b a o h).2⟩⟩,λa o h=>?_,B,N⟩
 ·cases i:c.i with
  |none=>
   rw[show(cg c g).i=eh from i] at Y;exact Y
  |some f=>
   rw[show(cg c g).i=d9 f from i] at Y
   (refine kD Y λK Q I L=>?_;refine i8 L λW O J U=>?_)
   exact⟨K,Q,I,W,O,v _ J,U⟩
 ·refine mf (P a o h) λD j p n t=>?_
  exact⟨D,j,p,v _ n,t⟩
noncomputable def rm(c:Cx)(e:et):Cx:={ c with b:=c.b.mark (d9 (ec e)) }
theorem Cx.d.n(O:c.d){e:et}:(rm c e).d:=⟨O.g,O.a,O.d,O.e,O.f,O.h,O.b,O.i,O.j⟩
theorem LQ{e:et}{p:fM}{J:Array ed}(K:H e=d9 (.c p))(I:p.data=fB J)(W:J[2]? =d9 ez):kK (rm c e).b H:=eI (pj e p J rfl K I W)
theorem Na{C N W:et}{x:ft}{np aj y:fE}{t:fG}{B b:List fG}{Q:gr->eJ->AH->Prop}{X:eJ->et->AH->Prop}(O:c.d)(i:c.i=eh)(ae:c.a=c.n)(d:fo c=[])(z:c.e.In c.m)(TB:rK c.p (rM c.p []) c.r c.s c.m)
  (n:oV c.e C N W) (w:jg c.e j4 x=d9 (d9 (ec C))) (Z:c.a.kindOf x=d9 eY) (D:(x==("__debug__":ft))=em) (u:∀a o,¬c.j a o)
  (j:sf c B V H Q X) (aa:∀l v M,X l v M->v=C)
  (k:∀l M e p J,X l C M->M e=eh->p.data=fB J->J[2]? =d9 ez->TS (rm c e) (t::b) l (eQ M e (.c p)) Q):
  T1 c (uW B [uS (d9 (gk x np)) eh (t::b) aj] [] [] y) V H Q:=λak aq S=>by
 refine J7 (X:=X) O i ae z TB n w Z D S ?_ aa ?_
 ·refineλh P R hE=>fc (j h P R hE) (λf g G=>?_) λU U x=>x
  refine iH G λl M F A=>?_;exact(ib l M F (λf' s3 hf ag=>(ib l M ag (hf▸A))))
 ·intro l M e T P p J ac m hO K I R h
  refine fe (St.F (c:=cg c T) R (λo=>u e o)) λY q=>?_;have q:=q.K d m;have E:St (rm c e) l (eQ M e (.c p)) P:=⟨q.e,⟨q.b.f,q.b.b⟩,q.d,q.n,q.l⟩;refine fc (k l M e p J ac Y K I h P E) (λf g G=>?_) λU U x=>x;refine iH G λs L r af=>?_;exact(ib s L ⟨r.e,⟨r.b.f,r.b.b⟩,r.d,r.n,r.l⟩ af)
end
section
noncomputable abbrev pw:=Xj
noncomputable abbrev ei(x:String):Str:=eE x
noncomputable abbrev de(P:iE)(x:String)(t:Tok)(v:ed):DictEntry:=⟨K8 P (eE x),eC (eE x) t,v⟩
noncomputable def gH:Stmt:=.Pass fU
def eS(i:Nat):Stmt:=pw.main.body.getD i gH
def fW(i j:Nat):Stmt:=match eS i with|.ClassDef _ _ _ b _ _ _ _ _ _ _=>b.getD j gH|_=>gH
noncomputable def qi:fG->AU|K9 _ a _ _ _ _ _ _ _ _=>a|_=>fU
noncomputable def fj:fG->List fG|K9 _ _ b _ _ _ _ _ _ _=>b|_=>[]
noncomputable def fD:fG->jG|K9 _ _ _ _ _ _ L _ _ _=>L|_=>fU
abbrev gQ(u:fG)(n q:ft)(T E s:ed):Data:=xL (lK n q (qi u) (fj u) (fD u) T ez ez E eh s ez)
def KK(P:iE):Frag:=[
 (3,⟨(eK "dict"),eh,(oQ (D7 [de P "__name__" 165 (eC (ei "law_ok0064_01") 676),de P "__doc__" 166 ez,de P "__package__" 167 ez,de P "__loader__" 168 (iP "__main__.__loader__#opaque"),de P "__spec__" 169 ez,de P "__annotations__" 170 (ec 6),de P "__builtins__" 171 (ec 4),de P "__file__" 173 (eC (ei "/claim/cut.py") 172),de P "__cached__" 174 ez,de P "_wall" 193 (ec 21),de P "LispSignal" 226 (ec 38),de P "LEAF" 230 (ej (0) 229),de P "COLUMN" 232 (ej (1) 231),de P "ROW" 234 (ej (2) 233),de P "WIDTH" 236 (ej (0) 235),de P "HEIGHT" 238 (ej (1) 237),de P "Window" 324 (ec 93),de P "WindowTree" 426 (ec 164),de P "along" 433 (ec 175),de P "sort_along" 440 (ec 182),de P "leaves_under" 451 (ec 189),de P "leaves" 458 (ec 196),de P "windows_under" 469 (ec 203),de P "replace_child" 480 (ec 210),de P "forget" 489 (ec 217),de P "least_size" 497 (ec 222),de P "shares" 503 (ec 227),de P "set_tree_size" 509 (ec 232),de P "set_places" 522 (ec 239),de P "resize_frame" 531 (ec 246),de P "wrong_window" 544 (ec 253),de P "tree_error" 555 (ec 260),de P "node_of" 563 (ec 265),de P "configuration" 571 (ec 272),de P "split_parts" 586 (ec 279),de P "combined" 597 (ec 286),de P "split" 615 (ec 293),de P "joined" 627 (ec 300),de P "lifted" 637 (ec 307),de P "most_recent" 647 (ec 314),de P "delete_window" 662 (ec 321),de P "delete_others" 675 (ec 328),de P "_law_draw" 685 (ec 335),de P "_law_least" 691 (ec 340),de P "_law_is_shared" 697 (ec 345),de P "_law_built" 711 (ec 352),de P "_law_is_gone" 717 (ec 357),de P "law" 723 (ec 362)]) 48),#[]⟩),
 (20,⟨(eK "code"),eh,(fB #[(eC (ei "_wall") 187),(eC (ei "_wall") 188),(eC (ei "/claim/cut.py") 189),(ej (1) 0),(ej (1) 0),(ej (0) 0),(ej (0) 0),(ej (3) 0),(ec 15),(fF eb),(ej (181) 0),(ec 16),ez,(ec 17),(ec 18),(ec 19),(ej (191) 0),(ej (1) 0),(eC (ei "/claim/cut.py") 192)]),#[]⟩),
 (21,⟨(eK "function"),eh,(gQ (eS 0) (ei "_wall") (ei "_wall") ez (eC (ei "__main__") 164) (ec 20)),#[]⟩),
 (27,⟨(eK "code"),eh,(fB #[(eC (ei "LispSignal") 198),(eC (ei "LispSignal") 199),(eC (ei "/claim/cut.py") 200),(ej (5) 0),(ej (0) 0),(ej (0) 0),(ej (0) 0),(ej (0) 0),(ec 25),(fF em),(ej (181) 0),(ec 26),ez,ez,ez,ez,(ej (201) 0),(ej (5) 0),(eC (ei "/claim/cut.py") 202)]),#[]⟩),
 (34,⟨(eK "code"),eh,(fB #[(eC (ei "__init__") 208),(eC (ei "LispSignal.__init__") 209),(eC (ei "/claim/cut.py") 210),(ej (7) 0),(ej (3) 0),(ej (0) 0),(ej (0) 0),(ej (3) 0),(ec 29),(fF eb),(ej (181) 0),(ec 30),ez,(ec 31),(ec 32),(ec 33),(ej (214) 0),(ej (7) 0),(eC (ei "/claim/cut.py") 215)]),#[]⟩),
 (35,⟨(eK "function"),eh,(gQ (fW 2 0) (ei "__init__") (ei "LispSignal.__init__") ez (eC (ei "emacs.errors") 194) (ec 34)),#[]⟩),
 (37,⟨(eK "dict"),eh,(oQ (D7 [de P "__module__" 203 (eC (ei "emacs.errors") 194),de P "__firstlineno__" 207 (ej (5) 206),de P "__init__" 216 (ec 35),de P "__static_attributes__" 219 (ec 36),de P "__weakref__" 221 (ec 39),de P "__doc__" 222 ez]) 3),#[]⟩),
 (38,⟨(eK "type"),eh,(.cls ⟨(ei "LispSignal"),[(eK "Exception")],[(ec 38),(eK "Exception"),(eK "BaseException"),(eK "object")],37,(ei "LispSignal"),eb,[],[],em,eh,em⟩),#[(d9 (ec 22)),eh,(d9 (eC (ei "LispSignal") 196)),(d9 (eC (ei "LispSignal") 204)),(d9 (iP "Exception.__new__")),(d9 (fF eb))]⟩),
 (47,⟨(eK "code"),eh,(fB #[(eC (ei "Window") 241),(eC (ei "Window") 242),(eC (ei "/claim/cut.py") 243),(ej (16) 0),(ej (0) 0),(ej (0) 0),(ej (0) 0),(ej (0) 0),(ec 45),(fF em),(ej (181) 0),(ec 46),ez,ez,ez,ez,(ej (244) 0),(ej (16) 0),(eC (ei "/claim/cut.py") 245)]),#[]⟩),
 (54,⟨(eK "code"),eh,(fB #[(eC (ei "__init__") 251),(eC (ei "Window.__init__") 252),(eC (ei "/claim/cut.py") 253),(ej (18) 0),(ej (4) 0),(ej (0) 0),(ej (0) 0),(ej (3) 0),(ec 49),(fF eb),(ej (181) 0),(ec 50),ez,(ec 51),(ec 52),(ec 53),(ej (258) 0),(ej (18) 0),(eC (ei "/claim/cut.py") 259)]),#[]⟩),
 (55,⟨(eK "function"),eh,(gQ (fW 9 0) (ei "__init__") (ei "Window.__init__") ez (eC (ei "emacs.windows") 227) (ec 54)),#[]⟩),
 (61,⟨(eK "code"),eh,(fB #[(eC (ei "size") 261),(eC (ei "Window.size") 262),(eC (ei "/claim/cut.py") 263),(ej (36) 0),(ej (2) 0),(ej (0) 0),(ej (0) 0),(ej (3) 0),(ec 56),(fF eb),(ej (181) 0),(ec 57),ez,(ec 58),(ec 59),(ec 60),(ej (266) 0),(ej (36) 0),(eC (ei "/claim/cut.py") 267)]),#[]⟩),
 (62,⟨(eK "function"),eh,(gQ (fW 9 1) (ei "size") (ei "Window.size") ez (eC (ei "emacs.windows") 227) (ec 61)),#[]⟩),
 (68,⟨(eK "code"),eh,(fB #[(eC (ei "set_size") 269),(eC (ei "Window.set_size") 270),(eC (ei "/claim/cut.py") 271),(ej (39) 0),(ej (3) 0),(ej (0) 0),(ej (0) 0),(ej (3) 0),(ec 63),(fF eb),(ej (181) 0),(ec 64),ez,(ec 65),(ec 66),(ec 67),(ej (275) 0),(ej (39) 0),(eC (ei "/claim/cut.py") 276)]),#[]⟩),
 (69,⟨(eK "function"),eh,(gQ (fW 9 2) (ei "set_size") (ei "Window.set_size") ez (eC (ei "emacs.windows") 227) (ec 68)),#[]⟩),
 (75,⟨(eK "code"),eh,(fB #[(eC (ei "place") 278),(eC (ei "Window.place") 279),(eC (ei "/claim/cut.py") 280),(ej (45) 0),(ej (2) 0),(ej (0) 0),(ej (0) 0),(ej (3) 0),(ec 70),(fF eb),(ej (181) 0),(ec 71),ez,(ec 72),(ec 73),(ec 74),(ej (283) 0),(ej (45) 0),(eC (ei "/claim/cut.py") 284)]),#[]⟩),
 (76,⟨(eK "function"),eh,(gQ (fW 9 3) (ei "place") (ei "Window.place") ez (eC (ei "emacs.windows") 227) (ec 75)),#[]⟩),
 (82,⟨(eK "code"),eh,(fB #[(eC (ei "shown") 286),(eC (ei "Window.shown") 287),(eC (ei "/claim/cut.py") 288),(ej (48) 0),(ej (1) 0),(ej (0) 0),(ej (0) 0),(ej (3) 0),(ec 77),(fF eb),(ej (181) 0),(ec 78),ez,(ec 79),(ec 80),(ec 81),(ej (290) 0),(ej (48) 0),(eC (ei "/claim/cut.py") 291)]),#[]⟩),
 (83,⟨(eK "function"),eh,(gQ (fW 9 4) (ei "shown") (ei "Window.shown") ez (eC (ei "emacs.windows") 227) (ec 82)),#[]⟩),
 (89,⟨(eK "code"),eh,(fB #[(eC (ei "show") 293),(eC (ei "Window.show") 294),(eC (ei "/claim/cut.py") 295),(ej (51) 0),(ej (2) 0),(ej (0) 0),(ej (0) 0),(ej (3) 0),(ec 84),(fF eb),(ej (181) 0),(ec 85),ez,(ec 86),(ec 87),(ec 88),(ej (298) 0),(ej (51) 0),(eC (ei "/claim/cut.py") 299)]),#[]⟩),
 (90,⟨(eK "function"),eh,(gQ (fW 9 5) (ei "show") (ei "Window.show") ez (eC (ei "emacs.windows") 227) (ec 89)),#[]⟩),
 (92,⟨(eK "dict"),eh,(oQ (D7 [de P "__module__" 246 (eC (ei "emacs.windows") 227),de P "__firstlineno__" 250 (ej (16) 249),de P "__init__" 260 (ec 55),de P "size" 268 (ec 62),de P "set_size" 277 (ec 69),de P "place" 285 (ec 76),de P "shown" 292 (ec 83),de P "show" 300 (ec 90),de P "__static_attributes__" 317 (ec 91),de P "__dict__" 319 (ec 94),de P "__weakref__" 321 (ec 95),de P "__doc__" 322 ez]) 4),#[]⟩),
 (93,⟨(eK "type"),eh,(.cls ⟨(ei "Window"),[(eK "object")],[(ec 93),(eK "object")],92,(ei "Window"),eb,[],[],em,eh,em⟩),#[eh,eh,(d9 (eC (ei "Window") 239)),(d9 (eC (ei "Window") 247)),(d9 (iP "object.__new__")),(d9 (fF eb))]⟩),
 (103,⟨(eK "code"),eh,(fB #[(eC (ei "WindowTree") 327),(eC (ei "WindowTree") 328),(eC (ei "/claim/cut.py") 329),(ej (53) 0),(ej (0) 0),(ej (0) 0),(ej (0) 0),(ej (0) 0),(ec 101),(fF em),(ej (181) 0),(ec 102),ez,ez,ez,ez,(ej (330) 0),(ej (53) 0),(eC (ei "/claim/cut.py") 331)]),#[]⟩),
 (105,⟨(eK "tuple"),eh,(kR #[(ej (10) 337),(ej (4) 338)] 0),#[]⟩),
 (111,⟨(eK "code"),eh,(fB #[(eC (ei "__init__") 339),(eC (ei "WindowTree.__init__") 340),(eC (ei "/claim/cut.py") 341),(ej (55) 0),(ej (6) 0),(ej (0) 0),(ej (0) 0),(ej (3) 0),(ec 106),(fF eb),(ej (181) 0),(ec 107),ez,(ec 108),(ec 109),(ec 110),(ej (349) 0),(ej (55) 0),(eC (ei "/claim/cut.py") 350)]),#[]⟩),
 (112,⟨(eK "function"),eh,(gQ (fW 10 0) (ei "__init__") (ei "WindowTree.__init__") (ec 105) (eC (ei "emacs.windows") 227) (ec 111)),#[]⟩),
 (118,⟨(eK "code"),eh,(fB #[(eC (ei "fresh") 352),(eC (ei "WindowTree.fresh") 353),(eC (ei "/claim/cut.py") 354),(ej (69) 0),(ej (3) 0),(ej (0) 0),(ej (0) 0),(ej (3) 0),(ec 113),(fF eb),(ej (181) 0),(ec 114),ez,(ec 115),(ec 116),(ec 117),(ej (359) 0),(ej (69) 0),(eC (ei "/claim/cut.py") 360)]),#[]⟩),
 (119,⟨(eK "function"),eh,(gQ (fW 10 1) (ei "fresh") (ei "WindowTree.fresh") ez (eC (ei "emacs.windows") 227) (ec 118)),#[]⟩),
 (125,⟨(eK "code"),eh,(fB #[(eC (ei "window") 362),(eC (ei "WindowTree.window") 363),(eC (ei "/claim/cut.py") 364),(ej (75) 0),(ej (2) 0),(ej (0) 0),(ej (0) 0),(ej (3) 0),(ec 120),(fF eb),(ej (181) 0),(ec 121),ez,(ec 122),(ec 123),(ec 124),(ej (368) 0),(ej (75) 0),(eC (ei "/claim/cut.py") 369)]),#[]⟩),
 (126,⟨(eK "function"),eh,(gQ (fW 10 2) (ei "window") (ei "WindowTree.window") ez (eC (ei "emacs.windows") 227) (ec 125)),#[]⟩),
 (132,⟨(eK "code"),eh,(fB #[(eC (ei "leaf") 371),(eC (ei "WindowTree.leaf") 372),(eC (ei "/claim/cut.py") 373),(ej (81) 0),(ej (2) 0),(ej (0) 0),(ej (0) 0),(ej (3) 0),(ec 127),(fF eb),(ej (181) 0),(ec 128),ez,(ec 129),(ec 130),(ec 131),(ej (377) 0),(ej (81) 0),(eC (ei "/claim/cut.py") 378)]),#[]⟩),
 (133,⟨(eK "function"),eh,(gQ (fW 10 3) (ei "leaf") (ei "WindowTree.leaf") ez (eC (ei "emacs.windows") 227) (ec 132)),#[]⟩),
 (139,⟨(eK "code"),eh,(fB #[(eC (ei "touch") 380),(eC (ei "WindowTree.touch") 381),(eC (ei "/claim/cut.py") 382),(ej (87) 0),(ej (2) 0),(ej (0) 0),(ej (0) 0),(ej (3) 0),(ec 134),(fF eb),(ej (181) 0),(ec 135),ez,(ec 136),(ec 137),(ec 138),(ej (385) 0),(ej (87) 0),(eC (ei "/claim/cut.py") 386)]),#[]⟩),
 (140,⟨(eK "function"),eh,(gQ (fW 10 4) (ei "touch") (ei "WindowTree.touch") ez (eC (ei "emacs.windows") 227) (ec 139)),#[]⟩),
 (146,⟨(eK "code"),eh,(fB #[(eC (ei "select") 388),(eC (ei "WindowTree.select") 389),(eC (ei "/claim/cut.py") 390),(ej (91) 0),(ej (2) 0),(ej (0) 0),(ej (0) 0),(ej (3) 0),(ec 141),(fF eb),(ej (181) 0),(ec 142),ez,(ec 143),(ec 144),(ec 145),(ej (393) 0),(ej (91) 0),(eC (ei "/claim/cut.py") 394)]),#[]⟩),
 (147,⟨(eK "function"),eh,(gQ (fW 10 5) (ei "select") (ei "WindowTree.select") ez (eC (ei "emacs.windows") 227) (ec 146)),#[]⟩),
 (153,⟨(eK "code"),eh,(fB #[(eC (ei "least_leaf") 396),(eC (ei "WindowTree.least_leaf") 397),(eC (ei "/claim/cut.py") 398),(ej (95) 0),(ej (2) 0),(ej (0) 0),(ej (0) 0),(ej (3) 0),(ec 148),(fF eb),(ej (181) 0),(ec 149),ez,(ec 150),(ec 151),(ec 152),(ej (401) 0),(ej (95) 0),(eC (ei "/claim/cut.py") 402)]),#[]⟩),
 (154,⟨(eK "function"),eh,(gQ (fW 10 6) (ei "least_leaf") (ei "WindowTree.least_leaf") ez (eC (ei "emacs.windows") 227) (ec 153)),#[]⟩),
 (160,⟨(eK "code"),eh,(fB #[(eC (ei "frame_size") 404),(eC (ei "WindowTree.frame_size") 405),(eC (ei "/claim/cut.py") 406),(ej (98) 0),(ej (2) 0),(ej (0) 0),(ej (0) 0),(ej (3) 0),(ec 155),(fF eb),(ej (181) 0),(ec 156),ez,(ec 157),(ec 158),(ec 159),(ej (409) 0),(ej (98) 0),(eC (ei "/claim/cut.py") 410)]),#[]⟩),
 (161,⟨(eK "function"),eh,(gQ (fW 10 7) (ei "frame_size") (ei "WindowTree.frame_size") ez (eC (ei "emacs.windows") 227) (ec 160)),#[]⟩),
 (163,⟨(eK "dict"),eh,(oQ (D7 [de P "__module__" 332 (eC (ei "emacs.windows") 227),de P "__firstlineno__" 336 (ej (53) 335),de P "__init__" 351 (ec 112),de P "fresh" 361 (ec 119),de P "window" 370 (ec 126),de P "leaf" 379 (ec 133),de P "touch" 387 (ec 140),de P "select" 395 (ec 147),de P "least_leaf" 403 (ec 154),de P "frame_size" 411 (ec 161),de P "__static_attributes__" 419 (ec 162),de P "__dict__" 421 (ec 165),de P "__weakref__" 423 (ec 166),de P "__doc__" 424 ez]) 4),#[]⟩),
 (164,⟨(eK "type"),eh,(.cls ⟨(ei "WindowTree"),[(eK "object")],[(ec 164),(eK "object")],163,(ei "WindowTree"),eb,[],[],em,eh,em⟩),#[eh,eh,(d9 (eC (ei "WindowTree") 325)),(d9 (eC (ei "WindowTree") 333)),(d9 (iP "object.__new__")),(d9 (fF eb))]⟩),
 (174,⟨(eK "code"),eh,(fB #[(eC (ei "along") 427),(eC (ei "along") 428),(eC (ei "/claim/cut.py") 429),(ej (100) 0),(ej (1) 0),(ej (0) 0),(ej (0) 0),(ej (3) 0),(ec 169),(fF eb),(ej (181) 0),(ec 170),ez,(ec 171),(ec 172),(ec 173),(ej (431) 0),(ej (100) 0),(eC (ei "/claim/cut.py") 432)]),#[]⟩),
 (175,⟨(eK "function"),eh,(gQ (eS 11) (ei "along") (ei "along") ez (eC (ei "emacs.windows") 227) (ec 174)),#[]⟩),
 (181,⟨(eK "code"),eh,(fB #[(eC (ei "sort_along") 434),(eC (ei "sort_along") 435),(eC (ei "/claim/cut.py") 436),(ej (102) 0),(ej (1) 0),(ej (0) 0),(ej (0) 0),(ej (3) 0),(ec 176),(fF eb),(ej (181) 0),(ec 177),ez,(ec 178),(ec 179),(ec 180),(ej (438) 0),(ej (102) 0),(eC (ei "/claim/cut.py") 439)]),#[]⟩),
 (182,⟨(eK "function"),eh,(gQ (eS 12) (ei "sort_along") (ei "sort_along") ez (eC (ei "emacs.windows") 227) (ec 181)),#[]⟩),
 (188,⟨(eK "code"),eh,(fB #[(eC (ei "leaves_under") 441),(eC (ei "leaves_under") 442),(eC (ei "/claim/cut.py") 443),(ej (104) 0),(ej (2) 0),(ej (0) 0),(ej (0) 0),(ej (3) 0),(ec 183),(fF eb),(ej (181) 0),(ec 184),ez,(ec 185),(ec 186),(ec 187),(ej (449) 0),(ej (104) 0),(eC (ei "/claim/cut.py") 450)]),#[]⟩),
 (189,⟨(eK "function"),eh,(gQ (eS 13) (ei "leaves_under") (ei "leaves_under") ez (eC (ei "emacs.windows") 227) (ec 188)),#[]⟩),
 (195,⟨(eK "code"),eh,(fB #[(eC (ei "leaves") 452),(eC (ei "leaves") 453),(eC (ei "/claim/cut.py") 454),(ej (114) 0),(ej (1) 0),(ej (0) 0),(ej (0) 0),(ej (3) 0),(ec 190),(fF eb),(ej (181) 0),(ec 191),ez,(ec 192),(ec 193),(ec 194),(ej (456) 0),(ej (114) 0),(eC (ei "/claim/cut.py") 457)]),#[]⟩),
 (196,⟨(eK "function"),eh,(gQ (eS 14) (ei "leaves") (ei "leaves") ez (eC (ei "emacs.windows") 227) (ec 195)),#[]⟩),
 (202,⟨(eK "code"),eh,(fB #[(eC (ei "windows_under") 459),(eC (ei "windows_under") 460),(eC (ei "/claim/cut.py") 461),(ej (116) 0),(ej (2) 0),(ej (0) 0),(ej (0) 0),(ej (3) 0),(ec 197),(fF eb),(ej (181) 0),(ec 198),ez,(ec 199),(ec 200),(ec 201),(ej (467) 0),(ej (116) 0),(eC (ei "/claim/cut.py") 468)]),#[]⟩),
 (203,⟨(eK "function"),eh,(gQ (eS 15) (ei "windows_under") (ei "windows_under") ez (eC (ei "emacs.windows") 227) (ec 202)),#[]⟩),
 (209,⟨(eK "code"),eh,(fB #[(eC (ei "replace_child") 470),(eC (ei "replace_child") 471),(eC (ei "/claim/cut.py") 472),(ej (124) 0),(ej (3) 0),(ej (0) 0),(ej (0) 0),(ej (3) 0),(ec 204),(fF eb),(ej (181) 0),(ec 205),ez,(ec 206),(ec 207),(ec 208),(ej (478) 0),(ej (124) 0),(eC (ei "/claim/cut.py") 479)]),#[]⟩),
 (210,⟨(eK "function"),eh,(gQ (eS 16) (ei "replace_child") (ei "replace_child") ez (eC (ei "emacs.windows") 227) (ec 209)),#[]⟩),
 (216,⟨(eK "code"),eh,(fB #[(eC (ei "forget") 481),(eC (ei "forget") 482),(eC (ei "/claim/cut.py") 483),(ej (132) 0),(ej (2) 0),(ej (0) 0),(ej (0) 0),(ej (3) 0),(ec 211),(fF eb),(ej (181) 0),(ec 212),ez,(ec 213),(ec 214),(ec 215),(ej (487) 0),(ej (132) 0),(eC (ei "/claim/cut.py") 488)]),#[]⟩),
 (217,⟨(eK "function"),eh,(gQ (eS 17) (ei "forget") (ei "forget") ez (eC (ei "emacs.windows") 227) (ec 216)),#[]⟩),
 (221,⟨(eK "code"),eh,(fB #[(eC (ei "least_size") 492),(eC (ei "least_size") 493),(eC (ei "/claim/cut.py") 494),(ej (136) 0),(ej (3) 0),(ej (0) 0),(ej (0) 0),(ej (3) 0),(ec 218),(fF eb),(ej (181) 0),(ec 219),ez,ez,ez,(ec 220),(ej (495) 0),(ej (136) 0),(eC (ei "/claim/cut.py") 496)]),#[]⟩),
 (222,⟨(eK "function"),eh,(gQ (eS 19) (ei "least_size") (ei "least_size") ez (eC (ei "emacs.sizes") 490) (ec 221)),#[]⟩),
 (226,⟨(eK "code"),eh,(fB #[(eC (ei "shares") 498),(eC (ei "shares") 499),(eC (ei "/claim/cut.py") 500),(ej (147) 0),(ej (3) 0),(ej (0) 0),(ej (0) 0),(ej (3) 0),(ec 223),(fF eb),(ej (181) 0),(ec 224),ez,ez,ez,(ec 225),(ej (501) 0),(ej (147) 0),(eC (ei "/claim/cut.py") 502)]),#[]⟩),
 (227,⟨(eK "function"),eh,(gQ (eS 20) (ei "shares") (ei "shares") ez (eC (ei "emacs.sizes") 490) (ec 226)),#[]⟩),
 (231,⟨(eK "code"),eh,(fB #[(eC (ei "set_tree_size") 504),(eC (ei "set_tree_size") 505),(eC (ei "/claim/cut.py") 506),(ej (155) 0),(ej (4) 0),(ej (0) 0),(ej (0) 0),(ej (3) 0),(ec 228),(fF eb),(ej (181) 0),(ec 229),ez,ez,ez,(ec 230),(ej (507) 0),(ej (155) 0),(eC (ei "/claim/cut.py") 508)]),#[]⟩),
 (232,⟨(eK "function"),eh,(gQ (eS 21) (ei "set_tree_size") (ei "set_tree_size") ez (eC (ei "emacs.sizes") 490) (ec 231)),#[]⟩),
 (238,⟨(eK "code"),eh,(fB #[(eC (ei "set_places") 510),(eC (ei "set_places") 511),(eC (ei "/claim/cut.py") 512),(ej (170) 0),(ej (1) 0),(ej (0) 0),(ej (0) 0),(ej (3) 0),(ec 233),(fF eb),(ej (181) 0),(ec 234),ez,(ec 235),(ec 236),(ec 237),(ej (520) 0),(ej (170) 0),(eC (ei "/claim/cut.py") 521)]),#[]⟩),
 (239,⟨(eK "function"),eh,(gQ (eS 22) (ei "set_places") (ei "set_places") ez (eC (ei "emacs.sizes") 490) (ec 238)),#[]⟩),
 (245,⟨(eK "code"),eh,(fB #[(eC (ei "resize_frame") 523),(eC (ei "resize_frame") 524),(eC (ei "/claim/cut.py") 525),(ej (182) 0),(ej (3) 0),(ej (0) 0),(ej (0) 0),(ej (3) 0),(ec 240),(fF eb),(ej (181) 0),(ec 241),ez,(ec 242),(ec 243),(ec 244),(ej (529) 0),(ej (182) 0),(eC (ei "/claim/cut.py") 530)]),#[]⟩),
 (246,⟨(eK "function"),eh,(gQ (eS 23) (ei "resize_frame") (ei "resize_frame") ez (eC (ei "emacs.sizes") 490) (ec 245)),#[]⟩),
 (252,⟨(eK "code"),eh,(fB #[(eC (ei "wrong_window") 532),(eC (ei "wrong_window") 533),(eC (ei "/claim/cut.py") 534),(ej (188) 0),(ej (2) 0),(ej (0) 0),(ej (0) 0),(ej (3) 0),(ec 247),(fF eb),(ej (181) 0),(ec 248),ez,(ec 249),(ec 250),(ec 251),(ej (542) 0),(ej (188) 0),(eC (ei "/claim/cut.py") 543)]),#[]⟩),
 (253,⟨(eK "function"),eh,(gQ (eS 24) (ei "wrong_window") (ei "wrong_window") ez (eC (ei "emacs.sizes") 490) (ec 252)),#[]⟩),
 (259,⟨(eK "code"),eh,(fB #[(eC (ei "tree_error") 545),(eC (ei "tree_error") 546),(eC (ei "/claim/cut.py") 547),(ej (209) 0),(ej (1) 0),(ej (0) 0),(ej (0) 0),(ej (3) 0),(ec 254),(fF eb),(ej (181) 0),(ec 255),ez,(ec 256),(ec 257),(ec 258),(ej (553) 0),(ej (209) 0),(eC (ei "/claim/cut.py") 554)]),#[]⟩),
 (260,⟨(eK "function"),eh,(gQ (eS 25) (ei "tree_error") (ei "tree_error") ez (eC (ei "emacs.sizes") 490) (ec 259)),#[]⟩),
 (264,⟨(eK "code"),eh,(fB #[(eC (ei "node_of") 558),(eC (ei "node_of") 559),(eC (ei "/claim/cut.py") 560),(ej (222) 0),(ej (2) 0),(ej (0) 0),(ej (0) 0),(ej (3) 0),(ec 261),(fF eb),(ej (181) 0),(ec 262),ez,ez,ez,(ec 263),(ej (561) 0),(ej (222) 0),(eC (ei "/claim/cut.py") 562)]),#[]⟩),
 (265,⟨(eK "function"),eh,(gQ (eS 27) (ei "node_of") (ei "node_of") ez (eC (ei "emacs.configuration") 556) (ec 264)),#[]⟩),
 (271,⟨(eK "code"),eh,(fB #[(eC (ei "configuration") 564),(eC (ei "configuration") 565),(eC (ei "/claim/cut.py") 566),(ej (232) 0),(ej (1) 0),(ej (0) 0),(ej (0) 0),(ej (3) 0),(ec 266),(fF eb),(ej (181) 0),(ec 267),ez,(ec 268),(ec 269),(ec 270),(ej (569) 0),(ej (232) 0),(eC (ei "/claim/cut.py") 570)]),#[]⟩),
 (272,⟨(eK "function"),eh,(gQ (eS 28) (ei "configuration") (ei "configuration") ez (eC (ei "emacs.configuration") 556) (ec 271)),#[]⟩),
 (278,⟨(eK "code"),eh,(fB #[(eC (ei "split_parts") 574),(eC (ei "split_parts") 575),(eC (ei "/claim/cut.py") 576),(ej (236) 0),(ej (4) 0),(ej (0) 0),(ej (0) 0),(ej (3) 0),(ec 273),(fF eb),(ej (181) 0),(ec 274),ez,(ec 275),(ec 276),(ec 277),(ej (584) 0),(ej (236) 0),(eC (ei "/claim/cut.py") 585)]),#[]⟩),
 (279,⟨(eK "function"),eh,(gQ (eS 30) (ei "split_parts") (ei "split_parts") ez (eC (ei "emacs.splits") 572) (ec 278)),#[]⟩),
 (285,⟨(eK "code"),eh,(fB #[(eC (ei "combined") 587),(eC (ei "combined") 588),(eC (ei "/claim/cut.py") 589),(ej (246) 0),(ej (3) 0),(ej (0) 0),(ej (0) 0),(ej (3) 0),(ec 280),(fF eb),(ej (181) 0),(ec 281),ez,(ec 282),(ec 283),(ec 284),(ej (595) 0),(ej (246) 0),(eC (ei "/claim/cut.py") 596)]),#[]⟩),
 (286,⟨(eK "function"),eh,(gQ (eS 31) (ei "combined") (ei "combined") ez (eC (ei "emacs.splits") 572) (ec 285)),#[]⟩),
 (292,⟨(eK "code"),eh,(fB #[(eC (ei "split") 598),(eC (ei "split") 599),(eC (ei "/claim/cut.py") 600),(ej (256) 0),(ej (5) 0),(ej (0) 0),(ej (0) 0),(ej (3) 0),(ec 287),(fF eb),(ej (181) 0),(ec 288),ez,(ec 289),(ec 290),(ec 291),(ej (613) 0),(ej (256) 0),(eC (ei "/claim/cut.py") 614)]),#[]⟩),
 (293,⟨(eK "function"),eh,(gQ (eS 32) (ei "split") (ei "split") ez (eC (ei "emacs.splits") 572) (ec 292)),#[]⟩),
 (299,⟨(eK "code"),eh,(fB #[(eC (ei "joined") 616),(eC (ei "joined") 617),(eC (ei "/claim/cut.py") 618),(ej (273) 0),(ej (2) 0),(ej (0) 0),(ej (0) 0),(ej (3) 0),(ec 294),(fF eb),(ej (181) 0),(ec 295),ez,(ec 296),(ec 297),(ec 298),(ej (625) 0),(ej (273) 0),(eC (ei "/claim/cut.py") 626)]),#[]⟩),
 (300,⟨(eK "function"),eh,(gQ (eS 33) (ei "joined") (ei "joined") ez (eC (ei "emacs.splits") 572) (ec 299)),#[]⟩),
 (306,⟨(eK "code"),eh,(fB #[(eC (ei "lifted") 628),(eC (ei "lifted") 629),(eC (ei "/claim/cut.py") 630),(ej (286) 0),(ej (2) 0),(ej (0) 0),(ej (0) 0),(ej (3) 0),(ec 301),(fF eb),(ej (181) 0),(ec 302),ez,(ec 303),(ec 304),(ec 305),(ej (635) 0),(ej (286) 0),(eC (ei "/claim/cut.py") 636)]),#[]⟩),
 (307,⟨(eK "function"),eh,(gQ (eS 34) (ei "lifted") (ei "lifted") ez (eC (ei "emacs.splits") 572) (ec 306)),#[]⟩),
 (313,⟨(eK "code"),eh,(fB #[(eC (ei "most_recent") 638),(eC (ei "most_recent") 639),(eC (ei "/claim/cut.py") 640),(ej (296) 0),(ej (2) 0),(ej (0) 0),(ej (0) 0),(ej (3) 0),(ec 308),(fF eb),(ej (181) 0),(ec 309),ez,(ec 310),(ec 311),(ec 312),(ej (645) 0),(ej (296) 0),(eC (ei "/claim/cut.py") 646)]),#[]⟩),
 (314,⟨(eK "function"),eh,(gQ (eS 35) (ei "most_recent") (ei "most_recent") ez (eC (ei "emacs.splits") 572) (ec 313)),#[]⟩),
 (320,⟨(eK "code"),eh,(fB #[(eC (ei "delete_window") 648),(eC (ei "delete_window") 649),(eC (ei "/claim/cut.py") 650),(ej (302) 0),(ej (2) 0),(ej (0) 0),(ej (0) 0),(ej (3) 0),(ec 315),(fF eb),(ej (181) 0),(ec 316),ez,(ec 317),(ec 318),(ec 319),(ej (660) 0),(ej (302) 0),(eC (ei "/claim/cut.py") 661)]),#[]⟩),
 (321,⟨(eK "function"),eh,(gQ (eS 36) (ei "delete_window") (ei "delete_window") ez (eC (ei "emacs.splits") 572) (ec 320)),#[]⟩),
 (327,⟨(eK "code"),eh,(fB #[(eC (ei "delete_others") 663),(eC (ei "delete_others") 664),(eC (ei "/claim/cut.py") 665),(ej (318) 0),(ej (2) 0),(ej (0) 0),(ej (0) 0),(ej (3) 0),(ec 322),(fF eb),(ej (181) 0),(ec 323),ez,(ec 324),(ec 325),(ec 326),(ej (673) 0),(ej (318) 0),(eC (ei "/claim/cut.py") 674)]),#[]⟩),
 (328,⟨(eK "function"),eh,(gQ (eS 37) (ei "delete_others") (ei "delete_others") ez (eC (ei "emacs.splits") 572) (ec 327)),#[]⟩),
 (334,⟨(eK "code"),eh,(fB #[(eC (ei "_law_draw") 678),(eC (ei "_law_draw") 679),(eC (ei "/claim/cut.py") 680),(ej (331) 0),(ej (2) 0),(ej (0) 0),(ej (0) 0),(ej (3) 0),(ec 329),(fF eb),(ej (181) 0),(ec 330),ez,(ec 331),(ec 332),(ec 333),(ej (683) 0),(ej (331) 0),(eC (ei "/claim/cut.py") 684)]),#[]⟩),
 (335,⟨(eK "function"),eh,(gQ (eS 39) (ei "_law_draw") (ei "_law_draw") ez (eC (ei "law_ok0064_01") 676) (ec 334)),#[]⟩),
 (339,⟨(eK "code"),eh,(fB #[(eC (ei "_law_least") 686),(eC (ei "_law_least") 687),(eC (ei "/claim/cut.py") 688),(ej (336) 0),(ej (3) 0),(ej (0) 0),(ej (0) 0),(ej (3) 0),(ec 336),(fF eb),(ej (181) 0),(ec 337),ez,ez,ez,(ec 338),(ej (689) 0),(ej (336) 0),(eC (ei "/claim/cut.py") 690)]),#[]⟩),
 (340,⟨(eK "function"),eh,(gQ (eS 40) (ei "_law_least") (ei "_law_least") ez (eC (ei "law_ok0064_01") 676) (ec 339)),#[]⟩),
 (344,⟨(eK "code"),eh,(fB #[(eC (ei "_law_is_shared") 692),(eC (ei "_law_is_shared") 693),(eC (ei "/claim/cut.py") 694),(ej (342) 0),(ej (4) 0),(ej (0) 0),(ej (0) 0),(ej (3) 0),(ec 341),(fF eb),(ej (181) 0),(ec 342),ez,ez,ez,(ec 343),(ej (695) 0),(ej (342) 0),(eC (ei "/claim/cut.py") 696)]),#[]⟩),
 (345,⟨(eK "function"),eh,(gQ (eS 41) (ei "_law_is_shared") (ei "_law_is_shared") ez (eC (ei "law_ok0064_01") 676) (ec 344)),#[]⟩),
 (351,⟨(eK "code"),eh,(fB #[(eC (ei "_law_built") 698),(eC (ei "_law_built") 699),(eC (ei "/claim/cut.py") 700),(ej (362) 0),(ej (1) 0),(ej (0) 0),(ej (0) 0),(ej (3) 0),(ec 346),(fF eb),(ej (181) 0),(ec 347),ez,(ec 348),(ec 349),(ec 350),(ej (709) 0),(ej (362) 0),(eC (ei "/claim/cut.py") 710)]),#[]⟩),
 (352,⟨(eK "function"),eh,(gQ (eS 42) (ei "_law_built") (ei "_law_built") ez (eC (ei "law_ok0064_01") 676) (ec 351)),#[]⟩),
 (356,⟨(eK "code"),eh,(fB #[(eC (ei "_law_is_gone") 712),(eC (ei "_law_is_gone") 713),(eC (ei "/claim/cut.py") 714),(ej (377) 0),(ej (3) 0),(ej (0) 0),(ej (0) 0),(ej (3) 0),(ec 353),(fF eb),(ej (181) 0),(ec 354),ez,ez,ez,(ec 355),(ej (715) 0),(ej (377) 0),(eC (ei "/claim/cut.py") 716)]),#[]⟩),
 (357,⟨(eK "function"),eh,(gQ (eS 43) (ei "_law_is_gone") (ei "_law_is_gone") ez (eC (ei "law_ok0064_01") 676) (ec 356)),#[]⟩),
 (361,⟨(eK "code"),eh,(fB #[(eC (ei "law") 718),(eC (ei "law") 719),(eC (ei "/claim/cut.py") 720),(ej (396) 0),(ej (1) 0),(ej (0) 0),(ej (0) 0),(ej (3) 0),(ec 358),(fF eb),(ej (181) 0),(ec 359),ez,ez,ez,(ec 360),(ej (721) 0),(ej (396) 0),(eC (ei "/claim/cut.py") 722)]),#[]⟩),
 (362,⟨(eK "function"),eh,(gQ (eS 44) (ei "law") (ei "law") ez (eC (ei "law_ok0064_01") 676) (ec 361)),#[]⟩)]
noncomputable def KA:List Addr:=[3,20,21,27,34,35,37,38,47,54,55,61,62,68,69,75,76,82,83,89,90,92,93,103,105,111,112,118,119,125,126,132,133,139,140,146,147,153,154,160,161,163,164,174,175,181,182,188,189,195,196,202,203,209,210,216,217,221,222,226,227,231,232,238,239,245,246,252,253,259,260,264,265,271,272,278,279,285,286,292,293,299,300,306,307,313,314,320,321,327,328,334,335,339,340,344,345,351,352,356,357,361,362]
theorem OI(P:iE):KA=(KK P).map (·.1):=rfl
end
section
open PySem PySem.W PySem.W.X PyProof.Rows
noncomputable def qv:Program:=view Xj [0,2,4,5,6,7,8,9,10,11,12,13,14,15,16,17,19,20,21,22,23,24,25,27,28,30,31,32,33,34,35,36,37,39,40,41,42,43,44]
theorem Pn:opening pw=plainProg pw.main.scope.names:=by kernel_rfl
theorem Pp(s:eZ):fenceModules? pw s=d9 s:=by kernel_rfl
noncomputable def hk:Hook:=kHook KK KA (λP=>OI P)
noncomputable def z9(w:jI)(m:Nat)(x:Option ed):Nat->Eo->Thread->Option Eo
 |0,_,_=>eh
 |n+1,s,t=>match through t with
  |true=>d9 s
  |false=>match stepOk m x t with
   |false=>eh
   |true=>match stepT (denote EH) pw w s t with
    |some r=>z9 w m x n r.1 r.2
    |none=>eh
theorem U1{w:jI}{m:Nat}{x:Option ed}{n:Nat}{r:Eo}:∀{s:Eo} {t:Thread},z9 w m x n s t=d9 r->topRun EH pw w m x n s.abs t=d9 r.abs:=by
 induction n with
 |zero=>intro s t h;exact nS h
 |succ n D=>
  intro s t h;unfold z9 at h;unfold topRun;cases R:through t with
  |true=>rw[R] at h;obtain rfl:=eX h;rfl
  |false=>
   rw[R] at h;cases O:stepOk m x t with
   |false=>rw[O] at h;exact nS h
   |true=>
    rw[O] at h;cases p:stepT (denote EH) pw w s t with
    |none=>rw[p] at h;exact nS h
    |some r=>rw[p] at h;rw[stepT_spec p];exact D h
noncomputable def Gq:List fM->Nat->BT->BT
 |[],_,T=>T
 |o::l,i,T=>Gq l (i+1) (T.ins i o)
noncomputable def IK(w:jI)(L:uU):SharedT:=⟨Gq (mq w.params).objs.toList 0 .nil,(mq w.params).objs.size,(mq w.params).life,xu [],xV,A0,L⟩
theorem Tp(w:jI)(L:uU):(IK w L).abs=⟨mq w.params,xu [],xV,A0,L⟩ :=by kernel_rfl
theorem Va(w:jI)(L:uU):(z9 w (mq w.params).objs.size ((mq w.params).nsMap j4 "__annotations__") 5000 (IK w L) (topStub pw)).map (λt=>(Lc (A7 pw.main.body) (mq w.params) t.abs.heap&&Lb pw t.abs.heap&&gensDone t.abs&&laidKept (mq w.params) t.abs.heap,openSeen qv [] (A7 pw.main.body) (λs=>xlAt qv [] s&&recOk [] s) eb t.abs,hk.obs t.abs))=d9 (eb,openGood qv [],hk.val w):=by
 kernel_rfl
theorem RK(w:jI)(L:uU):((Ek ⟨mq w.params,xu [],xV,A0,L⟩).isNs j4&&(Shared.gens ⟨mq w.params,xu [],xV,A0,L⟩).size==0)=true:=by kernel_rfl
theorem U'(w:jI)(L:uU):(topFrom EH pw w 5000 ⟨mq w.params,xu [],xV,A0,L⟩).map (λs=>(openSeen qv [] (A7 pw.main.body) (λs=>xlAt qv [] s&&recOk [] s) eb s,hk.obs s))=d9 (openGood qv [],hk.val w):=by
 obtain⟨t,e,q⟩ :=uN.mp (Va w L);have r:=U1 e;rw(occs:=eO) [Tp] at r;have Y:(Lc (A7 pw.main.body) (mq w.params) t.abs.heap&&Lb pw t.abs.heap&&gensDone t.abs&&laidKept (mq w.params) t.abs.heap)=true:=congrArg kz q;unfold topFrom;rw(occs:=eO) [RK];show((topRun _ _ _ _ _ _ _ _).bind _).map _=_;rw(occs:=eO) [r];show(match(Lc (A7 pw.main.body) (mq w.params) t.abs.heap&&Lb pw t.abs.heap&&gensDone t.abs&&laidKept (mq w.params) t.abs.heap) with|true=>d9 t.abs|false=>eh).map _=_;rw(occs:=eO) [Y];exact congrArg (λx=>d9 x.2) q
theorem X3:LeftO pw qv [] (λs=>xlAt qv [] s&&recOk [] s) hk.obs hk.val 5000 true:=by
 intro w;obtain⟨⟨h,X,d,k,L⟩,e,G⟩ :=uN.mp (boot_open (p:=pw) (N:=5000) Pn (by decide) Pp w);obtain⟨rfl,rfl,rfl,rfl⟩ :h=mq w.params∧X=xu []∧d=xV∧k=boot_toks:=by simpa using G
 unfold openEnds;rw(occs:=eO) [e,Xb];exact U' w L
end
section
variable{c:Cx}{V:eJ}{H:AH}{P:iE}
noncomputable def qt(L:jG)(Y:List String):Bool:=Y.all (λx=>eU (L.names.lookup (eE x)=d9 eu))&&L.names.all (λx=>eU (x.2≠fK))&&!L.isCoroutine&&!L.isGenerator&&eU (L.kind=jH)
theorem RU{L:jG}{Y:List String}(h:qt L Y=eb):(∀x∈Y,L.names.lookup (eE x)=d9 eu)∧(∀x∈L.names,x.2≠fK)∧L.isCoroutine=em∧L.isGenerator=em∧L.kind=jH:=by
 unfold qt at h;simp only[uE,iC,decide_eq_true_eq,Bool.not_eq_true'] at h;exact⟨h.1.1.1.1,h.1.1.1.2,h.1.1.2,h.1.2,h.2⟩
theorem wO{L:jG}{Y:List String}(h:qt L Y=eb){G:Prop}(N:(∀x∈Y,L.names.lookup (eE x)=d9 eu)->(∀x∈L.names,x.2≠fK)->L.isCoroutine=em->L.isGenerator=em->L.kind=jH->G):G:=mf (RU h) N
def sH(Z:AW)(Y:List String):Prop:=∀J:List ed,J.length=Y.length->Ey Z ⟨J,[]⟩ =f9 ((Y.map eE).zip J)
theorem Bp{f s:et}{u:fG}{n q:ft}{E T:ed}{w:List ed}{Q:ed->AH->Prop}{k:Nat}(F:c.e=KK P)(O:c.d)(b:Lv c k)(Y:List String)
  (K:(KK P).lookup f=d9 ⟨eK "function",eh,gQ u n q T E (ec s),#[]⟩) (I:pR (KK P) (ec s) q=eb) (a:sH (lK n q (qi u) (fj u) (fD u) T ez ez E eh (ec s) ez) Y) (X:qt (fD u) Y=eb) (W:w.length=Y.length)
  (h:∀g L,(iM c g L (kS q (fD u) L f (ec s) [])).d->TS (iM c g L (kS q (fD u) L f (ec s) [])) (fj u) (iR Y w) H (λj U M=>Q (pC j) M)):lM c (ec f) w V H Q:=by
 refine wO X λp t z J R=>?_;exact E9 O (F▸K) (F▸I) b.g Y (λe d U N=>Ee (a d (N.trans W))) p t z J R h
theorem Q5{L:Type}{l:List L}{n:Nat}(h:l.length=n+1):∃a r,l=a::r∧r.length=n:=by
 cases l with
 |nil=>exact nZ h
 |cons a r=>exact(ib a r rfl (nA h))
theorem oy{L:Type}{l:List L}{n:Nat}(h:l.length=n+1){G:Prop}(N:∀a r,l=a::r->r.length=n->G):G:=iH (Q5 h) N
noncomputable def vh(Z:AW)(Y:List String):List String->List ed->Prop
 |[],J=>Ey Z ⟨J,[]⟩ =f9 ((Y.map eE).zip J)
 |_::r,J=>∀a,vh Z Y r (J++[a])
theorem vh.a{Z:AW}{Y:List String}{J:List ed}(h:Ey Z ⟨J,[]⟩ =f9 ((Y.map eE).zip J)):vh Z Y [] J:=h
theorem Lx{Z:AW}{Y:List String}{r:List String}:∀{J f:List ed},vh Z Y r J->f.length=r.length->Ey Z ⟨J++f,[]⟩ =f9 ((Y.map eE).zip (J++f)):=by
 induction r with
 |nil=>exactλh C=>by rw[oN.mp C,mL];exact h
 |cons x r D=>
  intro J f h C;cases f with
  |nil=>exact nZ C
  |cons a f=>rw(occs:=eO) [List.append_cons];exact D (h a) (nA C)
theorem ij{Z:AW}{Y:List String}(h:vh Z Y Y []):sH Z Y:=λU N=>Lx h N
theorem tU{x:String}{d:fE}{v:ed}{Q:ed->AH->Prop}(F:c.e=KK P)(O:c.d)(Z:c.a.kindOf (eE x)=d9 eY)
  (e:jg (KK P) j4 (eE x)=d9 (d9 v)) (h:Q (nv v) H) (D:(eE x==("__debug__":ft))=em):TE c (gk (eE x) d) V H Q:=N7 O Z (F▸e) h D
end
section
mutual
inductive eW where
 |a (i:Nat)
 |x (g:Nat)
 |d (i:Int)
 |F
 |I (b:Bool)
 |G (s:String)
 |c (e:eW) (f:Nat)
 |n (e i:eW)
 |H (e:eW)
 |p (o:qI) (l r:eW)
 |h (o:oP) (l r:eW)
 |M (e:eW)
 |K (e:eW)
 |D (o:BoolOp) (es:Es)
 |C (t b o:eW)
 |z (es:Es)
 |A (es:Es)
 |O
 |B (elt:eW) (tg:List Nat) (src:iF) (ifs:Es) (tbl:List (Nat×fX))
 |j (g:Nat) (es:Es)
 |v (o:eW) (m:Nat) (es:Es)
 |w (g:Nat) (e:eW)
 |J (o k:eW)
 |L (o k:eW)
inductive Es where
 |b
 |a (e:eW) (es:Es)
inductive iF where
 |a (e:eW)
 |b (x y:eW)
 |f (x y z:eW)
 |g (e:eW)
end
mutual
inductive js where
 |a (i:Nat) (e:eW)
 |l (sw:Bool) (is:List Nat) (e:eW)
 |y (is:List Nat) (x:Nat)
 |z (i t x:Nat)
 |d (o:eW) (f:Nat) (e:eW)
 |D (o:eW) (x:Nat)
 |s (i:Nat) (fs:List Nat) (e:eW)
 |n (x:Nat) (k e:eW)
 |m (x:Nat) (e:eW)
 |u (x:Nat) (e:eW)
 |A (x:Nat) (k e:eW)
 |B (o:Nat) (e:eW)
 |q (t:Nat) (e:eW)
 |h (e:eW)
 |c (t:eW) (b o:Ss)
 |w (t:eW) (b:Ss)
 |j (tg:List Nat) (src:iF) (b:Ss)
 |g (e:eW)
 |r (x:Nat)
 |F
 |p
inductive Ss where
 |b
 |a (s:js) (r:Ss)
end
end
section
noncomputable def wJ:List String:=["len","sum","max","sorted","abs","tuple","list","zip","enumerate","range","LEAF","COLUMN","ROW","WIDTH",
"HEIGHT","along","sort_along","leaves_under","leaves","windows_under","replace_child","forget","least_size",
"shares","set_tree_size","set_places","resize_frame","wrong_window","tree_error","node_of","configuration",
"split_parts","combined","split","joined","lifted","most_recent","delete_window","delete_others","_law_draw",
"_law_least","_law_is_shared","_law_built","_law_is_gone","LispSignal","WindowTree","Window","_wall",".0","k",
"self","symbol","data","number","sort","parent","axis","size","told","width","height","buffer",
"least_width","least_height","first","found","tree","waiting","here","old","new","children","own","child",
"total","weights","leasts","room","whole","rest","least","weight","at","much","spare","part","left","top",
"root","word","made","nodes","around","is_ahead","model","numbers","other","is_gone","deck","many","ahead",
"one","extra","used","lap","due","selected","script","wide","high","kept","is_enough","cell"]
noncomputable def lO:List String:=["number","sort","parent","children","left","top","width","height","buffer","start","point","hscroll",
"is_dedicated","use_time","earlier","later","windows","last","clock","least_width","least_height","root",
"selected","size","set_size","place","shown","show","fresh","window","leaf","touch","select","least_leaf"]
def nm(i:Nat):String:=wJ.getD i "?"
def gf(i:Nat):String:=lO.getD i "?"
noncomputable def kx:eP->List eP×Nat×List Comprehension
 |jM v _ _=>([v],0,[])|pN v i _=>([v,i],0,[])|.BinOp l _ r _=>([l,r],0,[])|Eg l _ L _=>(l::L,0,[])|xO _ x _=>([x],0,[])|.IfExp t b o _=>([t,b,o],0,[])
 |jr f w _ _=>(f::w,0,[])|pM e X _ _=>([e],0,X)|xN _ _ s _=>(s.toList,0,[])|AV w _=>(fU::w,0,[])|iD w k _=>(fU::w,k,[])|Ef _ w _=>(fU::w,0,[])|oR _ k _=>([],k,[])
 |_=>([],0,[])
def x1(x:eP):Expr:=(kx x).1.headD fU
def xl(x:eP):List Expr:=(kx x).1.tail
def x2(x:eP):Expr:=(xl x).headD fU
def x3(x:eP):Expr:=(xl x).tail.headD fU
def xk(x:eP):Nat:=(kx x).2.1
def xg(x:eP):Comprehension:=(kx x).2.2.headD fU
def jy(i:Nat)(x:eP):Expr:=gk (eE (nm i)) x.pos
noncomputable def jV:List Nat->List eP->List eP
 |[],_=>[]
 |i::m,z=>jy i (z.headD fU)::jV m z.tail
def xf:List Nat->eP->eP
 |[i],x=>jy i x
 |m,x=>iD (jV m (xl x)) (xk x) x.pos
def fN(Y:List (Nat×fX)):Scope:={ kind:=jH,names:=Y.map λp=>(eE (nm p.1),p.2),isGenerator:=em,isCoroutine:=em,more:=[] }
mutual
noncomputable def eW.u:eW->eP->eP
 |.a i,S=>jy i S
 |.x i,S=>jy i S
 |.d i,S=>oR (.int i) (xk S) S.pos
 |.F,S=>oR .none (xk S) S.pos
 |.I b,S=>oR (.bool b) (xk S) S.pos
 |.G s,S=>oR (.str (eE s)) (xk S) S.pos
 |.c e f,S=>jM (e.u (x1 S)) (eE (gf f)) S.pos
 |.n e i,S=>pN (e.u (x1 S)) (i.u (x2 S)) S.pos
 |.H e,S=>pN (e.u (x1 S)) (xN eh eh (d9 (xO .USub (oR (.int 1) (xk (x1 (x1 (x2 S)))) (x1 (x1 (x2 S))).pos) (x1 (x2 S)).pos)) (x2 S).pos) S.pos
 |.p o l r,S=>.BinOp (l.u (x1 S)) o (r.u (x2 S)) S.pos
 |.h o l r,S=>Eg (l.u (x1 S)) [o] [r.u (x2 S)] S.pos
 |.M e,S=>xO .Not (e.u (x1 S)) S.pos
 |.K e,S=>xO .USub (e.u (x1 S)) S.pos
 |.D o U,S=>Ef o (U.c (xl S)) S.pos
 |.C t b o,S=>.IfExp (t.u (x1 S)) (b.u (x2 S)) (o.u (x3 S)) S.pos
 |.z U,S=>AV (U.c (xl S)) S.pos
 |.A U,S=>iD (U.c (xl S)) (xk S) S.pos
 |.O,S=>.Dict [] [] S.pos
 |.B T W X V Y,S=>pM (T.u (x1 S)) [⟨xf W (xg S).target,X.i (xg S).iter,V.c (xg S).ifs,0⟩] (fN Y) S.pos
 |.j g U,S=>jr (jy g (x1 S)) (U.c (xl S)) [] S.pos
 |.v o m U,S=>jr (jM (o.u (x1 (x1 S))) (eE (gf m)) (x1 S).pos) (U.c (xl S)) [] S.pos
 |.w g e,S=>jr (jy g (x1 S)) [e.u ((xl S).headD fU)] [] S.pos
 |.J o k,S=>jr (jM (o.u (x1 (x1 S))) (eE "index") (x1 S).pos) [k.u ((xl S).headD fU)] [] S.pos
 |.L o k,S=>jr (jM (o.u (x1 (x1 S))) (eE "get") (x1 S).pos) [k.u ((xl S).headD fU),oR .none (xk ((xl S).tail.headD fU)) ((xl S).tail.headD fU).pos] [] S.pos
noncomputable def Es.c:Es->List eP->List eP
 |.b,_=>[]
 |.a e w,z=>e.u (z.headD fU)::w.c z.tail
noncomputable def iF.i:iF->eP->eP
 |.a e,x=>e.u x
 |.b e l,x=>jr (gk "zip" (x1 x).pos) [e.u ((xl x).headD fU),l.u ((xl x).tail.headD fU)] [] x.pos
 |.f e l m,x=>jr (gk "zip" (x1 x).pos) [e.u ((xl x).headD fU),l.u ((xl x).tail.headD fU),m.u ((xl x).tail.tail.headD fU)] [] x.pos
 |.g e,x=>jr (gk "enumerate" (x1 x).pos) [e.u ((xl x).headD fU)] [] x.pos
end
noncomputable def ks:fG->eP×eP×List fG×List fG
 |lm a v _=>(a.headD fU,v,[],[])|.For t e b _ _=>(t,e,b,[])|qJ v _=>(fU,v,[],[])|.If t b o _=>(fU,t,b,o)|.While t b _ _=>(fU,t,b,[])|xU v _=>(fU,v.getD fU,[],[])
 |_=>(fU,fU,[],[])
def sT(s:fG):Expr:=(ks s).1
def sE(s:fG):Expr:=(ks s).2.1
def sB(s:fG):List Stmt:=(ks s).2.2.1
def sO(s:fG):List Stmt:=(ks s).2.2.2
noncomputable def rg(i:Nat):List Nat->List eP->List eP
 |[],_=>[]
 |f::y,z=>jM (jy i (x1 (z.headD fU))) (eE (gf f)) (z.headD fU).pos::rg i y z.tail
def ul(i:Nat)(m:String)(w:List eP)(x:eP):Expr:=jr (jM (jy i (x1 (x1 x))) (eE m) (x1 x).pos) w [] x.pos
mutual
noncomputable def js.v:js->fG->fG
 |.a i e,E=>lm [jy i (sT E)] (e.u (sE E)) E.pos
 |.l _ I e,E=>lm [iD (jV I (xl (sT E))) (xk (sT E)) (sT E).pos] (e.u (sE E)) E.pos
 |.y I x,E=>lm [iD (jV I (xl (sT E))) (xk (sT E)) (sT E).pos] (ul x "pop" [] (sE E)) E.pos
 |.z i t x,E=>lm [jy i (sT E)] (pN (jM (jy t (x1 (x1 (sE E)))) (eE "windows") (x1 (sE E)).pos) (ul x "pop" [] (x2 (sE E))) (sE E).pos) E.pos
 |.d o f e,E=>lm [jM (o.u (x1 (sT E))) (eE (gf f)) (sT E).pos] (e.u (sE E)) E.pos
 |.D o x,E=>lm [jM (o.u (x1 (sT E))) (eE "children") (sT E).pos] (jy x (sE E)) E.pos
 |.s i J e,E=>lm [iD (rg i J (xl (sT E))) (xk (sT E)) (sT E).pos] (e.u (sE E)) E.pos
 |.n x k e,E=>lm [pN (jy x (x1 (sT E))) (k.u (x2 (sT E))) (sT E).pos] (e.u (sE E)) E.pos
 |.m x e,E=>qJ (ul x "append" [e.u ((xl (sE E)).headD fU)] (sE E)) E.pos
 |.u x e,E=>qJ (ul x "extend" [e.u ((xl (sE E)).headD fU)] (sE E)) E.pos
 |.A x k e,E=>qJ (ul x "insert" [k.u ((xl (sE E)).headD fU),e.u ((xl (sE E)).tail.headD fU)] (sE E)) E.pos
 |.B o e,E=>qJ (jr (jM (jM (jy o (x1 (x1 (x1 (sE E))))) (eE "children") (x1 (x1 (sE E))).pos) (eE "remove") (x1 (sE E)).pos) [e.u ((xl (sE E)).headD fU)] [] (sE E).pos) E.pos
 |.q t e,E=>qJ (jr (jM (jM (jy t (x1 (x1 (x1 (sE E))))) (eE "windows") (x1 (x1 (sE E))).pos) (eE "pop") (x1 (sE E)).pos) [e.u ((xl (sE E)).headD fU)] [] (sE E).pos) E.pos
 |.h e,E=>qJ (e.u (sE E)) E.pos
 |.c t b o,E=>.If (t.u (sE E)) (b.d (sB E)) (o.d (sO E)) E.pos
 |.w t b,E=>.While (t.u (sE E)) (b.d (sB E)) [] E.pos
 |.j W N b,E=>.For (xf W (sT E)) (N.i (sE E)) (b.d (sB E)) [] E.pos
 |.g e,E=>xU (d9 (e.u (sE E))) E.pos
 |.r x,E=>xU (d9 (jy x (sE E))) E.pos
 |.F,E=>xU eh E.pos
 |.p,E=>E
noncomputable def Ss.d:Ss->List fG->List fG
 |.b,_=>[]
 |.a s r,z=>s.v (z.headD gH)::r.d z.tail
end
noncomputable def Aa:List (Nat×fX):=[(50,eu),(53,eu),(54,eu),(55,eu)]
noncomputable def Pc:Ss:=.a (.d (.a 50) 0 (.a 53)) (.a (.d (.a 50) 1 (.a 54)) (.a (.d (.a 50) 2 (.a 55)) (.a (.d (.a 50) 3 (.z .b)) (.a (.d (.a 50) 4 (.d 0)) (.a (.d (.a 50) 5 (.d 0)) (.a (.d (.a 50) 6 (.d 0)) (.a (.d (.a 50) 7 (.d 0)) (.a (.d (.a 50) 8 (.d 0)) (.a (.d (.a 50) 9 (.d 1)) (.a (.d (.a 50) 10 (.d 1)) (.a (.d (.a 50) 11 (.d 0)) (.a (.d (.a 50) 12 (.I em)) (.a (.d (.a 50) 13 (.d 0)) (.a (.d (.a 50) 14 (.z .b)) (.a (.d (.a 50) 15 (.z .b)) .b)))))))))))))))
noncomputable def Jx:List (Nat×fX):=[(50,eu),(56,eu),(13,eY)]
noncomputable def sy:Ss:=.a (.g (.C (.h fZ (.a 56) (.x 13)) (.c (.a 50) 6) (.c (.a 50) 7))) .b
noncomputable def Ju:List (Nat×fX):=[(50,eu),(56,eu),(57,eu),(13,eY)]
noncomputable def su:Ss:=.a (.c (.h fZ (.a 56) (.x 13)) (.a (.d (.a 50) 6 (.a 57)) .b) (.a (.d (.a 50) 7 (.a 57)) .b)) .b
noncomputable def Jt:List (Nat×fX):=[(50,eu),(56,eu),(13,eY)]
noncomputable def sr:Ss:=.a (.g (.C (.h fZ (.a 56) (.x 13)) (.c (.a 50) 4) (.c (.a 50) 5))) .b
noncomputable def Jw:List (Nat×fX):=[(50,eu)]
noncomputable def Gi:Ss:=.a (.g (.A (.a (.c (.a 50) 8) (.a (.c (.a 50) 9) (.a (.c (.a 50) 10) (.a (.c (.a 50) 11) .b)))))) .b
noncomputable def Jv:List (Nat×fX):=[(50,eu),(58,eu)]
noncomputable def vF:Ss:=.a (.s 50 [8,9,10,11] (.a 58)) .b
noncomputable def xe:List (Nat×fX):=[(50,eu),(59,eu),(60,eu),(61,eu),(62,eu),(63,eu),(64,eu),(10,eY)]
noncomputable def Pa:Ss:=.a (.d (.a 50) 16 (.O)) (.a (.d (.a 50) 17 (.d 0)) (.a (.d (.a 50) 18 (.d 0)) (.a (.d (.a 50) 19 (.a 62)) (.a (.d (.a 50) 20 (.a 63)) (.a (.a 64 (.v (.a 50) 28 (.a (.x 10) (.a (.d 0) .b)))) (.a (.d (.a 64) 6 (.a 59)) (.a (.d (.a 64) 7 (.a 60)) (.a (.d (.a 64) 8 (.a 61)) (.a (.d (.a 50) 21 (.c (.a 64) 0)) (.a (.d (.a 50) 22 (.c (.a 64) 0)) (.a (.h (.v (.a 50) 31 (.a (.c (.a 64) 0) .b))) .b)))))))))))
noncomputable def Jn:List (Nat×fX):=[(50,eu),(54,eu),(55,eu),(65,eu),(46,eY)]
noncomputable def Pb:Ss:=.a (.d (.a 50) 17 (.p io (.c (.a 50) 17) (.d 1))) (.a (.a 65 (.j 46 (.a (.c (.a 50) 17) (.a (.a 54) (.a (.a 55) .b))))) (.a (.p) (.a (.r 65) .b)))
noncomputable def Js:List (Nat×fX):=[(50,eu),(53,eu),(65,eu),(44,eY)]
noncomputable def vE:Ss:=.a (.a 65 (.L (.c (.a 50) 16) (.a 53))) (.a (.c (.h .Is (.a 65) (.F)) (.a (.p) .b) .b) (.a (.r 65) .b))
noncomputable def Jo:List (Nat×fX):=[(50,eu),(53,eu),(65,eu),(10,eY),(44,eY)]
noncomputable def vB:Ss:=.a (.a 65 (.v (.a 50) 29 (.a (.a 53) .b))) (.a (.c (.h gd (.c (.a 65) 1) (.x 10)) (.a (.p) .b) .b) (.a (.r 65) .b))
noncomputable def Jr:List (Nat×fX):=[(50,eu),(53,eu)]
noncomputable def vD:Ss:=.a (.d (.a 50) 18 (.p io (.c (.a 50) 18) (.d 1))) (.a (.d (.n (.c (.a 50) 16) (.a 53)) 13 (.c (.a 50) 18)) .b)
noncomputable def Jq:List (Nat×fX):=[(50,eu),(53,eu)]
noncomputable def vC:Ss:=.a (.d (.a 50) 22 (.c (.v (.a 50) 30 (.a (.a 53) .b)) 0)) (.a (.h (.v (.a 50) 31 (.a (.a 53) .b))) .b)
noncomputable def Jp:List (Nat×fX):=[(50,eu),(56,eu),(13,eY)]
noncomputable def sq:Ss:=.a (.g (.C (.h fZ (.a 56) (.x 13)) (.c (.a 50) 19) (.c (.a 50) 20))) .b
noncomputable def Jy:List (Nat×fX):=[(54,eu),(12,eY),(13,eY),(14,eY)]
noncomputable def vG:Ss:=.a (.g (.C (.h fZ (.a 54) (.x 12)) (.x 13) (.x 14))) .b
noncomputable def JU:List (Nat×fX):=[(56,eu),(13,eY),(12,eY),(11,eY)]
noncomputable def vS:Ss:=.a (.g (.C (.h fZ (.a 56) (.x 13)) (.x 12) (.x 11))) .b
noncomputable def JM:List (Nat×fX):=[(66,eu),(53,eu),(65,eu),(67,eu),(68,eu),(10,eY)]
noncomputable def B2:Ss:=.a (.a 65 (.z .b)) (.a (.a 67 (.z (.a (.a 53) .b))) (.a (.w (.h gd (.a 67) (.z .b)) (.a (.z 68 66 67) (.a (.c (.h fZ (.c (.a 68) 1) (.x 10)) (.a (.m 65 (.c (.a 68) 0)) .b) (.a (.u 67 (.H (.c (.a 68) 3))) .b)) .b))) (.a (.r 65) .b)))
noncomputable def JL:List (Nat×fX):=[(66,eu),(17,eY)]
noncomputable def yP:Ss:=.a (.g (.j 17 (.a (.a 66) (.a (.c (.a 66) 21) .b)))) .b
noncomputable def JW:List (Nat×fX):=[(66,eu),(53,eu),(65,eu),(67,eu),(68,eu)]
noncomputable def B3:Ss:=.a (.a 65 (.z .b)) (.a (.a 67 (.z (.a (.a 53) .b))) (.a (.w (.h gd (.a 67) (.z .b)) (.a (.z 68 66 67) (.a (.m 65 (.c (.a 68) 0)) (.a (.u 67 (.H (.c (.a 68) 3))) .b)))) (.a (.r 65) .b)))
noncomputable def JQ:List (Nat×fX):=[(66,eu),(69,eu),(70,eu),(55,eu),(71,eu)]
noncomputable def ri:Ss:=.a (.a 55 (.c (.n (.c (.a 66) 16) (.a 69)) 2)) (.a (.d (.n (.c (.a 66) 16) (.a 70)) 2 (.a 55)) (.a (.c (.h fZ (.a 55) (.d 0)) (.a (.d (.a 66) 21 (.a 70)) .b) (.a (.a 71 (.c (.n (.c (.a 66) 16) (.a 55)) 3)) (.a (.n 71 (.J (.a 71) (.a 69)) (.a 70)) .b))) .b))
noncomputable def JD:List (Nat×fX):=[(66,eu),(53,eu),(72,eu),(19,eY)]
noncomputable def vJ:Ss:=.a (.j [72] (.a (.j 19 (.a (.a 66) (.a (.a 53) .b)))) (.a (.q 66 (.a 72)) .b)) .b
noncomputable def JK:List (Nat×fX):=[(66,eu),(53,eu),(56,eu),(65,fK),(72,eu),(68,eu),(19,eY),(10,eY),(15,eY),(1,eY),(2,eY)]
noncomputable def vM:Ss:=.a (.a 65 (.O)) (.a (.j [72] (.a (.H (.j 19 (.a (.a 66) (.a (.a 53) .b))))) (.a (.a 68 (.n (.c (.a 66) 16) (.a 72))) (.a (.c (.h fZ (.c (.a 68) 1) (.x 10)) (.a (.n 65 (.a 72) (.v (.a 66) 33 (.a (.a 56) .b))) .b) (.a (.c (.h fZ (.j 15 (.a (.c (.a 68) 1) .b)) (.a 56)) (.a (.n 65 (.a 72) (.w 1 (.B (.n (.a 65) (.a 73)) [73] (.a (.c (.a 68) 3)) .b [(48,eu),(73,eu),(65,gb)]))) .b) (.a (.n 65 (.a 72) (.w 2 (.B (.n (.a 65) (.a 73)) [73] (.a (.c (.a 68) 3)) .b [(48,eu),(73,eu),(65,gb)]))) .b)) .b)) .b))) (.a (.g (.n (.a 65) (.a 53))) .b))
noncomputable def JT:List (Nat×fX):=[(74,eu),(75,eu),(76,eu),(77,fK),(78,fK),(65,eu),(79,fK),(1,eY),(0,eY),(7,eY),(8,eY)]
noncomputable def sF:Ss:=.a (.l em [77,78] (.A (.a (.p gS (.a 74) (.w 1 (.a 76))) (.a (.w 1 (.a 75)) .b)))) (.a (.c (.h fZ (.a 78) (.d 0)) (.a (.a 75 (.p jb (.z (.a (.d 1) .b)) (.w 0 (.a 76)))) (.a (.a 78 (.w 0 (.a 76))) .b)) .b) (.a (.a 65 (.B (.p io (.a 80) (.p pP (.p jb (.a 77) (.a 81)) (.a 78))) [81,80] (.b (.a 75) (.a 76)) .b [(48,eu),(81,eu),(80,eu),(77,gb),(78,gb)])) (.a (.a 79 (.p gS (.a 74) (.w 1 (.a 65)))) (.a (.g (.B (.p io (.a 72) (.C (.h lj (.a 82) (.a 79)) (.d 1) (.d 0))) [82,72] (.g (.a 65)) .b [(48,eu),(82,eu),(72,eu),(79,gb)])) .b))))
noncomputable def JS:List (Nat×fX):=[(66,fK),(53,eu),(56,fK),(57,eu),(67,eu),(72,eu),(83,eu),(68,eu),(73,eu),(76,eu),(84,eu),(85,eu),(10,eY),(15,eY),(7,eY),(23,eY)]
noncomputable def vR:Ss:=.a (.a 67 (.z (.a (.A (.a (.a 53) (.a (.a 57) .b))) .b))) (.a (.w (.h gd (.a 67) (.z .b)) (.a (.y [72,83] 67) (.a (.a 68 (.n (.c (.a 66) 16) (.a 72))) (.a (.c (.h gd (.c (.a 68) 1) (.x 10)) (.a (.c (.h fZ (.j 15 (.a (.c (.a 68) 1) .b)) (.a 56)) (.a (.a 76 (.B (.j 22 (.a (.a 66) (.a (.a 73) (.a (.a 56) .b)))) [73] (.a (.c (.a 68) 3)) .b [(48,eu),(73,eu),(22,eY),(56,gb),(66,gb)])) (.a (.a 84 (.B (.p gS (.v (.n (.c (.a 66) 16) (.a 73)) 23 (.a (.a 56) .b)) (.a 80)) [73,80] (.b (.c (.a 68) 3) (.a 76)) .b [(48,eu),(73,eu),(80,eu),(56,gb),(66,gb)])) (.a (.j [73,85] (.b (.c (.a 68) 3) (.j 23 (.a (.a 83) (.a (.a 84) (.a (.a 76) .b))))) (.a (.m 67 (.A (.a (.a 73) (.a (.a 85) .b)))) .b)) .b))) (.a (.j [73] (.a (.c (.a 68) 3)) (.a (.m 67 (.A (.a (.a 73) (.a (.a 83) .b)))) .b)) .b)) .b) .b) (.a (.h (.v (.a 68) 24 (.a (.a 56) (.a (.a 83) .b)))) .b))))) .b)
noncomputable def JR:List (Nat×fX):=[(66,eu),(67,eu),(53,eu),(86,eu),(87,eu),(68,eu),(73,eu),(15,eY),(13,eY)]
noncomputable def vQ:Ss:=.a (.a 67 (.z (.a (.A (.a (.c (.a 66) 21) (.a (.d 0) (.a (.d 0) .b)))) .b))) (.a (.w (.h gd (.a 67) (.z .b)) (.a (.y [53,86,87] 67) (.a (.a 68 (.n (.c (.a 66) 16) (.a 53))) (.a (.s 68 [4,5] (.A (.a (.a 86) (.a (.a 87) .b)))) (.a (.j [73] (.a (.c (.a 68) 3)) (.a (.m 67 (.A (.a (.a 73) (.a (.a 86) (.a (.a 87) .b))))) (.a (.c (.h fZ (.j 15 (.a (.c (.a 68) 1) .b)) (.x 13)) (.a (.a 86 (.p io (.a 86) (.c (.n (.c (.a 66) 16) (.a 73)) 6))) .b) (.a (.a 87 (.p io (.a 87) (.c (.n (.c (.a 66) 16) (.a 73)) 7))) .b)) .b))) .b))))) .b)
noncomputable def Ab:List (Nat×fX):=[(66,eu),(59,eu),(60,eu),(22,eY),(13,eY),(14,eY),(44,eY),(24,eY),(25,eY)]
noncomputable def vP:Ss:=.a (.c (.D jw (.a (.h lj (.a 59) (.j 22 (.a (.a 66) (.a (.c (.a 66) 21) (.a (.x 13) .b))))) (.a (.h lj (.a 60) (.j 22 (.a (.a 66) (.a (.c (.a 66) 21) (.a (.x 14) .b))))) .b))) (.a (.p) .b) .b) (.a (.h (.j 24 (.a (.a 66) (.a (.c (.a 66) 21) (.a (.x 13) (.a (.a 59) .b)))))) (.a (.h (.j 24 (.a (.a 66) (.a (.c (.a 66) 21) (.a (.x 14) (.a (.a 60) .b)))))) (.a (.h (.j 25 (.a (.a 66) .b))) .b)))
noncomputable def JX:List (Nat×fX):=[(66,eu),(53,eu),(68,eu),(56,eu),(82,eu),(73,eu),(72,eu),(10,eY),(0,eY),(15,eY)]
noncomputable def vX:Ss:=.a (.a 68 (.n (.c (.a 66) 16) (.a 53))) (.a (.c (.h fZ (.c (.a 68) 1) (.x 10)) (.a (.c (.h gd (.c (.a 68) 3) (.z .b)) (.a (.g (.G "children")) .b) .b) (.a (.c (.D jw (.a (.h lj (.c (.a 68) 6) (.c (.a 66) 19)) (.a (.h lj (.c (.a 68) 7) (.c (.a 66) 20)) .b))) (.a (.g (.G "least")) .b) .b) (.a (.g (.F)) .b))) .b) (.a (.c (.h lj (.w 0 (.c (.a 68) 3)) (.d 2)) (.a (.g (.G "alone")) .b) .b) (.a (.l eb [56,82] (.A (.a (.j 15 (.a (.c (.a 68) 1) .b)) (.a (.v (.a 68) 25 (.a (.j 15 (.a (.c (.a 68) 1) .b)) .b)) .b)))) (.a (.j [73] (.a (.c (.a 68) 3)) (.a (.a 72 (.L (.c (.a 66) 16) (.a 73))) (.a (.c (.D jw (.a (.h .Is (.a 72) (.F)) (.a (.h gd (.c (.a 72) 2) (.a 53)) (.a (.h fZ (.c (.a 72) 1) (.c (.a 68) 1)) .b)))) (.a (.g (.G "child")) .b) .b) (.a (.c (.D jw (.a (.h gd (.v (.a 72) 25 (.a (.a 56) .b)) (.a 82)) (.a (.h gd (.v (.a 72) 25 (.a (.p gS (.d 1) (.a 56)) .b)) (.v (.a 68) 25 (.a (.p gS (.d 1) (.a 56)) .b))) .b))) (.a (.g (.G "place")) .b) .b) (.a (.c (.h gd (.v (.a 72) 23 (.a (.p gS (.d 1) (.a 56)) .b)) (.v (.a 68) 23 (.a (.p gS (.d 1) (.a 56)) .b))) (.a (.g (.G "size")) .b) .b) (.a (.a 82 (.p io (.a 82) (.v (.a 72) 23 (.a (.a 56) .b)))) .b)))))) (.a (.g (.C (.h fZ (.a 82) (.p io (.v (.a 68) 25 (.a (.a 56) .b)) (.v (.a 68) 23 (.a (.a 56) .b)))) (.F) (.G "cover"))) .b)))))
noncomputable def JV:List (Nat×fX):=[(66,eu),(88,eu),(65,eu),(53,eu),(89,eu),(19,eY),(27,eY),(3,eY),(17,eY)]
noncomputable def vV:Ss:=.a (.a 88 (.L (.c (.a 66) 16) (.c (.a 66) 21))) (.a (.c (.D jw (.a (.h .Is (.a 88) (.F)) (.a (.h gd (.c (.a 88) 2) (.d 0)) (.a (.h gd (.c (.a 88) 4) (.d 0)) (.a (.h gd (.c (.a 88) 5) (.d 0)) .b))))) (.a (.g (.A (.a (.c (.a 66) 21) (.a (.G "root") .b)))) .b) .b) (.a (.a 65 (.j 19 (.a (.a 66) (.a (.c (.a 66) 21) .b)))) (.a (.j [53] (.a (.a 65)) (.a (.a 89 (.j 27 (.a (.a 66) (.a (.a 53) .b)))) (.a (.c (.h uO (.a 89) (.F)) (.a (.g (.A (.a (.a 53) (.a (.a 89) .b)))) .b) .b) .b))) (.a (.c (.h gd (.w 3 (.a 65)) (.w 3 (.c (.a 66) 16))) (.a (.g (.A (.a (.d 0) (.a (.G "strangers") .b)))) .b) .b) (.a (.g (.C (.h oj (.c (.a 66) 22) (.j 17 (.a (.a 66) (.a (.c (.a 66) 21) .b)))) (.F) (.A (.a (.c (.a 66) 22) (.a (.G "selected") .b))))) .b)))))
noncomputable def JP:List (Nat×fX):=[(66,eu),(53,eu),(90,fK),(72,eu),(68,eu),(91,eu),(19,eY),(10,eY),(5,eY)]
noncomputable def vO:Ss:=.a (.a 90 (.O)) (.a (.j [72] (.a (.H (.j 19 (.a (.a 66) (.a (.a 53) .b))))) (.a (.a 68 (.n (.c (.a 66) 16) (.a 72))) (.a (.c (.h fZ (.c (.a 68) 1) (.x 10)) (.a (.n 90 (.a 72) (.A (.a (.a 72) (.a (.c (.a 68) 6) (.a (.c (.a 68) 7) (.a (.v (.a 68) 26 .b) (.a (.c (.a 68) 12) (.a (.c (.a 68) 13) (.a (.w 5 (.c (.a 68) 14)) (.a (.w 5 (.c (.a 68) 15)) .b)))))))))) .b) (.a (.a 91 (.w 5 (.B (.n (.a 90) (.a 73)) [73] (.a (.c (.a 68) 3)) .b [(48,eu),(73,eu),(90,gb)]))) (.a (.n 90 (.a 72) (.A (.a (.a 72) (.a (.c (.a 68) 1) (.a (.c (.a 68) 6) (.a (.c (.a 68) 7) (.a (.a 91) .b))))))) .b))) .b))) (.a (.g (.n (.a 90) (.a 53))) .b))
noncomputable def JA:List (Nat×fX):=[(66,eu),(88,eu),(29,eY)]
noncomputable def vH:Ss:=.a (.a 88 (.n (.c (.a 66) 16) (.c (.a 66) 21))) (.a (.g (.A (.a (.A (.a (.c (.a 88) 6) (.a (.c (.a 88) 7) .b))) (.a (.j 29 (.a (.a 66) (.a (.c (.a 66) 21) .b))) (.a (.c (.a 66) 22) .b))))) .b)
noncomputable def Ae:List (Nat×fX):=[(66,eu),(53,eu),(57,eu),(56,eu),(78,eu),(70,eu),(69,eu),(22,eY),(44,eY)]
noncomputable def ud:Ss:=.a (.a 78 (.v (.v (.a 66) 29 (.a (.a 53) .b)) 23 (.a (.a 56) .b))) (.a (.c (.h .Is (.a 57) (.F)) (.a (.a 70 (.p pP (.a 78) (.d 2))) .b) (.a (.a 70 (.C (.h lh (.a 57) (.d 0)) (.p gS (.a 78) (.a 57)) (.p gS (.d 0) (.a 57)))) .b)) (.a (.a 69 (.p gS (.a 78) (.a 70))) (.a (.c (.D jw (.a (.h lj (.a 69) (.j 22 (.a (.a 66) (.a (.a 53) (.a (.a 56) .b))))) (.a (.h lj (.a 70) (.v (.a 66) 33 (.a (.a 56) .b))) .b))) (.a (.p) .b) .b) (.a (.g (.A (.a (.a 69) (.a (.a 70) .b)))) .b))))
noncomputable def Jz:List (Nat×fX):=[(66,eu),(53,eu),(56,eu),(68,eu),(92,eu),(15,eY),(16,eY),(20,eY)]
noncomputable def rh:Ss:=.a (.a 68 (.n (.c (.a 66) 16) (.a 53))) (.a (.c (.D oO (.a (.h gd (.c (.a 68) 2) (.d 0)) (.a (.h fZ (.j 15 (.a (.c (.n (.c (.a 66) 16) (.c (.a 68) 2)) 1) .b)) (.a 56)) .b))) (.a (.g (.c (.a 68) 2)) .b) .b) (.a (.a 92 (.v (.a 66) 28 (.a (.j 16 (.a (.a 56) .b)) (.a (.c (.a 68) 2) .b)))) (.a (.s 92 [6,7,4,5] (.A (.a (.c (.a 68) 6) (.a (.c (.a 68) 7) (.a (.c (.a 68) 4) (.a (.c (.a 68) 5) .b)))))) (.a (.h (.j 20 (.a (.a 66) (.a (.a 53) (.a (.c (.a 92) 0) .b))))) (.a (.d (.a 68) 2 (.c (.a 92) 0)) (.a (.d (.a 92) 3 (.z (.a (.a 53) .b))) (.a (.g (.c (.a 92) 0)) .b)))))))
noncomputable def Ac:List (Nat×fX):=[(66,eu),(53,eu),(57,eu),(56,eu),(93,eu),(69,eu),(70,eu),(55,eu),(94,eu),(65,eu),(71,eu),(82,eu),(31,eY),(32,eY),(17,eY),(10,eY),(6,eY),(24,eY),(34,eY),(25,eY)]
noncomputable def vU:Ss:=.a (.l em [69,70] (.j 31 (.a (.a 66) (.a (.a 53) (.a (.a 57) (.a (.a 56) .b)))))) (.a (.a 55 (.j 32 (.a (.a 66) (.a (.a 53) (.a (.a 56) .b))))) (.a (.a 94 (.n (.c (.a 66) 16) (.n (.j 17 (.a (.a 66) (.a (.a 53) .b))) (.d 0)))) (.a (.a 65 (.v (.a 66) 28 (.a (.x 10) (.a (.a 55) .b)))) (.a (.s 65 [6,7] (.A (.a (.c (.a 94) 6) (.a (.c (.a 94) 7) .b)))) (.a (.h (.v (.a 65) 24 (.a (.a 56) (.a (.a 70) .b)))) (.a (.h (.v (.a 65) 24 (.a (.p gS (.d 1) (.a 56)) (.a (.v (.n (.c (.a 66) 16) (.a 53)) 23 (.a (.p gS (.d 1) (.a 56)) .b)) .b)))) (.a (.h (.v (.a 65) 27 (.a (.v (.a 94) 26 .b) .b))) (.a (.d (.a 65) 14 (.w 6 (.c (.a 94) 14))) (.a (.a 71 (.c (.n (.c (.a 66) 16) (.a 55)) 3)) (.a (.a 82 (.J (.a 71) (.a 53))) (.a (.A 71 (.C (.a 93) (.a 82) (.p io (.a 82) (.d 1))) (.c (.a 65) 0)) (.a (.h (.j 24 (.a (.a 66) (.a (.a 53) (.a (.a 56) (.a (.a 69) .b)))))) (.a (.h (.j 34 (.a (.a 66) (.a (.a 55) .b)))) (.a (.h (.j 25 (.a (.a 66) .b))) (.a (.g (.c (.a 65) 0)) .b)))))))))))))))
noncomputable def JE:List (Nat×fX):=[(66,eu),(53,eu),(68,eu),(65,eu),(73,eu),(72,eu)]
noncomputable def vK:Ss:=.a (.a 68 (.n (.c (.a 66) 16) (.a 53))) (.a (.a 65 (.z .b)) (.a (.j [73] (.a (.c (.a 68) 3)) (.a (.a 72 (.n (.c (.a 66) 16) (.a 73))) (.a (.c (.h fZ (.c (.a 72) 1) (.c (.a 68) 1)) (.a (.u 65 (.c (.a 72) 3)) (.a (.q 66 (.a 73)) .b)) (.a (.m 65 (.a 73)) .b)) .b))) (.a (.j [73] (.a (.a 65)) (.a (.d (.n (.c (.a 66) 16) (.a 73)) 2 (.a 53)) .b)) (.a (.D (.a 68) 65) .b))))
noncomputable def JN:List (Nat×fX):=[(66,eu),(53,eu),(68,eu),(86,eu),(0,eY),(20,eY),(34,eY)]
noncomputable def sD:Ss:=.a (.a 68 (.n (.c (.a 66) 16) (.a 53))) (.a (.c (.h gd (.w 0 (.c (.a 68) 3)) (.d 1)) (.a (.F) .b) .b) (.a (.a 86 (.n (.c (.a 68) 3) (.d 0))) (.a (.h (.j 20 (.a (.a 66) (.a (.a 53) (.a (.a 86) .b))))) (.a (.d (.a 68) 3 (.z .b)) (.a (.q 66 (.a 53)) (.a (.c (.h gd (.c (.n (.c (.a 66) 16) (.a 86)) 2) (.d 0)) (.a (.h (.j 34 (.a (.a 66) (.a (.c (.n (.c (.a 66) 16) (.a 86)) 2) .b)))) .b) .b) .b))))))
noncomputable def JO:List (Nat×fX):=[(66,eu),(95,eu),(65,eu),(53,eu)]
noncomputable def vN:Ss:=.a (.a 65 (.n (.a 95) (.d 0))) (.a (.j [53] (.a (.a 95)) (.a (.c (.h lh (.c (.n (.c (.a 66) 16) (.a 53)) 13) (.c (.n (.c (.a 66) 16) (.a 65)) 13)) (.a (.a 65 (.a 53)) .b) .b) .b)) (.a (.r 65) .b))
noncomputable def JC:List (Nat×fX):=[(66,eu),(53,eu),(68,eu),(55,eu),(56,eu),(82,eu),(96,eu),(57,eu),(97,eu),(44,eY),(15,eY),(17,eY),(21,eY),(24,eY),(35,eY),(25,eY),(36,eY)]
noncomputable def vI:Ss:=.a (.a 68 (.v (.a 66) 29 (.a (.a 53) .b))) (.a (.c (.h fZ (.c (.a 68) 2) (.d 0)) (.a (.p) .b) .b) (.a (.a 55 (.n (.c (.a 66) 16) (.c (.a 68) 2))) (.a (.l eb [56,82] (.A (.a (.j 15 (.a (.c (.a 55) 1) .b)) (.a (.J (.c (.a 55) 3) (.a 53)) .b)))) (.a (.a 96 (.C (.h lh (.a 82) (.d 0)) (.n (.c (.a 55) 3) (.p gS (.a 82) (.d 1))) (.n (.c (.a 55) 3) (.d 1)))) (.a (.a 57 (.p io (.v (.n (.c (.a 66) 16) (.a 96)) 23 (.a (.a 56) .b)) (.v (.a 68) 23 (.a (.a 56) .b)))) (.a (.a 97 (.h oj (.c (.a 66) 22) (.j 17 (.a (.a 66) (.a (.a 53) .b))))) (.a (.B 55 (.a 53)) (.a (.h (.j 21 (.a (.a 66) (.a (.a 53) .b)))) (.a (.h (.j 24 (.a (.a 66) (.a (.a 96) (.a (.a 56) (.a (.a 57) .b)))))) (.a (.h (.j 35 (.a (.a 66) (.a (.c (.a 55) 0) .b)))) (.a (.h (.j 25 (.a (.a 66) .b))) (.a (.c (.a 97) (.a (.d (.a 66) 22 (.j 36 (.a (.a 66) (.a (.j 17 (.a (.a 66) (.a (.c (.a 66) 21) .b))) .b)))) .b) .b) .b))))))))))))
noncomputable def JB:List (Nat×fX):=[(66,eu),(53,eu),(68,eu),(88,eu),(59,eu),(60,eu),(72,eu),(19,eY)]
noncomputable def yO:Ss:=.a (.a 68 (.v (.a 66) 30 (.a (.a 53) .b))) (.a (.a 88 (.n (.c (.a 66) 16) (.c (.a 66) 21))) (.a (.l eb [59,60] (.A (.a (.c (.a 88) 6) (.a (.c (.a 88) 7) .b)))) (.a (.j [72] (.a (.j 19 (.a (.a 66) (.a (.c (.a 66) 21) .b)))) (.a (.c (.h gd (.a 72) (.a 53)) (.a (.q 66 (.a 72)) .b) .b) .b)) (.a (.d (.a 68) 2 (.d 0)) (.a (.s 68 [4,5,6,7] (.A (.a (.d 0) (.a (.d 0) (.a (.a 59) (.a (.a 60) .b)))))) (.a (.d (.a 66) 21 (.a 53)) (.a (.c (.h xJ (.c (.a 66) 22) (.c (.a 66) 16)) (.a (.d (.a 66) 22 (.a 53)) .b) .b) .b)))))))
noncomputable def JG:List (Nat×fX):=[(98,eu),(99,eu),(0,eY)]
noncomputable def sA:Ss:=.a (.n 98 (.d 1) (.p io (.n (.a 98) (.d 1)) (.d 1))) (.a (.c (.h .LtE (.n (.a 98) (.d 1)) (.w 0 (.n (.a 98) (.d 0)))) (.a (.g (.p .Mod (.n (.n (.a 98) (.d 0)) (.p gS (.n (.a 98) (.d 1)) (.d 1))) (.a 99))) .b) .b) (.a (.g (.p .Mod (.p pP (.p io (.p io (.p jb (.p jb (.n (.a 98) (.d 1)) (.n (.a 98) (.d 1))) (.d 37)) (.p jb (.d 23) (.n (.a 98) (.d 1)))) (.p jb (.d 7) (.w 0 (.n (.a 98) (.d 0))))) (.d 5)) (.a 99))) .b))
noncomputable def JJ:List (Nat×fX):=[(66,fK),(53,eu),(56,fK),(72,eu),(65,eu),(10,eY),(11,eY),(14,eY),(1,eY),(2,eY)]
noncomputable def sC:Ss:=.a (.a 72 (.n (.c (.a 66) 16) (.a 53))) (.a (.c (.h fZ (.c (.a 72) 1) (.x 10)) (.a (.g (.n (.z (.a (.d 3) (.a (.d 2) .b))) (.a 56))) .b) .b) (.a (.a 65 (.B (.j 40 (.a (.a 66) (.a (.a 73) (.a (.a 56) .b)))) [73] (.a (.c (.a 72) 3)) .b [(48,eu),(73,eu),(40,eY),(56,gb),(66,gb)])) (.a (.g (.C (.h fZ (.h fZ (.c (.a 72) 1) (.x 11)) (.h fZ (.a 56) (.x 14))) (.w 1 (.a 65)) (.w 2 (.a 65)))) .b)))
noncomputable def JI:List (Nat×fX):=[(66,fK),(53,eu),(56,fK),(100,fK),(72,eu),(57,fK),(65,eu),(101,eu),(76,eu),(80,eu),(84,eu),(102,eu),(85,eu),(99,eu),(10,eY),(11,eY),(14,eY),(7,eY),(1,eY),(0,eY)]
noncomputable def vL:Ss:=.a (.a 72 (.n (.c (.a 66) 16) (.a 53))) (.a (.c (.h fZ (.c (.a 72) 1) (.x 10)) (.a (.g (.I eb)) .b) .b) (.a (.a 57 (.v (.a 72) 23 (.a (.a 56) .b))) (.a (.a 65 (.B (.v (.n (.c (.a 66) 16) (.a 73)) 23 (.a (.a 56) .b)) [73] (.a (.c (.a 72) 3)) .b [(48,eu),(73,eu),(56,gb),(66,gb)])) (.a (.c (.h gd (.h fZ (.c (.a 72) 1) (.x 11)) (.h fZ (.a 56) (.x 14))) (.a (.c (.h gd (.B (.a 101) [101] (.a (.a 65)) (.a (.h gd (.a 101) (.a 57)) .b) [(48,eu),(101,eu),(57,gb)]) (.z .b)) (.a (.g (.I em)) .b) .b) .b) (.a (.a 76 (.B (.j 40 (.a (.a 66) (.a (.a 73) (.a (.a 56) .b)))) [73] (.a (.c (.a 72) 3)) .b [(48,eu),(73,eu),(40,eY),(56,gb),(66,gb)])) (.a (.a 84 (.B (.p gS (.n (.n (.a 100) (.a 73)) (.a 56)) (.a 80)) [73,80] (.b (.c (.a 72) 3) (.a 76)) .b [(48,eu),(73,eu),(80,eu),(100,gb),(56,gb)])) (.a (.a 84 (.C (.h lh (.w 1 (.a 84)) (.d 0)) (.a 84) (.p jb (.z (.a (.d 1) .b)) (.w 0 (.a 84))))) (.a (.a 102 (.z .b)) (.a (.j [101,80,85] (.f (.a 65) (.a 76) (.a 84)) (.a (.m 102 (.p gS (.p gS (.a 101) (.a 80)) (.p pP (.p jb (.p gS (.a 57) (.w 1 (.a 76))) (.a 85)) (.w 1 (.a 84))))) .b)) (.a (.a 99 (.w 1 (.a 102))) (.a (.c (.D jw (.a (.h gd (.a 102) (.p io (.p jb (.z (.a (.d 1) .b)) (.a 99)) (.p jb (.z (.a (.d 0) .b)) (.p gS (.w 0 (.a 102)) (.a 99))))) (.a (.h gd (.w 1 (.a 65)) (.a 57)) .b))) (.a (.g (.I em)) .b) .b) .b)))))))) (.a (.g (.h fZ (.B (.d 1) [73] (.a (.c (.a 72) 3)) (.a (.M (.j 41 (.a (.a 66) (.a (.a 73) (.a (.a 56) (.a (.a 100) .b)))))) .b) [(48,eu),(73,eu),(41,eY),(100,gb),(56,gb),(66,gb)]) (.z .b))) .b)))))
noncomputable def n8:List (Nat×fX):=[(98,eu),(66,eu),(103,eu),(104,eu),(95,eu),(53,eu),(56,eu),(65,eu),(45,eY),(39,eY),(9,eY),(3,eY),(0,eY),(14,eY),(13,eY),(33,eY),(44,eY),(18,eY)]
noncomputable def Pe:Ss:=.a (.a 66 (.j 45 (.a (.p io (.d 24) (.j 39 (.a (.a 98) (.a (.d 40) .b)))) (.a (.p io (.d 16) (.j 39 (.a (.a 98) (.a (.d 30) .b)))) (.a (.d 1) (.a (.d 3) (.a (.d 2) .b))))))) (.a (.a 103 (.z (.a (.c (.a 66) 22) .b))) (.a (.j [104] (.a (.j 9 (.a (.p io (.d 1) (.j 39 (.a (.a 98) (.a (.d 6) .b)))) .b))) (.a (.a 95 (.w 3 (.c (.a 66) 16))) (.a (.l eb [53,56] (.A (.a (.n (.a 95) (.j 39 (.a (.a 98) (.a (.w 0 (.a 95)) .b)))) (.a (.n (.z (.a (.x 14) (.a (.x 13) .b))) (.j 39 (.a (.a 98) (.a (.d 2) .b)))) .b)))) (.a (.p) (.a (.c (.h fZ (.j 39 (.a (.a 98) (.a (.d 2) .b))) (.d 1)) (.a (.a 65 (.j 18 (.a (.a 66) .b))) (.a (.m 103 (.n (.a 65) (.j 39 (.a (.a 98) (.a (.w 0 (.a 65)) .b))))) (.a (.h (.v (.a 66) 32 (.a (.n (.a 103) (.K (.d 1))) .b))) .b))) .b) .b))))) (.a (.g (.A (.a (.a 66) (.a (.a 103) .b)))) .b)))
noncomputable def JH:List (Nat×fX):=[(98,eu),(66,fK),(103,eu),(65,eu),(53,eu),(72,eu),(92,eu),(56,eu),(82,eu),(96,eu),(105,eu),(106,eu),(86,eu),(18,eY),(39,eY),(0,eY),(11,eY),(14,eY),(13,eY),(37,eY),(28,eY),(10,eY)]
noncomputable def uc:Ss:=.a (.a 65 (.j 18 (.a (.a 66) .b))) (.a (.a 53 (.C (.h fZ (.j 39 (.a (.a 98) (.a (.d 2) .b))) (.d 0)) (.c (.a 66) 22) (.n (.a 65) (.j 39 (.a (.a 98) (.a (.w 0 (.a 65)) .b)))))) (.a (.a 72 (.n (.c (.a 66) 16) (.a 53))) (.a (.c (.h fZ (.c (.a 72) 2) (.d 0)) (.a (.g (.I eb)) .b) .b) (.a (.a 92 (.n (.c (.a 66) 16) (.c (.a 72) 2))) (.a (.l eb [56,82] (.A (.a (.C (.h fZ (.c (.a 92) 1) (.x 11)) (.x 14) (.x 13)) (.a (.J (.c (.a 92) 3) (.a 53)) .b)))) (.a (.a 96 (.n (.c (.a 66) 16) (.n (.c (.a 92) 3) (.C (.h lh (.a 82) (.d 0)) (.p gS (.a 82) (.d 1)) (.d 1))))) (.a (.l eb [105,106] (.A (.a (.p io (.v (.a 96) 23 (.a (.a 56) .b)) (.v (.a 72) 23 (.a (.a 56) .b))) (.a (.c (.a 66) 22) .b)))) (.a (.h (.j 37 (.a (.a 66) (.a (.a 53) .b)))) (.a (.c (.D jw (.a (.h uO (.j 28 (.a (.a 66) .b)) (.F)) (.a (.h oj (.a 53) (.c (.a 66) 16)) .b))) (.a (.g (.I em)) .b) .b) (.a (.c (.D oO (.a (.h fZ (.c (.a 96) 1) (.x 10)) (.a (.h gd (.v (.a 96) 23 (.a (.a 56) .b)) (.a 105)) .b))) (.a (.g (.I em)) .b) .b) (.a (.a 86 (.B (.a 101) [101] (.a (.a 103)) (.a (.h oj (.a 101) (.c (.a 66) 16)) .b) [(48,eu),(101,eu),(66,gb)])) (.a (.c (.h fZ (.a 106) (.a 53)) (.a (.a 106 (.C (.h gd (.a 86) (.z .b)) (.n (.a 86) (.K (.d 1))) (.n (.j 18 (.a (.a 66) .b)) (.d 0)))) .b) .b) (.a (.g (.h fZ (.c (.a 66) 22) (.a 106))) .b)))))))))))))
theorem VA:Pc.d (fj (fW 9 0))=fj (fW 9 0):=by kernel_rfl
theorem Tz:(fD (fW 9 0)).names=(fN Aa).names:=by kernel_rfl
theorem VF:sy.d (fj (fW 9 1))=fj (fW 9 1):=by kernel_rfl
theorem TK:(fD (fW 9 1)).names=(fN Jx).names:=by kernel_rfl
theorem VC:su.d (fj (fW 9 2))=fj (fW 9 2):=by kernel_rfl
theorem TG:(fD (fW 9 2)).names=(fN Ju).names:=by kernel_rfl
theorem VB:sr.d (fj (fW 9 3))=fj (fW 9 3):=by kernel_rfl
theorem TF:(fD (fW 9 3)).names=(fN Jt).names:=by kernel_rfl
theorem VE:Gi.d (fj (fW 9 4))=fj (fW 9 4):=by kernel_rfl
theorem TJ:(fD (fW 9 4)).names=(fN Jw).names:=by kernel_rfl
theorem VD:vF.d (fj (fW 9 5))=fj (fW 9 5):=by kernel_rfl
theorem TH:(fD (fW 9 5)).names=(fN Jv).names:=by kernel_rfl
theorem Vt:Pa.d (fj (fW 10 0))=fj (fW 10 0):=by kernel_rfl
theorem Ts:(fD (fW 10 0)).names=(fN xe).names:=by kernel_rfl
theorem Vu:Pb.d (fj (fW 10 1))=fj (fW 10 1):=by kernel_rfl
theorem Tt:(fD (fW 10 1)).names=(fN Jn).names:=by kernel_rfl
theorem Vz:vE.d (fj (fW 10 2))=fj (fW 10 2):=by kernel_rfl
theorem Ty:(fD (fW 10 2)).names=(fN Js).names:=by kernel_rfl
theorem Vv:vB.d (fj (fW 10 3))=fj (fW 10 3):=by kernel_rfl
theorem Tu:(fD (fW 10 3)).names=(fN Jo).names:=by kernel_rfl
theorem Vy:vD.d (fj (fW 10 4))=fj (fW 10 4):=by kernel_rfl
theorem Tx:(fD (fW 10 4)).names=(fN Jr).names:=by kernel_rfl
theorem Vx:vC.d (fj (fW 10 5))=fj (fW 10 5):=by kernel_rfl
theorem Tw:(fD (fW 10 5)).names=(fN Jq).names:=by kernel_rfl
theorem Vw:sq.d (fj (fW 10 6))=fj (fW 10 6):=by kernel_rfl
theorem Tv:(fD (fW 10 6)).names=(fN Jp).names:=by kernel_rfl
theorem VG:vG.d (fj (eS 11))=fj (eS 11):=by kernel_rfl
theorem TL:(fD (eS 11)).names=(fN Jy).names:=by kernel_rfl
theorem V4:vS.d (fj (eS 12))=fj (eS 12):=by kernel_rfl
theorem Ud:(fD (eS 12)).names=(fN JU).names:=by kernel_rfl
theorem VW:B2.d (fj (eS 13))=fj (eS 13):=by kernel_rfl
theorem T6:(fD (eS 13)).names=(fN JM).names:=by kernel_rfl
theorem VV:yP.d (fj (eS 14))=fj (eS 14):=by kernel_rfl
theorem T4:(fD (eS 14)).names=(fN JL).names:=by kernel_rfl
theorem V6:B3.d (fj (eS 15))=fj (eS 15):=by kernel_rfl
theorem Uf:(fD (eS 15)).names=(fN JW).names:=by kernel_rfl
theorem V0:ri.d (fj (eS 16))=fj (eS 16):=by kernel_rfl
theorem T':(fD (eS 16)).names=(fN JQ).names:=by kernel_rfl
theorem VL:vJ.d (fj (eS 17))=fj (eS 17):=by kernel_rfl
theorem TU:(fD (eS 17)).names=(fN JD).names:=by kernel_rfl
theorem VU:vM.d (fj (eS 19))=fj (eS 19):=by kernel_rfl
theorem T3:(fD (eS 19)).names=(fN JK).names:=by kernel_rfl
theorem V3:sF.d (fj (eS 20))=fj (eS 20):=by kernel_rfl
theorem Uc:(fD (eS 20)).names=(fN JT).names:=by kernel_rfl
theorem V2:vR.d (fj (eS 21))=fj (eS 21):=by kernel_rfl
theorem Ub:(fD (eS 21)).names=(fN JS).names:=by kernel_rfl
theorem V1:vQ.d (fj (eS 22))=fj (eS 22):=by kernel_rfl
theorem Ua:(fD (eS 22)).names=(fN JR).names:=by kernel_rfl
theorem Kg:vP.d (fj (eS 23))=fj (eS 23):=by kernel_rfl
theorem IN:(fD (eS 23)).names=(fN Ab).names:=by kernel_rfl
theorem V7:vX.d (fj (eS 24))=fj (eS 24):=by kernel_rfl
theorem Ug:(fD (eS 24)).names=(fN JX).names:=by kernel_rfl
theorem V5:vV.d (fj (eS 25))=fj (eS 25):=by kernel_rfl
theorem Ue:(fD (eS 25)).names=(fN JV).names:=by kernel_rfl
theorem VZ:vO.d (fj (eS 27))=fj (eS 27):=by kernel_rfl
theorem T9:(fD (eS 27)).names=(fN JP).names:=by kernel_rfl
theorem VI:vH.d (fj (eS 28))=fj (eS 28):=by kernel_rfl
theorem TP:(fD (eS 28)).names=(fN JA).names:=by kernel_rfl
theorem Ki:ud.d (fj (eS 30))=fj (eS 30):=by kernel_rfl
theorem IP:(fD (eS 30)).names=(fN Ae).names:=by kernel_rfl
theorem VH:rh.d (fj (eS 31))=fj (eS 31):=by kernel_rfl
theorem TM:(fD (eS 31)).names=(fN Jz).names:=by kernel_rfl
theorem Kh:vU.d (fj (eS 32))=fj (eS 32):=by kernel_rfl
theorem IO:(fD (eS 32)).names=(fN Ac).names:=by kernel_rfl
theorem VM:vK.d (fj (eS 33))=fj (eS 33):=by kernel_rfl
theorem TV:(fD (eS 33)).names=(fN JE).names:=by kernel_rfl
theorem VX:sD.d (fj (eS 34))=fj (eS 34):=by kernel_rfl
theorem T7:(fD (eS 34)).names=(fN JN).names:=by kernel_rfl
theorem VY:vN.d (fj (eS 35))=fj (eS 35):=by kernel_rfl
theorem T8:(fD (eS 35)).names=(fN JO).names:=by kernel_rfl
theorem VK:vI.d (fj (eS 36))=fj (eS 36):=by kernel_rfl
theorem TR:(fD (eS 36)).names=(fN JC).names:=by kernel_rfl
theorem VJ:yO.d (fj (eS 37))=fj (eS 37):=by kernel_rfl
theorem TQ:(fD (eS 37)).names=(fN JB).names:=by kernel_rfl
theorem VP:sA.d (fj (eS 39))=fj (eS 39):=by kernel_rfl
theorem TY:(fD (eS 39)).names=(fN JG).names:=by kernel_rfl
theorem VT:sC.d (fj (eS 40))=fj (eS 40):=by kernel_rfl
theorem T2:(fD (eS 40)).names=(fN JJ).names:=by kernel_rfl
theorem VS:vL.d (fj (eS 41))=fj (eS 41):=by kernel_rfl
theorem T0:(fD (eS 41)).names=(fN JI).names:=by kernel_rfl
theorem VO:Pe.d (fj (eS 42))=fj (eS 42):=by kernel_rfl
theorem TX:(fD (eS 42)).names=(fN n8).names:=by kernel_rfl
theorem VQ:uc.d (fj (eS 43))=fj (eS 43):=by kernel_rfl
theorem TZ:(fD (eS 43)).names=(fN JH).names:=by kernel_rfl
end
section
inductive eT where
 |e
 |g (b:Bool)
 |a (i:Int)
 |h (s:String)
 |c
 |d (n:Int)
 |f (as:List eT)
inductive eD where
 |b (x:eT)
 |c (o:Bool) (xs:List eT)
 |g (o:Bool) (kvs:List (Int×eT))
 |j
 |f (n:Int) (ver:Nat)
 |h
 |m
noncomputable abbrev eD.a(n:Int):eD:=.b (.a n)
noncomputable abbrev eD.d(n:Bool):eD:=.b (.g n)
structure gE where
 b:Int
 c:Int
 a:List Int
 g:Int
 h:Int
 d:Int
 e:Int
 i:Int
 j:Int
 k:Int
 l:Int
 f:Int
structure eB where
 a:Int->gE
 c:Int
 b:List Int
 l:Int
 d:Int
 i:Int
 g:Nat
 h:Nat
 k:List Int
 e:Int
noncomputable def eB.f(t:eB)(n:Int)(a:gE):eB:={ t with a:=λm=>if m=n then a else t.a m }
def eB.m(t:eB)(n:Int)(X:List Int):eB:=t.f n { t.a n with a:=X }
abbrev Fr:=Nat->Option eD
noncomputable def eL(F:Fr)(i:Nat)(v:eD):Fr:=λj=>if j=i then d9 v else F j
noncomputable def fV(F:Fr):List Nat->List eT->Fr
 |i::m,a::as=>fV (eL F i (.b a)) m as
 |_,_=>F
noncomputable def eD.e:eD->eD
 |.c _ o=>.c em o
 |.g _ G=>.g em G
 |n=>n
noncomputable def eD.i:eD->Bool
 |.c o _=>o
 |.g o _=>o
 |_=>em
noncomputable def eD.s:eD->Bool
 |.c o _=>!o
 |.g o _=>!o
 |_=>em
def oJ(F:Fr)(i:Nat)(v:eD):Fr:=if v.s then eL (λj=>(F j).map eD.e) i v else eL F i v
noncomputable def l6:List eT->Option (List Int)
 |[]=>d9 []
 |.a i::r=>(l6 r).map (i::·)
 |_=>eh
noncomputable def ia(t:eB):eD->Option (List eT)
 |.c _ z=>d9 z
 |.f n v=>if t.h=v then d9 ((t.a n).a.map .a) else eh
 |_=>eh
def jC(t:eB)(v:eD):Option (List Int):=(ia t v).bind l6
mutual
noncomputable def pd:eT->Option mn
 |.e=>d9 .none
 |.g b=>d9 (.bool b)
 |.a i=>d9 (mo i)
 |.f as=>(kO as).map xT
 |_=>eh
noncomputable def kO:List eT->Option (List mn)
 |[]=>d9 []
 |a::r=>(pd a).bind λd=>(kO r).map (d::·)
end
noncomputable def eD.l:eD->Option Int
 |.b (.a n)=>d9 n
 |_=>eh
noncomputable def eD.p:eD->Option Bool
 |.b (.g n)=>d9 n
 |_=>eh
noncomputable def eD.u:eD->Option Int
 |.b (.d n)=>d9 n
 |_=>eh
noncomputable def eD.v:eD->Option (List eT)
 |.b (.f as)=>d9 as
 |_=>eh
noncomputable def eD.w:eD->Option eT
 |.b x=>d9 x
 |_=>eh
noncomputable def eD.y:eD->Option (List eT)
 |.c _ n=>d9 n
 |_=>eh
noncomputable def eD.z:eD->Option (List eT)
 |.c o n=>if o then d9 n else eh
 |_=>eh
noncomputable def eD.B:eD->Option (List (Int×eT))
 |.g o n=>if o then d9 n else eh
 |_=>eh
noncomputable def eD.t:eD->Bool
 |.j=>eb
 |_=>em
noncomputable def eD.q:eD->Bool
 |.b .c=>eb
 |_=>em
noncomputable def eD.r:eD->Bool
 |.b .e=>eb
 |_=>em
def C2(t:eB):eD->Option mn
 |.b x=>pd x
 |v=>((ia t v).bind kO).map tF
noncomputable def yZ(a b:Option mn):Option Bool:=a.bind λC=>b.bind λK=>if min C.depth K.depth≤500 then d9 (AY C K) else eh
def sS{L:Type}(v u:eD)(f:Int->Int->L):Option L:=v.l.bind λi=>u.l.map λj=>f i j
def yY(t:eB)(v u:eD):Option Bool:=sS v u (λi j=>eU (i=j))<|>((jC t v).bind λa=>(jC t u).map λb=>eU (a=b))<|>yZ (C2 t v) (C2 t u)
def Cr(t:eB)(v u:eD):Option Bool:=v.l.bind λi=>if u.t then d9 (eU (i∈t.b)) else(jC t u).map λX=>eU (i∈X)
def mU(t:eB):oP->eD->eD->Option Bool
 |fZ,v,u=>yY t v u
 |gd,v,u=>(yY t v u).map (!·)
 |lj,v,u=>sS v u λi j=>eU (i<j)
 |.LtE,v,u=>sS v u λi j=>eU (i≤j)
 |lh,v,u=>sS v u λi j=>eU (j<i)
 |.GtE,v,u=>sS v u λi j=>eU (j≤i)
 |.Is,v,u=>if u.r then d9 v.r else eh
 |uO,v,u=>if u.r then d9 (!v.r) else eh
 |oj,v,u=>Cr t v u
 |xJ,v,u=>(Cr t v u).map (!·)
abbrev rE(i:Int):Prop:=-(2^40)<i∧i<2^40
abbrev iZ(i:Int):Prop:=-(2^20)<i∧i<2^20
def FL(v u:eD):Option eD:=v.y.bind λz=>u.y.bind λl=>if z.length+l.length≤100000 then d9 (.c eb (z++l)) else eh
def HV(v u:eD):Option eD:=v.y.bind λz=>u.l.bind λn=>z.head?.bind λx=>if z.length=1∧n≤100000∧-100000≤n then d9 (.c eb (iJ n.toNat x)) else eh
noncomputable def Hq:qI->Int->Int->Option Int
 |io,i,j=>d9 (i+j)
 |gS,i,j=>d9 (i-j)
 |jb,i,j=>if rE i∧rE j then d9 (i*j) else eh
 |.Mod,i,j=>if j≠0 then d9 (i.fmod j) else eh
 |pP,i,j=>if j≠0∧iZ j then d9 (i.fdiv j) else eh
 |_,_,_=>eh
def Rh:qI->eD->eD->Option eD
 |io,v,u=>FL v u
 |jb,v,u=>HV v u
 |_,_,_=>eh
def rl(o:qI)(v u:eD):Option eD:=(v.l.bind λi=>u.l.bind λj=>(Hq o i j).map eD.a)<|>Rh o v u
noncomputable def pq(z:List eT)(i:Int):Option eD:=
 if 0≤i then(if i<1000000 then(z[i.toNat]?).map .b else eh)
 else if-(z.length:Int)≤i∧-1000000≤i then(z[(i+z.length).toNat]?).map .b else eh
noncomputable def Vg(as:List eT)(i:Int):Option eD:=if 0≤i∧i<1000000 then(as[i.toNat]?).map .b else eh
def UT(t:eB)(i:Int):eD->Option eD
 |.j=>if i∈t.b then d9 (.b (.d i)) else eh
 |.g _ G=>(G.lookup i).map .b
 |.h=>if i=0 then d9 .m else if i=1 then d9 (.a t.e) else eh
 |.m=>if 0≤i∧i<1000000 then(t.k[i.toNat]?).map .a else eh
 |.b x=>(eD.b x).v.bind λas=>Vg as i
 |.c _ z=>pq z i
 |.f n k=>(ia t (.f n k)).bind λz=>pq z i
def m9(t:eB)(v i:eD):Option eD:=i.l.bind λi=>UT t i v
def gE.n(w:gE)(n:Int)(R:Nat):List eD:=[.a n,.a w.b,.a w.c,.f n R,.a w.g,.a w.h,.a w.d,.a w.e,.a w.i,.a w.j,.a w.k,.a w.l,.d em,.a w.f,.c em [],.c em []]
def eB.n(t:eB):List eD:=([.j,.a t.c,.a t.l,.a 3,.a 2,.a t.d,.a t.i]:List eD).take t.g
def qm(t:eB)(f:Nat):eD->Option eD
 |.b (.d n)=>((t.a n).n n t.h)[f]?
 |.b .c=>if 16≤f then t.n[f-16]? else eh
 |_=>eh
noncomputable def gE.m(w:gE)(i:Int):Nat->Option gE
 |2=>d9 { w with c:=i }|4=>d9 { w with g:=i }|5=>d9 { w with h:=i }|6=>d9 { w with d:=i }|7=>d9 { w with e:=i }
 |8=>d9 { w with i:=i }|9=>d9 { w with j:=i }|10=>d9 { w with k:=i }|11=>d9 { w with l:=i }|13=>d9 { w with f:=i }
 |_=>eh
noncomputable def eB.o(t:eB)(i:Int):Nat->Option eB
 |18=>d9 { t with l:=i }
 |21=>d9 { t with d:=i,g:=max t.g 6 }
 |22=>if 6≤t.g then d9 { t with i:=i,g:=max t.g 7 } else eh
 |_=>eh
def wY(t:eB)(f:Nat)(v u:eD):Option eB:=
 if v.q then u.l.bind λi=>t.o i f
 else v.u.bind λn=>(u.l.bind λi=>((t.a n).m i f).map (t.f n))<|>(u.z.bind λz=>if f=3 then(l6 z).map λX=>{ t.m n X with h:=t.h+1 } else if f=14∧z.isEmpty then d9 t else eh)
noncomputable def rD(t:eB)(n:Int):List Nat->List eT->Option eB
 |[],[]=>d9 t
 |f::y,x::as=>(eD.b x).l.bind λi=>((t.a n).m i f).bind λw=>rD (t.f n w) n y as
 |_,_=>eh
noncomputable def kN:List Int->Int
 |[]=>0
 |[x]=>x
 |x::r=>max x (kN r)
def zA(t:eB):eD->Option Nat
 |.m=>d9 t.k.length
 |v=>(ia t v).map qB
def Cv(i:Bool)(t:eB)(v:eD):Option (List Int):=if v.t then(if i then d9 t.b else eh) else jC t v
def o7(i:Bool)(t:eB)(g:Nat)(v:eD):Option eD:=match g with
 |0=>(zA t v).bind λn=>if n≤100000 then d9 (.a n) else eh
 |1=>(jC t v).bind λX=>if i then d9 (.a X.sum) else eh
 |2=>(jC t v).bind λX=>if i∧X≠[] then d9 (.a (kN X)) else eh
 |3=>(Cv i t v).bind λX=>if X.length<64 then d9 (.c eb ((X.mergeSort λa b=>eU (a≤b)).map .a)) else eh
 |5=>(ia t v).bind λz=>if z.length≤100000 then d9 (.b (.f z)) else eh
 |6=>(ia t v).bind λz=>if z.length≤100000 then d9 (.c eb z) else eh
 |_=>eh
noncomputable def rf:List eD->Option (List eT)
 |[]=>d9 []
 |v::r=>v.w.bind λa=>(rf r).map (a::·)
noncomputable def qy(k:Nat):List (List eT)->Option (List (List eT))
 |[z]=>if k=0 then d9 (z.map λx=>[x]) else if k=2 then d9 (z.zipIdx.map λp=>[.a p.2,p.1]) else eh
 |[z,l]=>if k=1∧z.length=l.length then d9 ((z.zip l).map λp=>[p.1,p.2]) else eh
 |[z,l,N]=>if k=1∧z.length=l.length∧z.length=N.length then d9 ((z.zip (l.zip N)).map λp=>[p.1,p.2.1,p.2.2]) else eh
 |_=>eh
def w7(t:eB)(O:eB):eD->Prop
 |.f n _=>O.h=t.h∧(O.a n).a=(t.a n).a
 |_=>True
noncomputable def zZ(t O:eB):DecidablePred (w7 t O):=λv=>by cases v<;>unfold w7<;>infer_instance
noncomputable def pE(t O:eB)(J:List eD):Bool:=J.all λv=>@eU _ (zZ t O v)
noncomputable def ou(t:eB):List eD->Option (List (List eT))
 |[]=>d9 []
 |v::r=>(ia t v).bind λx=>(ou t r).map (x::·)
def iS(Y:List (Nat×fX))(F:Fr)(W:List Nat)(C:List eT):Fr:=fV (λi=>if Y.lookup i=d9 gb then(F i).map eD.e else eh) W C
inductive Fl where
 |a
 |b (v:eD)
structure ir where
 b:Nat->List eD->eB->Option (eD×eB)
 a:Bool
def zE(m:Nat)(v:eD):Bool:=if m<28 then v.u.isSome else v.q
noncomputable def wf(g:Nat):Option Int:=match g with
 |10=>d9 0|11=>d9 1|12=>d9 2|13=>d9 0|14=>d9 1|_=>eh
noncomputable def sM(Z:eB->Bool)(e:List eT->Fr)(j:eB->Fr->Option (Bool×eB))(c:eB->Fr->Option (eD×eB)):List (List eT)->eB->List eT->Option (List eT×eB)
 |[],t,z=>if Z t then d9 (z,t) else eh
 |r::L,t,z=>if Z t then
   (j t (e r)).bind λ(b,E)=>if b then(c E (e r)).bind λ(v,S)=>v.w.bind λa=>sM Z e j c L S (z++[a])
    else sM Z e j c L E z
  else eh
mutual
noncomputable def eW.q(Z:ir):eW->eB->Fr->Option (eD×eB)
 |.a i,t,S=>(S i).map λaa=>(aa.e,t)
 |.x g,t,S=>(wf g).map λi=>(.a i,t)
 |.d i,t,S=>d9 (.a i,t)
 |.F,t,S=>d9 (.b .e,t)
 |.I b,t,S=>d9 (.d b,t)
 |.G s,t,S=>d9 (.b (.h s),t)
 |.c e f,t,S=>(e.q Z t S).bind λ(aa,t)=>(qm t f aa).map (·,t)
 |.n e i,t,S=>(e.q Z t S).bind λ(aa,t)=>(i.q Z t S).bind λ(ac,t)=>(m9 t aa ac).map (·,t)
 |.H e,t,S=>(e.q Z t S).bind λ(aa,t)=>(ia t aa).bind λxs=>if xs.length≤100000 then d9 (.c eb xs.reverse,t) else eh
 |.p o l r,t,S=>(l.q Z t S).bind λ(aa,t)=>(r.q Z t S).bind λ(ac,t)=>(rl o aa ac).map (·,t)
 |.h o l r,t,S=>(l.q Z t S).bind λ(aa,t)=>(r.q Z t S).bind λ(ac,t)=>(mU t o aa ac).map λb=>(.d b,t)
 |.M e,t,S=>(e.q Z t S).bind λ(aa,t)=>aa.p.map λb=>(.d (!b),t)
 |.K e,t,S=>(e.q Z t S).bind λ(aa,t)=>aa.l.map λi=>(.a (-i),t)
 |.D oO es,t,S=>(es.g Z t S).map λ(b,t)=>(.d b,t)
 |.D jw es,t,S=>(es.h Z t S).map λ(b,t)=>(.d b,t)
 |.C af b o,t,S=>(af.q Z t S).bind λ(aa,t)=>aa.p.bind λak=>if ak then b.q Z t S else o.q Z t S
 |.z es,t,S=>(es.d Z t S).bind λ(vs,t)=>(rf vs).bind λas=>if as.length≤100000 then d9 (.c eb as,t) else eh
 |.A es,t,S=>(es.d Z t S).bind λ(vs,t)=>(rf vs).bind λas=>if as.length≤100000 then d9 (.b (.f as),t) else eh
 |.O,t,S=>d9 (.g eb [],t)
 |.B ag W ae aj Y,t,S=>(ae.c Z t S).bind λ(vs,t1)=>(ou t1 vs).bind λls=>(qy ae.h ls).bind λrs=>if rs.length≤100000 then
   (sM (λt'=>pE t1 t' vs) (iS Y S W) (λt S=>aj.g Z t S) (λt S=>ag.q Z t S) rs t1 []).map λ(as,t)=>(.c eb as,t) else eh
 |.j g es,t,S=>(es.d Z t S).bind λ(vs,t)=>Z.b g (vs.map eD.e) t
 |.v o m es,t,S=>(o.q Z t S).bind λ(aa,t)=>(es.d Z t S).bind λ(vs,t)=>if zE m aa then Z.b (1000+m) (aa::vs.map eD.e) t else eh
 |.w g e,t,S=>(e.q Z t S).bind λ(aa,t)=>(o7 Z.a t g aa).map (·,t)
 |.J o k,t,S=>(o.q Z t S).bind λ(aa,t1)=>(ia t1 aa).bind λU=>(k.q Z t1 S).bind λ(ac,t)=>ac.l.bind λk=>(jC t aa).bind λX=>if k∈X∧X.length≤100000 then d9 (.a (X.idxOf k:Nat),t) else eh
 |.L o k,t,S=>(o.q Z t S).bind λ(aa,t)=>(k.q Z t S).bind λ(ac,t)=>ac.l.bind λk=>if aa.t then d9 (.b (if k∈t.b then .d k else .e),t) else eh
noncomputable def Es.d(j:ir):Es->eB->Fr->Option (List eD×eB)
 |.b,t,F=>d9 ([],t)
 |.a e w,t,F=>(e.q j t F).bind λ(v,t)=>(w.d j t F).map λ(J,t)=>(v::J,t)
noncomputable def Es.g(j:ir):Es->eB->Fr->Option (Bool×eB)
 |.b,t,F=>d9 (eb,t)
 |.a e w,t,F=>(e.q j t F).bind λ(v,t)=>v.p.bind λk=>if k then w.g j t F else d9 (em,t)
noncomputable def Es.h(j:ir):Es->eB->Fr->Option (Bool×eB)
 |.b,t,F=>d9 (em,t)
 |.a e w,t,F=>(e.q j t F).bind λ(v,t)=>v.p.bind λk=>if k then d9 (eb,t) else w.h j t F
noncomputable def iF.c(l:ir):iF->eB->Fr->Option (List eD×eB)
 |.a e,t,F=>(e.q l t F).map λ(v,t)=>([v],t)
 |.b e m,t,F=>if l.a then(e.q l t F).bind λ(v,t)=>(m.q l t F).map λ(u,t)=>([v,u],t) else eh
 |.f e m n,t,F=>if l.a then(e.q l t F).bind λ(v,t)=>(m.q l t F).bind λ(u,t)=>(n.q l t F).map λ(w,t)=>([v,u,w],t) else eh
 |.g e,t,F=>if l.a then(e.q l t F).map λ(v,t)=>([v],t) else eh
noncomputable def iF.h:iF->Nat
 |.a _=>0
 |.b _ _=>1
 |.f _ _ _=>1
 |.g _=>2
end
end
section
noncomputable def qw(G:List (Int×eT))(k:Int)(v:eT):List (Int×eT):=if G.any (λp=>p.1=k) then G.map (λp=>if p.1=k then(p.1,v) else p) else G++[(k,v)]
def zQ:eD->Bool
 |.b _=>eb
 |v=>v.i
noncomputable def mj(j:eB->Fr->Option (eD×eB))(B:eB->Fr->Option (Fl×eB×Fr)):Nat->eB->Fr->Option (Fl×eB×Fr)
 |0,_,_=>eh
 |n+1,t,F=>(j t F).bind λ(v,t)=>v.p.bind λb=>if b then(B t F).bind λ(f,t,F)=>match f with|.a=>mj j B n t F|.b v=>d9 (.b v,t,F)
  else d9 (.a,t,F)
noncomputable def j9(Z:eB->Fr->Bool)(W:List Nat)(B:eB->Fr->Option (Fl×eB×Fr)):List (List eT)->eB->Fr->Option (Fl×eB×Fr)
 |[],t,F=>if Z t F then d9 (.a,t,F) else eh
 |r::L,t,F=>if Z t F then(B t (fV F W r)).bind λ(f,t,F)=>match f with|.a=>j9 Z W B L t F|.b v=>d9 (.b v,t,F)
  else eh
noncomputable def fh(M:List Nat)(w:List eD):Fr:=λi=>(M.zip w).lookup i
mutual
noncomputable def js.H:js->List Nat
 |.a i _=>[i]
 |.l _ e _=>e
 |.y e x=>x::e
 |.z i _ x=>[i,x]
 |.D _ x=>[x]
 |.n x _ _=>[x]
 |.m x _=>[x]
 |.u x _=>[x]
 |.A x _ _=>[x]
 |.c _ b o=>b.f++o.f
 |.w _ b=>b.f
 |.j W _ b=>W++b.f
 |_=>[]
noncomputable def Ss.f:Ss->List Nat
 |.b=>[]
 |.a s r=>s.H++r.f
end
noncomputable def eW.P:eW->Option Nat
 |.a i=>d9 i
 |_=>eh
noncomputable def iF.d:iF->List eW
 |.a e=>[e]
 |.b e l=>[e,l]
 |.f e l m=>[e,l,m]
 |.g e=>[e]
noncomputable def eD.D:eD->Bool
 |.f _ _=>eb
 |_=>em
def qz(F:Fr)(x:Nat):Option Int:=(F x).bind eD.u
def jE(F:Fr)(x:Nat):Option (List eT):=(F x).bind eD.z
def iY(F:Fr)(i:Nat):Option (List Int):=(jE F i).bind l6
def mK(F:Fr)(e:eW)(v:eD):Bool:=match e.P with
 |some i=>!(jE F i).isSome||(iY F i).isSome
 |none=>v.i||v.D
def m0(F A:Fr)(e:eW):Bool:=match e.P with
 |some i=>!(iY F i).isSome||eU (iY A i=iY F i)
 |none=>eb
def uD(F:Fr)(x:Nat):Bool:=(F x).any eD.q
noncomputable def Cw(t:eB):eD->Option Int
 |.f n k=>if t.h=k then d9 n else eh
 |_=>eh
def uj(F:Fr)(t:eB)(x:Nat):Option Int:=(F x).bind (Cw t)
noncomputable def eD.C:eD->Bool
 |.h=>eb
 |_=>em
def tb(F:Fr)(t:eB)(x:Nat)(u v:eD):Option (Fl×eB×Fr):=(F x).bind λz=>u.l.bind λk=>
 (z.B.bind λG=>v.w.bind λy=>if G.length≤100000 then d9 (.a,t,eL F x (.g eb (qw G k y))) else eh)<|>
 ((Cw t z).bind λn=>v.l.bind λj=>if 0≤k∧k<((t.a n).a.length:Int)∧k<1000000 then d9 (.a,t.m n ((t.a n).a.set k.toNat j),F) else eh)<|>
 (if z.C∧k=1 then v.l.map λj=>(.a,{ t with e:=j },F) else eh)
mutual
noncomputable def js.G(P:ir):js->eB->Fr->Option (Fl×eB×Fr)
 |.a i e,t,I=>(e.q P t I).map λ(K,t)=>(.a,t,oJ I i K)
 |.l Q is e,t,I=>(e.q P t I).bind λ(K,t)=>K.v.bind λas=>if P.a∧as.length=is.length then d9 (.a,t,if Q then fV I is.reverse as.reverse else fV I is as) else eh
 |.y is x,t,I=>(jE I x).bind λZ=>Z.getLast?.bind λac=>(eD.b ac).v.bind λas=>
   if P.a∧as.length=is.length∧Z.length≤100000 then d9 (.a,t,fV (eL I x (.c eb Z.dropLast)) is as) else eh
 |.z i R x,t,I=>(jE I x).bind λZ=>Z.getLast?.bind λac=>(eD.b ac).l.bind λY=>
   if uD I R∧Y∈t.b∧Z.length≤100000 then d9 (.a,t,eL (eL I x (.c eb Z.dropLast)) i (.b (.d Y))) else eh
 |.d o f e,t,I=>(e.q P t I).bind λ(K,t)=>(o.q P t I).bind λ(aa,t)=>(wY t f aa K).map λt=>(.a,t,I)
 |.D o x,t,I=>(jE I x).bind λZ=>(o.q P t I).bind λ(aa,t)=>aa.u.bind λY=>(l6 Z).map λX=>
   (.a,{ t.m Y X with h:=t.h+1 },λae=>if ae=x then eh else I ae)
 |.s i fs e,t,I=>(e.q P t I).bind λ(K,t)=>K.v.bind λas=>(qz I i).bind λY=>if P.a then(rD t Y fs as).map λt=>(.a,t,I) else eh
 |.n x k e,t,I=>(e.q P t I).bind λ(K,t)=>(k.q P t I).bind λ(aa,t)=>tb I t x aa K
 |.m x e,t,I=>(e.q P t I).bind λ(K,t)=>(jE I x).bind λZ=>K.w.bind λac=>if Z.length≤100000 then d9 (.a,t,eL I x (.c eb (Z++[ac]))) else eh
 |.u x e,t,I=>(e.q P t I).bind λ(K,t)=>(jE I x).bind λZ=>(ia t K).bind λys=>if Z.length+ys.length≤100000 then d9 (.a,t,eL I x (.c eb (Z++ys))) else eh
 |.A x k e,t,I=>(uj I t x).bind λU=>(k.q P t I).bind λ(aa,t)=>(e.q P t I).bind λ(K,t)=>(uj I t x).bind λY=>aa.l.bind λk=>K.l.bind λae=>
   if 0≤k∧k≤((t.a Y).a.length:Int)∧(t.a Y).a.length<100000 then d9 (.a,t.m Y ((t.a Y).a.take k.toNat++ae::(t.a Y).a.drop k.toNat),I) else eh
 |.B o e,t,I=>(e.q P t I).bind λ(K,O)=>(qz I o).bind λY=>K.l.bind λk=>
   if O.h=t.h∧k∈(O.a Y).a∧(O.a Y).a.length≤100000 then d9 (.a,O.m Y ((O.a Y).a.eraseIdx ((O.a Y).a.idxOf k)),I) else eh
 |.q R e,t,I=>(e.q P t I).bind λ(K,t)=>K.l.bind λk=>
   if uD I R∧k∈t.b∧t.b.length≤100000 then d9 (.a,{ t with b:=t.b.filter λY=>eU (Y≠k) },I) else eh
 |.h e,t,I=>(e.q P t I).map λ(K,t)=>(.a,t,I)
 |.c af b o,t,I=>(af.q P t I).bind λ(K,t)=>K.p.bind λx=>if x then b.c P t I else o.c P t I
 |.w af b,t,I=>mj (λt I=>af.q P t I) (λt I=>b.c P t I) 10000 t I
 |.j W N b,t,I=>(N.c P t I).bind λ(J,E)=>(ou E J).bind λM=>(qy N.h M).bind λL=>if N.d.all (λe=>e.P.all λi=>!((W++b.f).contains i))∧(N.d.zip J).all (λag=>mK I ag.1 ag.2) then
   j9 (λO F'=>pE E O J&&N.d.all λe=>m0 I F' e) W (λt I=>b.c P t I) L E I else eh
 |.g e,t,I=>(e.q P t I).bind λ(K,t)=>if zQ K then d9 (.b K,t,I) else eh
 |.r x,t,I=>(I x).bind λK=>if zQ K then d9 (.b K,t,I) else eh
 |.F,t,I=>d9 (.b (.b .e),t,I)
 |.p,t,I=>eh
noncomputable def Ss.c(g:ir):Ss->eB->Fr->Option (Fl×eB×Fr)
 |.b,t,F=>d9 (.a,t,F)
 |.a s r,t,F=>(s.G g t F).bind λ(h,t,F)=>match h with|.a=>r.c g t F|.b v=>d9 (.b v,t,F)
end
def zb(w:List eD)(t:eB):Option (eD×eB):=if w.length=3∧t.b.length≤100000 then w[0]?.bind λv=>if v.q=eb then w[1]?.bind λv=>v.l.bind λs=>w[2]?.bind λv=>v.l.map λp=>
  (.b (.d (t.c+1)),{ t.f (t.c+1) ⟨s,p,[],0,0,0,0,0,1,1,0,0⟩ with c:=t.c+1,b:=t.b++[t.c+1] }) else eh else eh
def U7:List (Nat×List Nat×Ss):=[
 (31,[66,53,57,56],ud),
 (33,[66,53,57,56,93],vU),
 (26,[66,59,60],vP),
 (1023,[50,56],sy),
 (1024,[50,56,57],su),
 (1025,[50,56],sr),
 (1026,[50],Gi),
 (1027,[50,58],vF),
 (1029,[50,53],vE),
 (1030,[50,53],vB),
 (1031,[50,53],vD),
 (1032,[50,53],vC),
 (1033,[50,56],sq),
 (15,[54],vG),
 (16,[56],vS),
 (17,[66,53],B2),
 (18,[66],yP),
 (19,[66,53],B3),
 (20,[66,69,70],ri),
 (21,[66,53],vJ),
 (22,[66,53,56],vM),
 (23,[74,75,76],sF),
 (24,[66,53,56,57],vR),
 (25,[66],vQ),
 (27,[66,53],vX),
 (28,[66],vV),
 (29,[66,53],vO),
 (30,[66],vH),
 (32,[66,53,56],rh),
 (34,[66,53],vK),
 (35,[66,53],sD),
 (36,[66,95],vN),
 (37,[66,53],vI),
 (38,[66,53],yO),
 (39,[98,99],sA),
 (40,[66,53,56],sC),
 (41,[66,53,56,100],vL),
 (43,[98,66,103],uc)]
def B5(g:Nat):Option (List Nat×Ss):=U7.lookup g
noncomputable def gF(i:Bool):Nat->Nat->List eD->eB->Option (eD×eB)
 |0,_,_,_=>eh
 |k+1,g,w,t=>if g=1028 then(if i∧3≤k then zb w t else eh) else(B5 g).bind λ(M,b)=>if M.length=w.length then
   (b.c ⟨gF i k,i⟩ t (fh M (w.map eD.e))).bind λ(f,t,_)=>match f with
    |.b v=>d9 (v,t)
    |.a=>d9 (.b .e,t)
  else eh
end
section
variable{c:Cx}{V:eJ}{H M:AH}
structure Ad where
 e:et
 i:et
 c:et
 f:et
 j:et
 b:Int->et
 g:Int->et
 a:Int->et
 d:Int->et
 h:Int->et
def ng(a:Ad)(n:Int)(w:gE):List Value:=[vi n,vi w.b,vi w.c,ec (a.a n),vi w.g,vi w.h,vi w.d,vi w.e,vi w.i,vi w.j,vi w.k,vi w.l,fF em,vi w.f,ec (a.d n),ec (a.h n)]
def xj(a:Ad)(t:eB):List Value:=[ec a.c,vi t.c,vi t.l,vi 3,vi 2,vi t.d,vi t.i]
def i0(a:Ad)(n:Int)(w:gE):List (String×ed):=(lO.take 16).zip (ng a n w)
def jv(a:Ad)(t:eB):List (String×ed):=((lO.drop 16).take 7).zip ((xj a t).take t.g)
def eB.j(t:eB)(n:Int):Prop:=1≤n∧n≤t.c
structure yI(H:AH)(a:Ad)(n:Int)(w:gE):Prop where
 d:H (a.b n)=d9 (.h 93 (a.g n))
 c:H (a.g n)=d9 (.b (i0 a n w))
 b:H (a.a n)=d9 (.a (w.a.map vi))
 f:H (a.d n)=d9 (.a [])
 e:H (a.h n)=d9 (.a [])
structure In(H:AH)(a:Ad)(t:eB):Prop where
 e:H a.e=d9 (.h 164 a.i)
 d:H a.i=d9 (.b (jv a t))
 c:H a.c=d9 (.e (t.b.map λn=>(n,ec (a.b n))))
 h:(a.c==mO)=em
 g:t.b.Nodup∧0≤t.c
 f:∀n∈t.b,t.j n
 b:∀n,t.j n->yI H a n (t.a n)
 j:∀n m,t.j n->t.j m->(n≠m->a.a n≠a.a m)∧a.a n≠a.d m∧a.a n≠a.h m
 i:∀n,t.j n->a.a n≠a.f∧a.a n≠a.j∧a.d n≠a.f∧a.h n≠a.f
structure Wd(H:AH)(a:Ad)(t:eB):Prop where
 c:H a.f=d9 (.a [ec a.j,vi t.e])
 d:H a.j=d9 (.a (t.k.map vi))
 e:a.f≠a.j
 b:5≤t.g->In H a t
def jB(a:Ad)(t:eB)(x:et):Prop:=x=a.f∨(5≤t.g∧(x=a.i∨x=a.c∨∃n,t.j n∧(x=a.g n∨x=a.a n)))
noncomputable def AO.i:AO->Bool
 |.a _=>eb
 |.e _=>eb
 |.b _=>eb
 |_=>em
theorem LP{a:Ad}{t:eB}{x:et}(w:Wd H a t)(h:jB a t x):∃o,H x=d9 o∧o.i=true:=by
 rcases h with rfl|⟨J,h⟩
 ·exact(ey _ w.c rfl)
 ·have i:=w.b J
  rcases h with rfl|rfl|⟨n,W,rfl|rfl⟩
  ·exact(ey _ i.d rfl)
  ·exact(ey _ i.c rfl)
  ·exact(ey _ ((i.b n W).c) rfl)
  ·exact(ey _ ((i.b n W).b) rfl)
theorem jB.a{b:Ad}{t:eB}{x:et}(w:Wd H b t)(h:jB b t x){G:Prop}(N:∀o,H x=d9 o->o.i=eb->G):G:=eR (LP w h) N
theorem nG{a:Ad}{t:eB}{x:et}{o:AO}(w:Wd H a t)(Z:H x=d9 o)(Y:o.i=em):¬jB a t x:=λh=>by
 refine h.a w λX K I=>?_;rw[Z] at K;(replace K:=eX K;subst K);rw[Y] at I;exact nB I
theorem Bg{a:Ad}{t:eB}{x:et}(w:Wd H a t)(Z:H x=eh):¬jB a t x:=λh=>by
 refine h.a w λX K I=>?_;rw[Z] at K;exact nS K
def jx(a:Ad)(t:eB)(x:et):Prop:=jB a t x∨x=a.j∨(5≤t.g∧(x=a.e∨∃n,t.j n∧(x=a.b n∨x=a.d n∨x=a.h n)))
noncomputable def AO.j:AO->Bool
 |.g _=>em
 |.f _=>em
 |.c _=>em
 |_=>eb
theorem LR{a:Ad}{t:eB}{x:et}(w:Wd H a t)(h:jx a t x):∃o,H x=d9 o∧o.j=true:=by
 rcases h with h|rfl|⟨J,h⟩
 ·refine h.a w λo K I=>?_
  exact(ey o K (by(clear K;cases o)<;>first|rfl|exact nB I))
 ·exact(ey _ w.d rfl)
 ·have i:=w.b J
  rcases h with rfl|⟨n,W,rfl|rfl|rfl⟩
  ·exact(ey _ i.e rfl)
  ·exact(ey _ ((i.b n W).d) rfl)
  ·exact(ey _ ((i.b n W).f) rfl)
  ·exact(ey _ ((i.b n W).e) rfl)
theorem jx.a{b:Ad}{t:eB}{x:et}(w:Wd H b t)(h:jx b t x){G:Prop}(N:∀o,H x=d9 o->o.j=eb->G):G:=eR (LR w h) N
theorem Bi{a:Ad}{t:eB}{x:et}{o:AO}(w:Wd H a t)(Z:H x=d9 o)(Y:o.j=em):¬jx a t x:=λh=>by
 refine h.a w λX K I=>?_;rw[Z] at K;(replace K:=eX K;subst K);rw[Y] at I;exact nB I
theorem Bj{a:Ad}{t:eB}{x:et}(w:Wd H a t)(Z:H x=eh):¬jx a t x:=λh=>by
 refine h.a w λX K I=>?_;rw[Z] at K;exact nS K
structure fk(a:Ad)(t:eB)(H:AH)(a':Ad)(t':eB)(H':AH):Prop where
 b:Wd H' a' t'
 f:∀x o,H x=d9 o->¬jB a t x->H' x=d9 o
 j:∀x o,H x=d9 o->∃o',H' x=d9 o'
 l:∀x,jB a' t' x->jB a t x∨H x=eh
 r:∀x,jx a' t' x->jx a t x∨H x=eh
 s:t'.k=t.k
 m:a'.f=a.f
 p:a'.j=a.j
 c:5≤t.g->5≤t'.g∧a'.e=a.e∧a'.c=a.c∧t.c≤t'.c∧(∀n,t.j n->a'.b n=a.b n)∧t.h≤t'.h∧(t'.h=t.h->∀n,t.j n->a'.a n=a.a n)
theorem eB.j.a{t O:eB}{n:Int}(h:t.j n)(C:t.c≤O.c):O.j n:=⟨h.1,jY h.2 C⟩
theorem fk.e{a:Ad}{t:eB}(w:Wd H a t):fk a t H a t H:=
 ⟨w,λU U h U=>h,λU o h=>⟨o,h⟩,λU h=>eH h,λU h=>eH h,rfl,rfl,rfl,λh=>⟨h,rfl,rfl,ja _,λU U=>rfl,ig _,λU U U=>rfl⟩⟩
theorem fk.d{a s B:Ad}{t O I:eB}{i:AH}(p:fk a t H s O M)(q:fk s O M B I i):fk a t H B I i:=by
 refine⟨q.b,λx o Z l=>?_,λx o Z=>?_,λx Z=>?_,λx Z=>?_,q.s.trans p.s,q.m.trans p.m,q.p.trans p.p,λJ=>?_⟩
 ·exact q.f x o (p.f x o Z l) λh=>(p.l x h).elim l λe=>by rw[Z] at e;exact iX e
 ·refine fL (p.j x o Z) λX K=>?_
  exact q.j x X K
 ·rcases q.l x Z with h|h
  ·exact p.l x h
  ·right
   cases e:H x with
   |none=>rfl
   |some o=>refine fL (p.j x o e) λX K=>?_;rw[h] at K;exact nS K
 ·rcases q.r x Z with h|h
  ·exact p.r x h
  ·right
   cases e:H x with
   |none=>rfl
   |some o=>refine fL (p.j x o e) λX K=>?_;rw[h] at K;exact nS K
 ·refine wL (p.c J) λQ D g V L y C=>?_
  refine wL (q.c Q) λY b k S w A j=>?_;refine⟨Y,b.trans D,k.trans g,jY V S,λn W=>(w n (W.a V)).trans (L n W),im y A,λN n W=>?_⟩;have R:O.h=t.h:=W2 (N▸A) y;exact(j (N.trans R.symm) n (W.a V)).trans (C R n W)
theorem fk.h{a s:Ad}{t O:eB}(p:fk a t H s O M){x:et}(Z:M x=eh):H x=none:=by
 cases e:H x with
 |none=>rfl
 |some o=>refine fL (p.j x o e) λX K=>?_;rw[Z] at K;exact nS K
theorem Wd.j{a:Ad}{t:eB}(w:Wd H a t)(e:∀x o,H x=d9 o->M x=d9 o):Wd M a t:=
 ⟨e _ _ w.c,e _ _ w.d,w.e,λJ=>let i:=w.b J;⟨e _ _ i.e,e _ _ i.d,e _ _ i.c,i.h,i.g,i.f,λn W=>let w:=i.b n W;⟨e _ _ w.d,e _ _ w.c,e _ _ w.b,e _ _ w.f,e _ _ w.e⟩,i.j,i.i⟩⟩
theorem fk.i{a:Ad}{t:eB}(w:Wd H a t)(e:∀x o,H x=d9 o->M x=d9 o):fk a t H a t M:=
 ⟨w.j e,λx o h U=>e x o h,λx o h=>⟨o,e x o h⟩,λU h=>eH h,λU h=>eH h,rfl,rfl,rfl,λh=>⟨h,rfl,rfl,ja _,λU U=>rfl,ig _,λU U U=>rfl⟩⟩
theorem rn{D:et}{o:AO}(h:H D=eh):∀x p,H x=d9 p->eQ H D o x=d9 p:=λx p Z=>by
 rw[fw _ _ (λe=>by rw[e,h] at Z;exact nS Z)];exact Z
theorem fk.g{a:Ad}{t:eB}{D:et}{o:AO}(w:Wd H a t)(h:H D=eh):fk a t H a t (eQ H D o):=.i w (rn h)
mutual
noncomputable def AR(H:AH)(a:Ad)(t:eB):eT->ed->Prop
 |.e,u=>u=ez
 |.g b,u=>u=fF b
 |.a i,u=>u=ej i 0
 |.h s,u=>u=eC (eE s) 0
 |.c,u=>u=ec a.e∧5≤t.g
 |.d n,u=>u=ec (a.b n)∧5≤t.g∧t.j n
 |.f as,u=>∃r c,u=ec r∧H r=d9 (.f c)∧gN H a t as c
noncomputable def gN(H:AH)(a:Ad)(t:eB):List eT->List ed->Prop
 |[],b=>b=[]
 |x::z,b=>∃u f,b=u::f∧AR H a t x u∧gN H a t z f
end
noncomputable def jK(H:AH)(a:Ad)(t:eB):List (Int×eT)->List (Int×ed)->Prop
 |[],b=>b=[]
 |x::z,b=>∃u f,b=(x.1,u)::f∧AR H a t x.2 u∧jK H a t z f
def VR(H:AH)(a:Ad)(t:eB):eD->ed->Prop
 |.b x,u=>AR H a t x u
 |.c o z,u=>∃r A,u=ec r∧H r=d9 (.a A)∧gN H a t z A∧¬jB a t r∧(o=eb->¬jx a t r)
 |.g o z,u=>∃r A,u=ec r∧H r=d9 (.e A)∧jK H a t z A∧(r==mO)=em∧¬jB a t r∧(o=eb->¬jx a t r)
 |.j,u=>u=ec a.c∧5≤t.g
 |.f n k,u=>∃r,u=ec r∧5≤t.g∧t.j n∧k≤t.h∧(t.h=k->r=a.a n)
 |.h,u=>u=ec a.f
 |.m,u=>u=ec a.j
noncomputable def jd(H:AH)(a:Ad)(t:eB):List eD->List ed->Prop
 |[],A=>A=[]
 |x::z,A=>∃u f,A=u::f∧VR H a t x u∧jd H a t z f
mutual
theorem A'{a s:Ad}{t O:eB}(p:fk a t H s O M)(w:Wd H a t):∀{x:eT} {u:ed},AR H a t x u->AR M s O x u
 |.e,_,h=>h
 |.g b,_,h=>h
 |.a i,_,h=>h
 |.h d,_,h=>h
 |.c,_,L=>fe L λe h=>⟨e.trans (congrArg ec (p.c h).2.1.symm),(p.c h).1⟩
 |.d n,_,Z=>gY Z λe h W=>⟨e.trans (congrArg ec ((p.c h).2.2.2.2.1 _ W).symm),(p.c h).1,W.a (p.c h).2.2.2.1⟩
 |.f as,_,j=>fT j λr c e h S=>⟨r,c,e,p.f _ _ h (nG w h rfl),gN.d p w S⟩
theorem gN.d{a s:Ad}{t O:eB}(i:fk a t H s O M)(k:Wd H a t):∀{l:List eT} {u:List ed},gN H a t l u->gN M s O l u
 |[],_,c=>c
 |_::_,_,L=>fT L λu f m c S=>⟨u,f,m,A' i k c,gN.d i k S⟩
end
theorem jK.o{a c:Ad}{t O:eB}(p:fk a t H c O M)(w:Wd H a t):∀{x:List (Int×eT)} {b:List (Int×ed)},jK H a t x b->jK M c O x b
 |[],_,h=>h
 |_::_,_,Z=>fT Z λb f e h S=>⟨b,f,e,A' p w h,jK.o p w S⟩
theorem fk.w{a s:Ad}{t O:eB}(p:fk a t H s O M){r:et}{o:AO}(h:H r=d9 o)(l:¬jB a t r):¬jB s O r:=λq=>
 (p.l r q).elim l λe=>by rw[h] at e;exact iX e
theorem fk.v{a s:Ad}{t O:eB}(p:fk a t H s O M){r:et}{o:AO}(h:H r=d9 o)(l:¬jx a t r):¬jx s O r:=λq=>
 (p.r r q).elim l λe=>by rw[h] at e;exact iX e
theorem VR.a{c s:Ad}{t O:eB}(p:fk c t H s O M)(w:Wd H c t):∀{v:eD} {u:ed},VR H c t v u->VR M s O v u
 |.b x,_,h=>A' p w h
 |.c _ _,_,Z=>oE Z λr A e h S b B=>⟨r,A,e,p.f _ _ h b,S.d p w,p.w h b,λq=>p.v h (B q)⟩
 |.g _ _,_,j=>oE j λr A e h S d L=>fe L λb B=>⟨r,A,e,p.f _ _ h b,S.o p w,d,p.w h b,λq=>p.v h (B q)⟩
 |.j,_,o=>fe o λe h=>⟨e.trans (congrArg ec (p.c h).2.2.1.symm),(p.c h).1⟩
 |.f i g,_,C=>oC C λr e h W z N=>⟨r,e,(p.c h).1,W.a (p.c h).2.2.2.1,im z (p.c h).2.2.2.2.2.1,λq=>by
  have R:t.h=O.h:=W2 (p.c h).2.2.2.2.2.1 (q▸z);rw[(p.c h).2.2.2.2.2.2 R.symm _ W];exact N (R.trans q)⟩
 |.h,_,e=>e.trans (congrArg ec p.m.symm)
 |.m,_,e=>e.trans (congrArg ec p.p.symm)
theorem VR.f{c:Ad}{t:eB}:∀{v:eD} {u:ed},VR H c t v u->VR H c t v.e u
 |.b _,_,h=>h
 |.c _ _,_,I=>oE I λr A e h S b U=>⟨r,A,e,h,S,b,(λh=>nB h)⟩
 |.g _ _,_,J=>oE J λr A e h S B K=>fe K λb U=>⟨r,A,e,h,S,B,b,(λh=>nB h)⟩
 |.j,_,h=>h
 |.f _ _,_,h=>h
 |.h,_,h=>h
 |.m,_,h=>h
theorem ry(v:eD):v.e.i=false:=by cases v<;>rfl
noncomputable def eD.k:eD->Bool
 |.c _ _=>eb
 |.g _ _=>eb
 |_=>em
def iy(c:Cx)(V:eJ)(H:AH)(x:String)(u:ed):Prop:=
 (c.a.kindOf (eE x)=d9 eu∧V x=d9 u)∨(c.a.kindOf (eE x)=d9 fK∧∃n,c.a.cells.lookup (eE x)=d9 n∧H n=d9 (.g (d9 u)))
structure FR(c:Cx)(B:AH)(a:Ad)(t:eB)(F:Fr)(ρ:eJ)(H:AH):Prop where
 h:∀i v,F i=d9 v->∃u,iy c ρ H (nm i) u∧VR H a t v u∧(v.i=eb->∃r,u=ec r∧B r=eh)
 d:∀i j v v' r,i≠j->F i=d9 v->F j=d9 v'->v.i=eb->v'.k=eb->iy c ρ H (nm i) (ec r)->¬iy c ρ H (nm j) (ec r)
 f:∀x,c.a.kindOf x=d9 fK->∃ad v0,c.a.cells.lookup x=d9 ad∧H ad=d9 (.g v0)∧(c.i=eh->B ad=eh)
 inj:∀x y ad,c.a.kindOf x=d9 fK->c.a.kindOf y=d9 fK->c.a.cells.lookup x=d9 ad->c.a.cells.lookup y=d9 ad->x=y
 b:kK c.b H
theorem FR.g{c:Cx}{B:AH}{a:Ad}{t:eB}{F:Fr}{V:eJ}{H:AH}(f:FR c B a t F V H)(x:ft)(h:c.a.kindOf x=d9 fK){G:Prop}(k:∀i Q,c.a.cells.lookup x=d9 i->H i=d9 (.g Q)->(c.i=eh->B i=eh)->G):G:=fT (f.f x h) k
theorem FR.e{c:Cx}{B:AH}{a:Ad}{t:eB}{F:Fr}{b:eJ}{H:AH}(f:FR c B a t F b H)(i:Nat)(v:eD)(h:F i=d9 v){G:Prop}(k:∀u,iy c b H (nm i) u->VR H a t v u->(v.i=eb->∃r,u=ec r∧B r=eh)->G):G:=f5 (f.h i v h) k
theorem uy{v:eD}(h:v.i=eb):v.k=true:=by
 cases v<;>first|rfl|exact nB h
theorem iy.b{x:String}{d q:ed}(h:iy c V H x d)(u:iy c V H x q):d=q:=by
 rcases h with ⟨k,h⟩ |⟨k,n,K,I⟩ <;>rcases u with ⟨Z,u⟩ |⟨Z,s,j,L⟩
 ·rw[h] at u;exact eX u
 ·rw[k] at Z;cases Z
 ·rw[k] at Z;cases Z
 ·rw[K] at j;(replace j:=eX j;subst j);rw[I] at L
  simpa using L
theorem iy.a{x:String}{u:ed}(h:iy c V H x u)(k:∀d v,H d=d9 (.g v)->M d=d9 (.g v)):iy c V M x u:=
 h.imp id λ⟨K,n,I,W⟩ =>⟨K,n,I,k _ _ W⟩
theorem FR.k{B:AH}{a:Ad}{t:eB}{F:Fr}(f:FR c B a t F V H){x:String}{u:ed}(h:iy c V M x u)(k:∀a v,H a=d9 (.g v)->M a=d9 (.g v)):iy c V H x u:=
 h.imp id λ⟨K,n,I,W⟩ =>by
  refine f.g _ K λs Q L b U=>?_;rw[I] at L;(clear U;(replace L:=eX L;subst L));have:=k _ _ b;rw[W] at this;obtain rfl:Q=d9 u:=by simpa using this.symm
  exact⟨K,n,I,b⟩
theorem FR.w{B:AH}{a s:Ad}{t O:eB}{F:Fr}(p:fk a t H s O M)(w:Wd H a t)(f:FR c B a t F V H):FR c B s O F V M:=by
 have k:∀n v,H n=d9 (.g v)->M n=d9 (.g v):=λn v h=>p.f _ _ h (nG w h rfl);refine⟨λi v N=>?_,λi j v b r J N C y D K I=>?_,λi D=>?_,f.inj,f.b.b λx o h=>p.f _ _ h (nG w h rfl)⟩
 ·refine f.e i v N λu K I W=>?_
  exact(fQ u (K.a k) (I.a p w) W)
 ·exact f.d i j v b r J N C y D (f.k K k) (f.k I k)
 ·refine f.g i D λn Q L d A=>?_
  exact(fS n Q L (k _ _ d) A)
end
section
variable{c:Cx}{V:eJ}{H M:AH}{P:iE}
noncomputable def i6(g:Nat):Addr:=(DY g [(15,175),(16,182),(17,189),(18,196),(19,203),(20,210),(21,217),(22,222),(23,227),(24,232),(25,239),(26,246),(27,253),(28,260),(29,265),(30,272),(31,279),(32,286),(33,293),(34,300),(35,307),(36,314),(37,321),(38,328),(39,335),(40,340),(41,345),(42,352),(43,357),(1023,62),(1024,69),(1025,76),(1026,83),(1027,90),(1028,119),(1029,126),(1030,133),(1031,140),(1032,147),(1033,154)]).getD 0
def Qh(P:iE)(g:Nat):Bool:=eU (jg (KK P) j4 (eE (nm g))=d9 (d9 (ec (i6 g))))&&tG (KK P) (ec (i6 g))
theorem Qi:(tu 15 29).all (Qh P)=true:=by kernel_rfl
def CM(P:iE)(C:et)(m:Nat):Bool:=Ew (KK P) C (eE (gf m))&&eU (rL (KK P) (ec C) (eE (gf m))=d9 (d9 (ec (i6 (1000+m)))))&&isFn (KK P) (ec (i6 (1000+m)))&&tG (KK P) (ec (i6 (1000+m)))
theorem Rn:(tu 23 5).all (CM P 93)=true:=by kernel_rfl
theorem Rm:(tu 28 6).all (CM P 164)=true:=by kernel_rfl
theorem G7{g:Nat}(h:15≤g∧g<44):jg (KK P) j4 (eE (nm g))=d9 (d9 (ec (i6 g)))∧tG (KK P) (ec (i6 g))=true:=by
 have:=iC.mp (Qi (P:=P)) g (AJ.mpr (by omega));exact fq this λK I=>⟨of_decide_eq_true K,I⟩
theorem HR{C:et}{m:Nat}(X:c.e=KK P)(h:CM P C m=eb):yx c C (gf m) (i6 (1000+m)):=by
 unfold yx;rw[X];exact fq h λL O=>fq L λT W=>fq T λK I=>⟨K,of_decide_eq_true I,W,O⟩
noncomputable def zM(K:Frag)(C:et)(f:String):Bool:=Ew K C (eE f)&&Er K C&&eU (rL K (ec C) (eE f)=d9 eh)
noncomputable def zN(K:Frag)(C:et)(f:String):Bool:=eU (rL K (ec C) "__setattr__"=d9 (d9 (iP "object.__setattr__")))&&plainOver K C&&eU (takerIn K C (eE f)=d9 eh)&&Er K C
theorem RW:(AM 16).all (λf=>zM (KK P) 93 (gf f)&&zN (KK P) 93 (gf f))=true:=by kernel_rfl
theorem RV:(tu 16 7).all (λf=>zM (KK P) 164 (gf f)&&zN (KK P) 164 (gf f))=true:=by kernel_rfl
theorem Gu{C:et}{f:String}(F:c.e=KK P)(h:(zM (KK P) C f&&zN (KK P) C f)=eb):CA c C f∧CS c C f:=by
 unfold zM zN at h;simp only[uE,decide_eq_true_eq] at h;unfold CA CS;rw[F];exact⟨⟨h.1.1.1,h.1.1.2,h.1.2⟩,h.2.1.1.1,h.2.1.1.2,h.2.1.2,h.2.2⟩
theorem ue(F:c.e=KK P){f:Nat}(h:f<16):CA c 93 (gf f)∧CS c 93 (gf f):=Gu F (iC.mp (RW (P:=P)) f (AI.mpr h))
theorem qg(F:c.e=KK P){f:Nat}(h:16≤f∧f<23):CA c 164 (gf f)∧CS c 164 (gf f):=Gu F (iC.mp (RV (P:=P)) f (AJ.mpr (by omega)))
theorem Qq{g:Nat}{i:Int}(h:wf g=d9 i):∃k,jg (KK P) j4 (eE (nm g))=d9 (d9 (ej i k)):=by
 unfold wf at h
 split at h<;>cases h
 ·exact⟨229,by kernel_rfl⟩
 ·exact⟨231,by kernel_rfl⟩
 ·exact⟨233,by kernel_rfl⟩
 ·exact⟨235,by kernel_rfl⟩
 ·exact⟨237,by kernel_rfl⟩
noncomputable def mT:Nat->ed
 |0=>iP "len"|1=>iP "sum"|2=>iP "max"|3=>iP "sorted"|5=>eK "tuple"|6=>eK "list"|7=>eK "zip"|8=>eK "enumerate"
 |_=>ez
def Gj(P:iE)(g:Nat):Bool:=g==4||(eU (jg (KK P) j4 (eE (nm g))=d9 eh)&&eU (uY (eE (nm g))=d9 (mT g))&&eU (eE (nm g)≠"__name__"))
theorem Pf:(AM 9).all (Gj P)=true:=by kernel_rfl
theorem Pj{g:Nat}(h:g<9)(O:g≠4):jg (KK P) j4 (eE (nm g))=d9 eh∧uY (eE (nm g))=d9 (mT g)∧eE (nm g)≠"__name__":=by
 have:=iC.mp (Pf (P:=P)) g (AI.mpr h);unfold Gj at this;simp only[Kn,beq_iff_eq,uE,decide_eq_true_eq] at this;exact⟨(this.resolve_left O).1.1,(this.resolve_left O).1.2,(this.resolve_left O).2⟩
theorem yQ{g:Nat}(h:g<9)(O:g≠4){G:Prop}(N:jg (KK P) j4 (eE (nm g))=d9 eh->uY (eE (nm g))=d9 (mT g)->eE (nm g)≠"__name__"->G):G:=gY (Pj h O) N
theorem HX:(wJ++["?","__debug__"]).Nodup:=by decide+kernel
theorem CT{i:Nat}(h:i<113):wJ[i]? =d9 (nm i):=by
 have C:wJ.length=113:=rfl;unfold nm;rw[lE,jF (C▸h)];rfl
theorem Ib{i:Nat}(h:¬i<113):nm i="?":=by
 have C:wJ.length=113:=rfl;unfold nm;rw[lE,DQ (C▸KO.mp h)];rfl
theorem Ic{i:Nat}(h:i<113):nm i∈wJ:=tt (CT h)
theorem un{i j:Nat}(h:i<113)(e:nm i=nm j):i=j:=by
 have G:=qE.mp HX;by_cases J:j<113
 ·have K:=CT h
  have I:=CT J;rw[←e] at I;refine fL (xz.mp K) λf l=>?_;refine fL (xz.mp I) λy u=>?_;have Z:=List.pairwise_iff_getElem.mp G.1;rcases Nat.lt_trichotomy i j with q|q|q
  ·exact absurd (l.trans u.symm) (Z i j f y q)
  ·exact q
  ·exact absurd (u.trans l.symm) (Z j i y f q)
 ·exact absurd (e.trans (Ib J)) (G.2.2 _ (Ic h) _ (by simp))
theorem ju(i:Nat):(eE (nm i)==("__debug__":ft))=false:=by
 rw(occs:=eO) [beq_eq_false_iff_ne];intro e;have e:nm i="__debug__":=oG.mp e;have G:=qE.mp HX;by_cases h:i<113
 ·exact G.2.2 _ (Ic h) _ (by simp) e
 ·rw[Ib h] at e
  exact absurd e (by decide)
end
section
variable{c:Cx}{V:eJ}{H M:AH}{P:iE}{d:ir}{D:Bool}{Y:List (Nat×fX)}{B:AH}{F:Fr}{a:Ad}{t O:eB}
abbrev gZ:=List (Nat×fX)
noncomputable def jU(Y:gZ)(i:Nat)(k:fX):Bool:=eU (Y.lookup i=d9 k)&&eU (i<113)
noncomputable def mh(Y:gZ)(W:List Nat)(A:gZ):Bool:=
 A.all λp=>eU (p.1<113)&&(match p.2 with|eu=>A.lookup p.1==d9 eu|gb=>Y.lookup p.1==d9 fK|eY=>eb|_=>em)
noncomputable def eW.Q:eW->Bool
 |.j _ .b=>em
 |_=>eb
noncomputable def Es.i:Es->Nat
 |.b=>0
 |.a _ w=>w.i+1
noncomputable def iF.j:iF->Nat
 |.a _=>1
 |.b _ _=>2
 |.f _ _ _=>3
 |.g _=>2
mutual
noncomputable def eW.y(t:Bool)(Y:gZ):eW->Bool->eP->Bool
 |.x g,_,_=>jU Y g eY
 |.c e f,_,s=>e.Q&&eU (f<23)&&e.y t Y em (x1 s)
 |.n e i,_,s=>e.y t Y em (x1 s)&&i.y t Y em (x2 s)
 |.H e,_,s=>e.y t Y em (x1 s)
 |.p o l r,_,s=>l.y t Y em (x1 s)&&r.y t Y em (x2 s)
 |.h o l r,_,s=>l.y t Y em (x1 s)&&r.y t Y em (x2 s)
 |.M e,m,s=>m&&e.y t Y eb (x1 s)
 |.K e,_,s=>e.y t Y em (x1 s)
 |.D o S,m,s=>m&&S.f t Y eb (xl s)
 |.C aa b o,m,s=>!m&&aa.y t Y eb (x1 s)&&b.y t Y em (x2 s)&&o.y t Y em (x3 s)
 |.z S,_,s=>S.f t Y em (xl s)
 |.A S,_,s=>S.f t Y em (xl s)
 |.B T W Z X V,m,s=>!m&&!t&&mh Y W V&&Z.k t Y (xg s).iter&&W.all (λi=>jU V i eu)&&eU W.Nodup&&eU (W.length=Z.j)&&T.y eb (V.map λU=>(U.1,if U.2=gb then fK else U.2)) em (x1 s)&&X.f eb (V.map λU=>(U.1,if U.2=gb then fK else U.2)) eb (xg s).ifs&&eU (X.i≤1)
 |.j g S,_,s=>jU Y g eY&&eU (15≤g∧g<44)&&S.f t Y em (xl s)
 |.v o m S,_,s=>(o.Q&&eU (23≤m∧m<34)&&eU (S.i<30)&&((x1 s).pos.endLine==s.pos.line))&&(o.y t Y em (x1 (x1 s))&&S.f t Y em (xl s))
 |.w g e,_,s=>jU Y g eY&&eU (g<7∧g≠4)&&e.y t Y em ((xl s).headD fU)
 |.J o k,_,s=>(o.Q&&((x1 s).pos.endLine==s.pos.line))&&(o.y t Y em (x1 (x1 s))&&k.y t Y em ((xl s).headD fU))
 |.L o k,_,s=>(o.Q&&((x1 s).pos.endLine==s.pos.line))&&(o.y t Y em (x1 (x1 s))&&k.y t Y em ((xl s).headD fU))
 |_,_,_=>eb
noncomputable def Es.f(D:Bool)(Y:gZ):Es->Bool->List eP->Bool
 |.b,_,_=>eb
 |.a e w,m,z=>e.y D Y m (z.headD fU)&&w.f D Y m z.tail
noncomputable def iF.k(D:Bool)(Y:gZ):iF->eP->Bool
 |.a e,x=>e.y D Y em x
 |.b e l,x=>jU Y 7 eY&&(e.y D Y em ((xl x).headD fU)&&l.y D Y em ((xl x).tail.headD fU))
 |.f e l m,x=>jU Y 7 eY&&(e.y D Y em ((xl x).headD fU)&&(l.y D Y em ((xl x).tail.headD fU)&&m.y D Y em ((xl x).tail.tail.headD fU)))
 |.g e,x=>jU Y 8 eY&&e.y D Y em ((xl x).headD fU)
end
abbrev nI(a:Ad)(t:eB)(H:AH)(v:eD)(O:eB)(Q:ed->AH->Prop):Prop:=
 ∀u s M,fk a t H s O M->VR M s O v u->(v.i=eb->∃r,u=ec r∧H r=eh)->Q u M
def vj(d:ir)(P:iE)(n:Nat):Prop:=∀c:Cx,c.e=KK P->c.d->Lv c n->(d.a=eb->c.b.handled=eh)->∀g w t v O,d.b g w t=d9 (v,O)->
 ∀a V H A Q,Wd H a t->kK c.b H->jd H a t w A->nI a t H v O Q->lM c (ec (i6 g)) A V H Q
structure jA(d:ir)(P:iE)(inn:Bool)(tbl:gZ)(c:Cx):Prop where
 b:c.e=KK P
 a:c.d
 g:rP c.a=em
 l:c.a.blockKind=jH
 e:∀i k,tbl.lookup i=d9 k->c.a.kindOf (eE (nm i))=d9 k
 f:d.a=eb->c.b.handled=eh
 h:inn=em->c.i=eh
 j:∃n,Lv c n∧vj d P n
structure Bd(d:ir)(P:iE)(inn:Bool)(tbl:gZ)(c:Cx)(B:AH)(F:Fr)(a:Ad)(t:eB)(ρ:eJ)(H:AH):Prop where
 b:jA d P inn tbl c
 g:FR c B a t F ρ H
 f:Wd H a t
theorem Bd.e{s:Ad}(b:Bd d P D Y c B F a t V H)(p:fk a t H s O M):Bd d P D Y c B F s O V M:=⟨b.b,b.g.w p b.f,p.b⟩
def SE(d:ir)(P:iE)(e:eW):Prop:=∀{D Y c x t F v O},e.y D Y em x=eb->e.q d t F=d9 (v,O)->∀{B a V H Q},Bd d P D Y c B F a t V H->nI a t H v O Q->TE c (e.u x) V H Q
def SB(d:ir)(P:iE)(e:eW):Prop:=∀{D Y c x t F b O},e.y D Y eb x=eb->e.q d t F=d9 (.b (.g b),O)->∀{B a V H Q},Bd d P D Y c B F a t V H->
 (∀s M,fk a t H s O M->Q b M)->TB c (e.u x) V H Q
noncomputable def rZ(H:AH):List eD->List ed->Prop
 |v::J,u::A=>(v.i=eb->∃r,u=ec r∧H r=eh)∧rZ H J A
 |_,_=>True
def qc(d:ir)(P:iE)(w:Es):Prop:=∀{D Y c z t F J O},w.f D Y em z=eb->w.d d t F=d9 (J,O)->∀{B a V H Q},Bd d P D Y c B F a t V H->
 (∀A s M,fk a t H s O M->jd M s O J A->rZ H J A->Q A M)->TA c (w.c z) V H Q
theorem kI{e:eW}(k:∀{D Y c x t F} {r:eD×eB},e.y D Y em x=eb->e.q d t F=d9 r->∀{B a V H Q},Bd d P D Y c B F a t V H->nI a t H r.1 r.2 Q->TE c (e.u x) V H Q):SE d P e:=
 λ{U U U U U U U U} X h {U U U U U} b G=>k X h b G
theorem E0{w:Es}(k:∀{D Y c z t F} {r:List eD×eB},w.f D Y em z=eb->w.d d t F=d9 r->∀{B a V H Q},Bd d P D Y c B F a t V H->
 (∀A s M,fk a t H s r.2 M->jd M s r.2 r.1 A->rZ H r.1 A->Q A M)->TA c (w.c z) V H Q):qc d P w:=
 λ{U U U U U U U U} X h {U U U U U} b G=>k X h b G
theorem Gm{L j:Type}{o:Option L}{f:L->Option j}{b:j}(h:o.bind f=d9 b):∃a,o=d9 a∧f a=d9 b:=Option.bind_eq_some_iff.mp h
theorem hV{L j u:Type}{o:Option (L×u)}{f:L×u->Option j}{b:j}(h:o.bind f=d9 b){G:Prop}(k:∀x y,o=d9 (x,y)->f (x,y)=d9 b->G):G:=zK (Gm h) k
theorem fy{L j:Type}{o:Option L}{f:L->Option j}{b:j}(h:o.bind f=d9 b){G:Prop}(N:∀a,o=d9 a->f a=d9 b->G):G:=eR (Gm h) N
theorem CI{L j:Type}{o:Option L}{f:L->j}{b:j}(h:o.map f=d9 b):∃a,o=d9 a∧f a=b:=uN.mp h
theorem oz{L j u:Type}{o:Option (L×u)}{f:L×u->j}{b:j}(h:o.map f=d9 b){G:Prop}(k:∀x y,o=d9 (x,y)->f (x,y)=b->G):G:=zK (CI h) k
theorem ie{L j:Type}{o:Option L}{f:L->j}{b:j}(h:o.map f=d9 b){G:Prop}(N:∀a,o=d9 a->f a=b->G):G:=eR (CI h) N
theorem wi{L:Type}{p:Prop}[Decidable p]{o:Option L}{y:L}(h:(if p then o else eh)=d9 y):p∧o=d9 y:=by
 by_cases J:p
 ·rw[if_pos J] at h;exact⟨J,h⟩
 ·rw[if_neg J] at h;exact nS h
theorem gm{L:Type}{p:Prop}[Decidable p]{o:Option L}{y:L}(h:(if p then o else eh)=d9 y){G:Prop}(N:p->o=d9 y->G):G:=fe (wi h) N
theorem MK:SE d P .F:=kI λ{U U U x U U r} U h {U U U U U} b G=>by
 (replace h:=eX h;subst h)
 exact Fn (G _ _ _ (.e b.f) rfl (λh=>nB h))
theorem MH{i:Int}:SE d P (.d i):=kI λ{U U U x U U r} U h {U U U U U} b G=>by
 (replace h:=eX h;subst h)
 exact yr (G _ _ _ (.e b.f) rfl (λh=>nB h))
theorem My{i:Bool}:SE d P (.I i):=kI λ{U U U x U U r} U h {U U U U U} b G=>by
 (replace h:=eX h;subst h)
 exact Fg (G _ _ _ (.e b.f) rfl (λh=>nB h))
theorem MM{s:String}:SE d P (.G s):=kI λ{U U U x U U r} U h {U U U U U} b G=>by
 (replace h:=eX h;subst h)
 exact Od (G _ _ _ (.e b.f) rfl (λh=>nB h))
theorem Bd.j(b:Bd d P D Y c B F a t V H){i:Nat}{v:eD}(h:F i=d9 v):∃u,VR H a t v u∧iy c V H (nm i) u∧(v.i=eb->∃r,u=ec r∧B r=eh)∧∀p Q,Q u H->TE c (gk (eE (nm i)) p) V H Q:=by
 refine b.g.e i v h λu K I W=>?_;refine(lP u I K W (λp Q G=>?_));rcases K with ⟨m,R⟩ |⟨m,n,R,s⟩
 ·exact lw b.b.a m R G (ju i)
 ·exact Fh b.b.a m R s G (ju i)
theorem Bd.h(b:Bd d P D Y c B F a t V H){i:Nat}{v:eD}(h:F i=d9 v){G:Prop}(N:∀u,VR H a t v u->iy c V H (nm i) u->((v.i=eb->∃r,u=ec r∧B r=eh))->(∀p Q,Q u H->TE c (gk (eE (nm i)) p) V H Q)->G):G:=nU (Bd.j b h) N
theorem MP{i:Nat}:SE d P (.a i):=kI λ{U U U x U U r} U h {U U U U U} b G=>by
 refine ie h λQ K I=>?_;clear h;subst I;refine b.h K λu L U U T=>?_;exact T _ _ (G u _ _ (.e b.f) L.f (by rw[ry];nofun))
theorem j'(b:jA d P D Y c){i:Nat}{k:fX}(h:jU Y i k=eb):c.a.kindOf (eE (nm i))=d9 k:=by
 unfold jU at h;rw[uE,decide_eq_true_eq] at h;exact b.e i k h.1
theorem ME{g:Nat}:SE d P (.x g):=kI λ{U U U x U U r} X h {U U U U U} b G=>by
 refine ie h λi K I=>?_;clear h;subst I;refine fL (Qq (P:=P) K) λk z=>?_;exact tU (v:=ej i k) b.b.b b.b.a (j' b.b X) z (G _ _ _ (.e b.f) rfl (λh=>nB h)) (ju g)
theorem MD:SE d P .O:=kI λ{U U U x U U r} U h {U U U U U} b G=>by
 (replace h:=eX h;subst h)
 exact Fi b.b.a λD q B=>G _ _ _ (.g b.f q) (Cp D ([]) rfl (gA _ _ _) rfl B (Bg b.f q) (λU=>Bj b.f q)) λU=>(ey D rfl q)
end
section
variable{c:Cx}{V:eJ}{H M:AH}{P:iE}{d:ir}{D:Bool}{Y:gZ}{B:AH}{F:Fr}{a:Ad}{t O:eB}
theorem jp(e:eW)(x:eP):qZ (e.u x)∧iQ [e.u x]=eb∧(∀o,Le o (e.u x)=em)∧(∀b w,kB (e.u x::w) b=(em,jc (e.u x) b)::kB w b)∧∀b v,pS (e.u x) b v=f9 v:=by
 cases e<;>exact⟨λU U=>rfl,rfl,λU=>rfl,λU U=>rfl,λU U=>rfl⟩
theorem wS{e:eW}(h:e.Q=eb)(x:eP):PB (e.u x):=by
 cases e with
 |j g w=>cases w with
  |b=>exact nB h
  |a=>exactλU U U=>rfl
 |_=>exactλU U U=>rfl
theorem jT{v:eD}{i:Int}(h:v.l=d9 i):v=.a i:=by
 cases v with
 |b x=>cases x with
  |a=>(replace h:=eX h;subst h);rfl
  |_=>exact nS h
 |_=>exact nS h
theorem sI{v:eD}{i:Bool}(h:v.p=d9 i):v=.d i:=by
 cases v with
 |b x=>cases x with
  |g=>(replace h:=eX h;subst h);rfl
  |_=>exact nS h
 |_=>exact nS h
theorem xq{v:eD}{i:Int}(h:v.u=d9 i):v=.b (.d i):=by
 cases v with
 |b x=>cases x with
  |d=>(replace h:=eX h;subst h);rfl
  |_=>exact nS h
 |_=>exact nS h
theorem xi{v:eD}{i:List eT}(h:v.v=d9 i):v=.b (.f i):=by
 cases v with
 |b x=>cases x with
  |f=>(replace h:=eX h;subst h);rfl
  |_=>exact nS h
 |_=>exact nS h
theorem yL{v:eD}{i:eT}(h:v.w=d9 i):v=.b i:=by
 cases v with
 |b x=>(replace h:=eX h;subst h);rfl
 |_=>exact nS h
theorem CH{v:eD}{i:List eT}(h:v.y=d9 i):∃o,v=.c o i:=by
 cases v with
 |c o x=>(replace h:=eX h;subst h);exact⟨o,rfl⟩
 |_=>exact nS h
theorem CZ{v:eD}{i:List eT}(h:v.z=d9 i):v=.c eb i:=by
 cases v with
 |c o x=>refine gm h λK I=>?_;(clear h;obtain rfl:=eX I);rw[K]
 |_=>exact nS h
theorem Dz{v:eD}(h:v.t=eb):v=.j:=by
 cases v with
 |j=>rfl
 |_=>exact nB h
theorem Al{v:eD}(h:v.q=eb):v=.b .c:=by
 cases v with
 |b x=>cases x with
  |c=>rfl
  |_=>exact nB h
 |_=>exact nB h
theorem Au{X:List String}{J:List ed}(G:X.Nodup):∀{f:Nat} {x:String} {u:ed},X[f]? =d9 x->J[f]? =d9 u->(X.zip J).lookup x=d9 u:=by
 induction X generalizing J with
 |nil=>intro f x u h;simp at h
 |cons n X D=>
  intro f x u K I;refine qo G λO j=>?_;cases J with
  |nil=>simp at I
  |cons v J=>
   rw[xD,iw];cases f with
   |zero=>(replace K:=eX K;subst K);(replace I:=eX I;subst I);simp
   |succ f=>
    have Z:x∈X:=tt K;rw[beq_eq_false_iff_ne.mpr (λe:x=n=>O (e▸Z))];exact D j K I
theorem jd.f:∀{z:List eD} {A:List ed},jd H a t z A->∀{i:Nat} {x:eD},z[i]? =d9 x->∃u,A[i]? =d9 u∧VR H a t x u:=by
 intro z
 induction z with
 |nil=>intro A U i x Z;rw[Kz] at Z;exact nS Z
 |cons v z D=>
  intro A q i x Z;refine fT q λu d c h S=>?_;rw[c];cases i with
  |zero=>exact⟨u,rfl,by(replace Z:=eX Z;subst Z);exact h⟩
  |succ i=>exact D S Z
theorem OE:∀{z:List eD} {A:List ed} (n:Nat),jd H a t z A->jd H a t (z.take n) (A.take n):=by
 intro z
 induction z with
 |nil=>intro A n h;rw[show _=[] from h,WX,WX];rfl
 |cons x z D=>
  intro A n q;cases n with
  |zero=>rfl
  |succ n=>exact fT q λu f e h S=>⟨u,f.take n,by rw[e];rfl,h,D n S⟩
theorem EX(w:Wd H a t)(J:5≤t.g){n:Int}(W:t.j n):¬jB a t (a.d n)∧¬jB a t (a.h n):=by
 have i:=w.b J;have g:∀x,H x=d9 (.a [])->x≠a.f->(∀m,t.j m->a.a m≠x)->¬jB a t x:=by
  rintro x Z K I (h|⟨_,h|h|⟨m,Y,h|h⟩⟩)
  ·exact K h
  ·rw[h,i.d] at Z;cases Z
  ·rw[h,i.c] at Z;cases Z
  ·rw[h,(i.b m Y).c] at Z;cases Z
  ·exact I m Y h.symm
 exact⟨g _ (i.b n W).f (i.i n W).2.2.1 λm Y=>(i.j m n Y W).2.1,g _ (i.b n W).e (i.i n W).2.2.2 λm Y=>(i.j m n Y W).2.2⟩
theorem Qp{n:Int}(w:Wd H a t)(J:5≤t.g)(W:t.j n):jd H a t ((t.a n).n n t.h) (ng a n (t.a n)):=
 have g:=(w.b J).b n W
 ⟨_,_,rfl,rfl,_,_,rfl,rfl,_,_,rfl,rfl,_,_,rfl,⟨_,rfl,J,W,ig _,λU=>rfl⟩,_,_,rfl,rfl,_,_,rfl,rfl,_,_,rfl,rfl,_,_,rfl,rfl,_,_,rfl,rfl,_,_,rfl,rfl,_,_,rfl,rfl,_,_,rfl,rfl,
  _,_,rfl,rfl,_,_,rfl,rfl,_,_,rfl,⟨_,_,rfl,g.f,rfl,(EX w J W).1,nofun⟩,_,_,rfl,⟨_,_,rfl,g.e,rfl,(EX w J W).2,nofun⟩,rfl⟩
theorem U9(J:5≤t.g):jd H a t t.n ((xj a t).take t.g):=
 OE _ ⟨_,_,rfl,⟨rfl,J⟩,_,_,rfl,rfl,_,_,rfl,rfl,_,_,rfl,rfl,_,_,rfl,rfl,_,_,rfl,rfl,_,_,rfl,rfl,rfl⟩
theorem qj:(lO.take 16).Nodup∧((lO.drop 16).take 7).Nodup:=by decide+kernel
theorem GZ{f:Nat}(h:f<16):(lO.take 16)[f]? =d9 (gf f):=by
 rw[AG h];have C:f<lO.length:=AQ h (by decide);unfold gf;rw[lE,jF C];rfl
theorem Ck{f:Nat}(K:16≤f)(h:f<23):((lO.drop 16).take 7)[f-16]? =d9 (gf f):=by
 rw[AG (by omega),List.getElem?_drop,Nat.add_sub_cancel' K];have C:f<lO.length:=AQ h (by decide);unfold gf;rw[lE,jF C];rfl
structure tX(c:Cx)(H:AH)(f:String)(x C dd:et)(fs:List (String×ed))(u:ed):Prop where
 e:H x=d9 (.h C dd)
 b:H dd=d9 (.b fs)
 d:fs.lookup f=d9 u
 g:CA c C f
 a:Ep u=eb
theorem Qo(F:c.e=KK P){f:Nat}{v b:eD}{u:ed}(w:Wd H a t)(N:VR H a t v u)(h:qm t f v=d9 b):
  ∃x C z y q,u=ec x∧tX c H (gf f) x C z y q∧VR H a t b q∧b.i=false:=by
 cases v with
 |b x=>
  cases x with
  |d n=>
   (refine gY N λR J W=>?_;(clear N;obtain rfl:=R))
   have g:=(w.b J).b n W;have l:f<16:=(xz.mp h).1;refine eR ((Qp w J W).f h) λq L d=>?_;have D:((ng a n (t.a n)).all Ep&&((t.a n).n n t.h).all λv=>!v.i)=true:=rfl;rw[uE,iC,iC] at D;exact⟨_,93,_,_,q,rfl,⟨g.d,g.c,Au qj.1 (GZ l) L,(ue F l).1,D.1 _ (tt L)⟩,d,by simpa using D.2 _ (tt h)⟩
  |c=>
   (refine fe N λO J=>?_;(clear N;obtain rfl:=O))
   refine gm h λZ h=>?_;refine eR ((U9 (a:=a) (H:=H) J).f h) λq L d=>?_;have D:((xj a t).all Ep&&([.j,.a t.c,.a t.l,.a 3,.a 2,.a t.d,.a t.i]:List eD).all λv=>!v.i)=true:=rfl;rw[uE,iC,iC] at D;have l:f<23:=by
    have:=(xz.mp h).1;unfold eB.n at this;rw[xB] at this;have:f-16<7:=W5 this (W9 _ _);lia
   exact⟨_,164,_,_,q,rfl,⟨(w.b J).e,(w.b J).d,Au qj.2 (Ck Z l) L,(qg F ⟨Z,l⟩).1,D.1 _ (WQ (tt L))⟩,d,by simpa using D.2 _ (WQ (tt h))⟩
  |_=>exact nS h
 |_=>exact nS h
theorem wc(F:c.e=KK P){f:Nat}{v b:eD}{u:ed}(w:Wd H a t)(N:VR H a t v u)(h:qm t f v=d9 b){G:Prop}(d:∀x C z y q,u=ec x->tX c H (gf f) x C z y q->VR H a t b q->b.i=em->G):G:=ut (Qo F w N h) d
theorem Mv{e:eW}{f:Nat}(n:SE d P e):SE d P (.c e f):=kI λ{U U U x U U r} X h {U U U U U} b G=>by
 refine hV h λi g K m=>?_;refine ie m λc I W=>?_;clear h m;subst W;refine fq X λv j=>?_;refine qR b.b.a (wS (nj.mp v).1 _) (n j K b λu s M Q N U=>?_);refine wc b.b.b Q.b N I λx C z y q L T A a=>?_;exact⟨x,C,z,y,q,L,T.e,T.b,T.d,T.g,T.a,G q s M Q A (by rw[a];nofun)⟩
theorem gN.w:∀{z:List eT} {k:List ed},gN H a t z k->∀{i:Nat} {l:eT},z[i]? =d9 l->∃u,k[i]? =d9 u∧AR H a t l u:=by
 intro z
 induction z with
 |nil=>intro k U i l Z;rw[Kz] at Z;exact nS Z
 |cons v z D=>
  intro k n i l Z;refine fT n λu f c m S=>?_;rw[c];cases i with
  |zero=>exact⟨u,rfl,by(replace Z:=eX Z;subst Z);exact m⟩
  |succ i=>exact D S Z
theorem gN.j{z:List eT}{c:List ed}(m:gN H a t z c){i:Nat}{f:eT}(l:z[i]? =d9 f){G:Prop}(k:∀u,c[i]? =d9 u->AR H a t f u->G):G:=eR (m.w l) k
theorem gN.b:∀{z:List eT} {i:List ed},gN H a t z i->i.length=z.length:=by
 intro N
 induction N with
 |nil=>
  intro U c;rw[show _=[] from c];rfl
 |cons U _ D=>
  intro U Z;exact fT Z λu f k c S=>by rw[k,lG,D S];rfl
theorem gN.q:∀(X:List Int),gN H a t (X.map .a) (X.map vi):=by
 intro N
 induction N with
 |nil=>
  exact rfl
 |cons U r D=>
  exact⟨_,_,rfl,rfl,D⟩
theorem gN.g:∀{X:List Int} {A:List ed},gN H a t (X.map .a) A->A=X.map vi:=by
 intro N
 induction N with
 |nil=>
  intro U c;exact c
 |cons U r D=>
  intro U k;exact fT k λu f i c S=>by rw[i,show u=_ from c,D S];rfl
theorem PV{v:eD}{u:ed}{z:List eT}(w:Wd H a t)(N:VR H a t v u)(h:ia t v=d9 z):∃r b,u=ec r∧H r=d9 (.a b)∧gN H a t z b:=by
 cases v with
 |c o l=>
  (replace h:=eX h;subst h)
  refine jD N λr b e K I U=>?_;exact⟨r,b,e,K,I⟩
 |f n k=>
  refine gm h λe h=>?_
  (replace h:=eX h;subst h)
  refine oC N λr R J W U c=>?_;exact⟨r,_,R,by rw[c e];exact((w.b J).b _ W).b,.q _⟩
 |_=>exact nS h
theorem lN{v:eD}{u:ed}{z:List eT}(w:Wd H a t)(N:VR H a t v u)(h:ia t v=d9 z){G:Prop}(c:∀r b,u=ec r->H r=d9 (.a b)->gN H a t z b->G):G:=fT (PV w N h) c
theorem wk:∀{z:List eT} {X:List Int},l6 z=d9 X->z=X.map .a:=by
 intro z
 induction z with
 |nil=>intro X h;(replace h:=eX h;subst h);rfl
 |cons x r D=>
  intro X h;cases x with
  |a i=>
   refine ie h λm K I=>?_;clear h;subst I;rw[D K];rfl
  |_=>exact nS h
theorem PU{v:eD}{u:ed}{X:List Int}(w:Wd H a t)(N:VR H a t v u)(h:jC t v=d9 X):∃r,u=ec r∧H r=d9 (.a (X.map vi)):=by
 refine fy h λz K I=>?_;refine lN w N K λr b L T A=>?_;rw[wk I] at A;exact⟨r,L,by rw[T,A.g]⟩
theorem sP{v:eD}{u:ed}{X:List Int}(w:Wd H a t)(N:VR H a t v u)(h:jC t v=d9 X){G:Prop}(b:∀r,u=ec r->H r=d9 (.a (X.map vi))->G):G:=eR (PU w N h) b
theorem jK.u:∀{G:List (Int×eT)} {g:List (Int×ed)},jK H a t G g->∀{k:Int} {x:eT},G.lookup k=d9 x->∃b,g.lookup k=d9 b∧AR H a t x b:=by
 intro G
 induction G with
 |nil=>intro g U k x z;exact nS z
 |cons p G D=>
  obtain⟨Z,y⟩ :=p;intro g L k x z;refine fT L λb f e h S=>?_;rw[e];rw[iw] at z ⊢;cases q:k==Z with
  |true=>rw[q] at z;(replace z:=eX z;subst z);exact⟨b,rfl,h⟩
  |false=>rw[q] at z;exact D S z
theorem wz{a:Ad}:∀{l:List Int} {n:Int},n∈l->(l.map λn=>(n,ec (a.b n))).lookup n=d9 (ec (a.b n)):=by
 intro l
 induction l with
 |nil=>intro n h;exact absurd h iI
 |cons m l D=>
  intro n h;rw[gj,iw];by_cases e:n=m
  ·rw[e,beq_self_eq_true]
  ·rw[beq_eq_false_iff_ne.mpr e]
   exact D ((gy.mp h).resolve_left e)
theorem HM{a:Ad}:∀{l:List Int} {n:Int},n∉l->(l.map λn=>(n,ec (a.b n))).lookup n=none:=by
 intro N
 induction N with
 |nil=>
  intro U U;exact rfl
 |cons m l D=>
  intro n h;rw[gj,iw,beq_eq_false_iff_ne.mpr (λe:n=m=>h (by rw[e];exact gL _))];exact D λq=>h (gu _ q)
theorem Hl{e:List ed}{z:List eT}{r:et}{i:Int}{b:eD}{w B:eP}(L:H r=d9 (.a e))(T:gN H a t z e)(h:pq z i=d9 b)(d:qZ B){Q:ed->AH->Prop}
  (G:∀q,VR H a t b q->b.i=em->Q q H):re c w B (ec r) (vi i) V H Q:=by
 unfold pq at h;by_cases Z:0≤i
 ·rw[if_pos Z] at h
  refine gm h λR I=>?_;refine ie I λx W O=>?_;clear h I;subst O;refine T.j W λq Y o=>?_;exact yv L Z (by lia) Y (G _ o rfl) d
 ·rw[if_neg Z] at h
  refine gm h λR I=>?_;refine ie I λx W O=>?_;clear h I;subst O;rw[←T.b] at W R;refine T.j W λq Y o=>?_;exact OB L (by lia) (by lia) R.1 Y (G _ o rfl) d
theorem US{v i b:eD}{u k:ed}{m B:eP}(w:Wd H a t)(N:VR H a t v u)(D:VR H a t i k)(h:m9 t v i=d9 b)(W:qZ B){Q:ed->AH->Prop}
  (G:∀q,VR H a t b q->b.i=em->Q q H):re c m B u k V H Q:=by
 refine fy h λM d h=>?_;rw[jT d] at D;have D:k=vi M:=D;subst D;cases v with
 |j=>
  refine gm h λf h=>?_
  (replace h:=eX h;subst h)
  (refine fe N λp J=>?_;(clear N;obtain rfl:=p))
  exact By (w.b J).c (wz f) (G _ ⟨rfl,J,(w.b J).f _ f⟩ rfl) W
 |g l s=>
  refine ie h λx K I=>?_;clear h;clear h;subst I
  (refine jD N λr A g L T U=>?_;(clear N;obtain rfl:=g))
  refine eR (T.u K) λq Y o=>?_;exact By L Y (G _ o rfl) W
 |h=>
  have N:u=_:=N;subst N;have h:(if M=0 then d9 eD.m else if M=1 then d9 (eD.a t.e) else eh)=d9 b:=h;by_cases e:M=0
  ·rw[if_pos e] at h;(replace h:=eX h;subst h);(clear d D h;subst e)
   exact yv w.c (by decide) (by decide) rfl (G _ rfl rfl) W
  ·rw[if_neg e] at h
   refine gm h λe h=>?_;(replace h:=eX h;subst h);(clear d D h;clear h;subst e);exact yv w.c (by decide) (by decide) rfl (G _ rfl rfl) W
 |m=>
  have N:u=_:=N;subst N;refine gm h λe h=>?_;refine ie h λx K I=>?_;clear h;clear h;clear h;subst I;exact yv w.d e.1 (by lia) (by rw[lF,K];rfl) (G _ rfl rfl) W
 |b x=>
  refine fy h λas K h=>?_;rw[xi K] at N
  (refine fT N λr A Z L T=>?_;(clear N;obtain rfl:=Z))
  refine gm h λe h=>?_;refine ie h λx K I=>?_;clear h;clear h;clear h;clear h;subst I;refine T.j K λq Y o=>?_;exact OC L e.1 (by lia) Y (G _ o rfl) W
 |c l z=>
  (refine jD N λr A n L T U=>?_;(clear N;obtain rfl:=n))
  exact Hl L T h W G
 |f y k=>
  refine fy h λz K I=>?_
  (refine lN w N K λr A j L T=>?_;(clear N;obtain rfl:=j))
  exact Hl L T I W G
theorem MN{e i:eW}(n:SE d P e)(a:SE d P i):SE d P (.n e i):=kI λ{U U U x U U r} X h {U U U U U} b G=>by
 refine hV h λo g K m=>?_;refine hV m λc S I R=>?_;refine ie R λH W O=>?_;clear h m R;subst O;refine fq X λv j=>?_;refine Bt (n v K b λu f Z Q N U=>a j I (b.e Q) λk l T D z U=>?_);exact US D.b (N.a D Q.b) z W (jp i _).1 λq C y=>G q _ _ (Q.d D) C (by rw[y];nofun)
theorem gN.h:∀{z l:List eT} {k f:List ed},gN H a t z k->gN H a t l f->gN H a t (z++l) (k++f):=by
 intro N
 induction N with
 |nil=>
  intro U U U i c;rw[show _=[] from i];exact c
 |cons U _ D=>
  intro U U U o c;exact fT o λu f m i S=>by rw[m];exact⟨u,_,rfl,i,D S c⟩
theorem gN.p:∀{z:List eT} {i:List ed},gN H a t z i->gN H a t z.reverse i.reverse:=by
 intro N
 induction N with
 |nil=>
  intro U c;rw[show _=[] from c];rfl
 |cons U _ D=>
  intro U C;exact fT C λu f k c S=>by rw[k,oh,oh];exact(D S).h ⟨u,[],rfl,c,rfl⟩
theorem rC{D:et}{z:List eT}{b:List ed}(w:Wd H a t)(q:H D=eh)(h:gN H a t z b):VR (eQ H D (.a b)) a t (.c eb z) (ec D):=
 (zf D b rfl (gA _ _ _) (h.d (.g w q) w) (Bg w q) (λU=>Bj w q))
theorem ML{e:eW}(n:SE d P e):SE d P (.H e):=kI λ{U U U x U U r} X h {U U U U U} b G=>by
 refine hV h λc a K I=>?_;refine fy I λz O W=>?_;refine gm W λC J=>?_;clear h I W
 (replace J:=eX J;subst J)
 refine Oc (n X K b λu f Z Q N U=>?_)
 (refine lN Q.b N O λr A m L T=>?_;(clear N;(clear U;obtain rfl:=m)))
 refine(ey r rfl (Fm (yr (fQ 1 rfl rfl (fQ A L (by rw[T.b];exact C) (λD q=>?_))))));exact G _ _ _ (Q.d (.g Q.b q)) (rC Q.b q T.p) λU=>(ey D rfl (Q.h q))
theorem ux{L:Type}{o p:Option L}{b:L}(h:(o<|>p)=d9 b):o=d9 b∨p=d9 b:=by
 cases o with
 |none=>exact eI h
 |some x=>exact eH h
theorem Hp{L:Type}{v u:eD}{f:Int->Int->L}{x:L}(h:sS v u f=d9 x):∃i j,v=.a i∧u=.a j∧x=f i j:=by
 refine fy h λi K I=>?_;refine ie I λj W O=>?_;exact(fS i j (jT K) (jT W) O.symm)
abbrev vo(a:Ad)(t:eB)(H:AH)(v:eD)(Q:ed->AH->Prop):Prop:=∀u M,fk a t H a t M->VR M a t v u->(v.i=eb->∃r,u=ec r∧H r=eh)->Q u M
theorem gN.y{c:eT}{u:ed}(f:AR H a t c u):∀n,gN H a t (iJ n c) (iJ n u):=by
 intro N
 induction N with
 |zero=>
  exact rfl
 |succ n D=>
  exact(fS u _ rfl f (D))
theorem QC{o:qI}{i j k:Int}{Q:ed->AH->Prop}(h:Hq o i j=d9 k)(G:Q (vi k) H):nJ c o (vi i) (vi j) V H Q:=by
 cases o with
 |Add=>(replace h:=eX h;subst h);exact Fs G
 |Sub=>(replace h:=eX h;subst h);exact Op G
 |Mult=>refine gm h λC h=>?_;(replace h:=eX h;subst h);exact On (Ry C.1 C.2) G
 |Mod=>refine gm h λC h=>?_;(replace h:=eX h;subst h);exact Om C G
 |FloorDiv=>refine gm h λC h=>?_;(replace h:=eX h;subst h);exact Ol C.1 (RG C.2) G
 |_=>exact nS h
theorem OP{v u b:eD}{x y:ed}{Q:ed->AH->Prop}(w:Wd H a t)(N:VR H a t v x)(g:VR H a t u y)(h:FL v u=d9 b)(G:vo a t H b Q):nJ c io x y V H Q:=by
 refine fy h λz K m=>?_;refine fy m λl W s=>?_;refine gm s λC M=>?_;clear h m s
 (replace M:=eX M;subst M)
 (refine fL (CH K) λU R=>?_;(clear K;obtain rfl:=R))
 (refine fL (CH W) λU O=>?_;(clear W;obtain rfl:=O))
 (refine jD N λr i p L T U=>?_;(clear N;obtain rfl:=p))
 (refine jD g λe f d A E U=>?_;(clear g;obtain rfl:=d))
 exact Oj L A (by rw[T.b,E.b];exact C) λD q=>G _ _ (.g w q) (rC w q (T.h E)) λU=>(ey D rfl q)
theorem Rx{v u b:eD}{x y:ed}{Q:ed->AH->Prop}(w:Wd H a t)(N:VR H a t v x)(g:VR H a t u y)(h:HV v u=d9 b)(G:vo a t H b Q):nJ c jb x y V H Q:=by
 refine fy h λz K m=>?_;refine fy m λd I R=>?_;refine fy R λi W s=>?_;refine gm s λC M=>?_;clear h m R s
 (replace M:=eX M;subst M)
 (refine fL (CH K) λU Z=>?_;(clear K;obtain rfl:=Z))
 rw[jT I] at g
 (refine jD N λr j n L T U=>?_;(clear N;obtain rfl:=n))
 have p:z=[i]:=by
  cases z with
  |nil=>exact nS W
  |cons k r=>(clear T;(replace W:=eX W;subst W));rw[oN.mp (nA C.1)]
 clear W;subst p;refine fT T λB f e A E=>?_;rw[show f=[] from E] at e;clear T;subst e;rw[show y=vi d from g];exact Oo L C.2.1 C.2.2 λD q=>G _ _ (.g w q) (rC w q (.y A _)) λU=>(ey D rfl q)
theorem Pl{o:qI}{v u b:eD}{x y:ed}{Q:ed->AH->Prop}(w:Wd H a t)(N:VR H a t v x)(g:VR H a t u y)(h:rl o v u=d9 b)(G:vo a t H b Q):nJ c o x y V H Q:=by
 rcases ux h with h|h
 ·refine fy h λi K m=>?_
  refine fy m λj I R=>?_;refine ie R λk W s=>?_;rw[jT K] at N;rw[jT I] at g;rw[show x=vi i from N,show y=vi j from g];exact QC W (G _ _ (.e w) (by rw[←s];exact rfl) (by rw[←s];nofun))
 ·cases o with
  |Add=>exact OP w N g h G
  |Mult=>exact Rx w N g h G
  |_=>exact nS h
theorem Mx{o:qI}{l r:eW}(C:SE d P l)(i:SE d P r):SE d P (.p o l r):=kI λ{U U U x U U r} X h {U U U U U} b G=>by
 refine hV h λw t K m=>?_;refine hV m λc S I R=>?_;refine ie R λH W s=>?_;clear R
 first|(clear h m;subst s)|obtain rfl:=eX s|cases s
 refine fq X λv j=>?_;exact Ff (C v K b λu f Z Q N U=>i j I (b.e Q) λk p T D z U=>Pl D.b (N.a D Q.b) z W λq L g n y=>G q _ _ ((Q.d D).d g) n λe=>by
  refine eR (y e) λr a O=>?_;exact(ey r a ((Q.d D).h O)))
theorem EZ{e:eW}(n:SE d P e):SE d P (.K e):=kI λ{U U U x U U r} X h {U U U U U} b G=>by
 refine hV h λW a K m=>?_;refine ie m λi I R=>?_;clear h m;subst R;refine Fm (n X K b λu f Z Q N U=>(ey i ?_ (G _ _ _ Q rfl (λh=>nB h))));rw[jT I] at N;exact N
mutual
theorem C3:∀{x:eT} {u:ed} {q:mn},AR H a t x u->pd x=d9 q->Rd H u q∧q.canLay0=eb
 |.e,_,_,h,e=>by(replace e:=eX e;subst e);rw[show _=ez from h];exact⟨.f,rfl⟩
 |.g b,_,_,h,e=>by(replace e:=eX e;subst e);rw[show _=fF b from h];exact⟨.g b,rfl⟩
 |.a i,_,_,h,e=>by(replace e:=eX e;subst e);rw[show _=vi i from h];exact⟨.d i,rfl⟩
 |.h _,_,_,_,e=>nomatch e
 |.c,_,_,_,e=>nomatch e
 |.d _,_,_,_,e=>nomatch e
 |.f as,_,_,L,e=>fT L λr c R h S=>by
  refine ie (o:=kO as) e λj K I=>?_;clear e;subst I;rw[R];exact⟨.e h (uz S K).1,(uz S K).2⟩
theorem uz:∀{x:List eT} {u:List ed} {q:List mn},gN H a t x u->kO x=d9 q->qb H u q∧Ei q=eb
 |[],_,_,h,e=>by(replace e:=eX e;subst e);rw[show _=[] from h];exact⟨.b,rfl⟩
 |x::z,_,_,Z,e=>fT Z λu f R h S=>by
  refine fy (o:=pd x) e λq K I=>?_;refine ie I λj W O=>?_;clear e I;subst O;rw[R];exact⟨.a (C3 h K).1 (uz S W).1,by show(_&&_)=eb;rw[(C3 h K).2,(uz S W).2];rfl⟩
end
theorem Ix{v:eD}{u:ed}{q:mn}(w:Wd H a t)(N:VR H a t v u)(h:C2 t v=d9 q):Rd H u q∧q.canLay0=true:=by
 have g:((ia t v).bind kO).map tF=d9 q->Rd H u q∧q.canLay0=true:=λh=>by
  refine ie h λj K I=>?_;clear h;clear h;subst I;refine fy K λz W O=>?_
  (refine lN w N W λr A Y L T=>?_;(clear N;obtain rfl:=Y))
  exact⟨.a L (uz T O).1,(uz T O).2⟩
 cases v with
 |b x=>exact C3 N h
 |_=>exact g h
theorem GR{D:oP}{v u:eD}{x y:ed}{r:Bool}{k:Nat}{Q:Bool->AH->Prop}(R:Lv c k)(w:Wd H a t)(N:VR H a t v x)(g:VR H a t u y)(h:yY t v u=d9 r):
  (D=fZ->Q r H->jR c D x y V H Q)∧(D=gd->Q (!r) H->jR c D x y V H Q):=by
 rcases ux h with h|h
 ·(refine fT (Hp h) λi j m f e=>?_;(clear h;clear h;obtain rfl:=m);obtain rfl:=f)
  rw[show x=vi i from N,show y=vi j from g,e];exact⟨λe h=>e▸NN h,λe h=>e▸NX (by simpa using h)⟩
 ·rcases ux h with h|h
  ·refine fy h λX K h=>?_
   refine ie h λB I h=>?_;subst h
   (refine sP w N K λp U L=>?_;(clear N;obtain rfl:=U))
   (refine sP w g I λq F T=>?_;(clear g;obtain rfl:=F))
   exact⟨λe h=>e▸NO R L T h,λe h=>e▸NY R L T (by simpa using h)⟩
  ·refine fy h λp K h=>?_
   refine fy h λq I h=>?_;refine gm h λC h=>?_;obtain rfl:=eX h;refine fe (Ix w N K) λL T=>?_;refine fe (Ix w g I) λA E=>?_;have P:c.b.units+min p.depth q.depth<9900:=by have:=R.a;lia
   exact⟨λe h=>e▸Fd L A T E P h,λe h=>e▸Fe L A T E P h⟩
theorem Hv{v:eD}{x:ed}(N:VR H a t v x):(x==ez)=v.r:=by
 have r:∀{r:et},x=ec r->(x==ez)=false:=λe=>by rw[e];rfl
 cases v with
 |b y=>cases y with
  |e=>rw[show x=ez from N];rfl
  |g b=>rw[show x=fF b from N];rfl
  |a i=>rw[show x=vi i from N];rfl
  |h s=>rw[show x=eC _ 0 from N];rfl
  |c=>exact r N.1
  |d n=>exact r N.1
  |f as=>refine iH N λU U e U=>?_;exact r e
 |c=>refine iH N λU U e U=>?_;exact r e
 |g=>refine iH N λU U e U=>?_;exact r e
 |j=>exact r N.1
 |f=>refine eR N λU e U=>?_;exact r e
 |h=>exact r N
 |m=>exact r N
theorem Hu{v:eD}(h:v.r=eb):v=.b .e:=by
 cases v with
 |b y=>cases y with
  |e=>rfl
  |_=>exact nB h
 |_=>exact nB h
theorem Hm{D:oP}{v u:eD}{x y:ed}{r:Bool}{Q:Bool->AH->Prop}(w:Wd H a t)(N:VR H a t v x)(g:VR H a t u y)(h:Cr t v u=d9 r):
  (D=oj->Q r H->jR c D x y V H Q)∧(D=xJ->Q (!r) H->jR c D x y V H Q):=by
 refine fy h λi K h=>?_;rw[jT K] at N;have N:x=vi i:=N;subst N;by_cases b:u.t=eb
 ·rw[if_pos b] at h
  rw[Dz b] at g
  (refine fe g λd J=>?_;(clear g;obtain rfl:=d))
  have S:((t.b.map λn=>(n,ec (a.b n))).lookup i).isSome=r:=by
   (replace h:=eX h;subst h)
   by_cases Y:i∈t.b
   ·rw[wz Y,decide_eq_true Y];rfl
   ·rw[HM Y,decide_eq_false Y];rfl
  exact⟨λe h=>e▸NR (w.b J).c (beq_eq_false_iff_ne.mp (w.b J).h) (S▸h),λe h=>e▸NZ (w.b J).c (beq_eq_false_iff_ne.mp (w.b J).h) (S▸h)⟩
 ·rw[if_neg b] at h
  (refine ie h λX I q=>?_;(clear h;clear h;obtain rfl:=q))
  (refine sP w g I λp O L=>?_;(clear g;obtain rfl:=O))
  refine⟨λe h=>e▸NS L h,λe h=>e▸?_⟩;intro f s v u S N g
  (refine ik N λk j=>?_;(clear N;obtain rfl:=j));obtain rfl:=gX g
  refine S.b.e L λF n A E=>?_;refine Ye (vs:=F.toList) (ns:=X) (by simpa using iU A) (zh E) (fS _ H rfl S ?_);rwa [show X.any (·==i)=eU (i∈X) from by rw[AA];simp[AF]]
theorem Pz{D:oP}{v u:eD}{x y:ed}{r:Bool}{k:Nat}{Q:Bool->AH->Prop}(R:Lv c k)(w:Wd H a t)(N:VR H a t v x)(g:VR H a t u y)(h:mU t D v u=d9 r)(G:Q r H):jR c D x y V H Q:=by
 have C:∀{f:Int->Int->Bool},sS v u f=d9 r->∃i j,x=vi i∧y=vi j∧Q (f i j) H:=λe=>by
  clear h;obtain⟨i,j,rfl,rfl,O⟩ :=Hp e;exact(fS i j N g (O▸G))
 cases D with
 |Eq=>exact(GR R w N g h).1 rfl G
 |NotEq=>(refine ie h λz K b=>?_;(clear C h;obtain rfl:=b));exact(GR R w N g K).2 rfl G
 |Lt=>(refine fT (C h) λi j O p e=>?_;(clear N C;obtain rfl:=O);(clear g;obtain rfl:=p));exact NW e
 |LtE=>(refine fT (C h) λi j d Z e=>?_;(clear N C;obtain rfl:=d);(clear g;obtain rfl:=Z));exact NV e
 |Gt=>(refine fT (C h) λi j n Y e=>?_;(clear N C;obtain rfl:=n);(clear g;obtain rfl:=Y));exact NQ e
 |GtE=>(refine fT (C h) λi j m l e=>?_;(clear N C;obtain rfl:=m);(clear g;obtain rfl:=l));exact NP e
 |Is=>
  refine gm h λK I=>?_;clear C h
  (replace I:=eX I;subst I)
  rw[Hu K] at g;rw[show y=ez from g];exact NU (Hv N▸G)
 |IsNot=>
  refine gm h λK I=>?_;clear C h
  (replace I:=eX I;subst I)
  rw[Hu K] at g;rw[show y=ez from g];exact NT (Hv N▸G)
 |In=>exact(Hm w N g h).1 rfl G
 |NotIn=>(refine ie h λz K U=>?_;(clear C h;obtain rfl:=U));exact(Hm w N g K).2 rfl G
theorem Gz{o:oP}{l r:eW}(C:SE d P l)(w:SE d P r){x:eP}{F:Fr}{v:eD}(X:(eW.h o l r).y D Y em x=eb)(h:(eW.h o l r).q d t F=d9 (v,O))(b:Bd d P D Y c B F a t V H):
  ∃L,v=.d L∧∀{g:Bool->AH->Prop},(∀s M,fk a t H s O M->g L M)->TE c (l.u (x1 x)) V H λp Z=>TE c (r.u (x2 x)) V Z λq T=>jR c o p q V T g:=by
 refine hV h λv1 t1 K m=>?_;refine hV m λv2 S I R=>?_;refine ie R λL W y=>?_;clear h m R;cases y;refine fq X λi j=>?_;refine eR b.b.j λn A U=>?_;exact(ey L rfl (λG=>C i K b λu f Z Q N U=>w j I (b.e Q) λk J T e z U=>Pz A e.b (N.a e Q.b) z W (G _ _ (Q.d e))))
theorem MA{o:oP}{l r:eW}(C:SE d P l)(a:SE d P r):SE d P (.h o l r):=λ{U U U x U U U U} X h {U U U U U} b G=>by
 (refine eR (Gz C a X h b) λL F g=>?_;(clear h;obtain rfl:=F))
 exact N5 (g λs M p=>G _ _ _ p rfl (λh=>nB h)) ((jp r _).2.2.1 o)
theorem Mt{o:oP}{l r:eW}(C:SE d P l)(a:SE d P r):SB d P (.h o l r):=λ{U U U x U U U U} X h {U U U U U} b G=>by
 refine eR (Gz C a X h b) λL e g=>?_;cases e;exact Nq (g λs M p=>G _ _ p) ((jp r _).2.2.1 o)
theorem Mu{e:eW}(n:SB d P e):SB d P (.M e):=λ{U U U x U U U U} X h {U U U U U} b G=>by
 refine hV h λW a K m=>?_;refine ie m λi I R=>?_;clear h m;cases R;rw[sI I] at K;exact Nr (n X K b λs M p=>G _ _ p)
theorem EY{e:eW}(n:SE d P e)(a:∀D Y x,e.y D Y eb x=eb->e.y D Y em x=eb)(J:∀x,PT (e.u x)):SB d P e:=λ{U U U x U U U U} X h {U U U U U} b G=>
 Nt (n (a _ _ _ X) h b λu s M p N U=>(ey _ N (G _ _ p))) (J _)
def SA(d:ir)(P:iE)(w:Es):Prop:=∀{D Y c z t F r O},w.f D Y eb z=eb->∀{B a V H},Bd d P D Y c B F a t V H->
 ∀{Q:Bool->AH->Prop},(∀s M,fk a t H s O M->Q r M)->(w.g d t F=d9 (r,O)->qe c oO (w.c z) V H Q)∧(w.h d t F=d9 (r,O)->qe c jw (w.c z) V H Q)
theorem Mr:SA d P .b:=λ{U U U U U U U U} U {U U U U} b {U} G=>⟨λh=>by cases h;exact Nl (G _ _ (.e b.f)),λh=>by cases h;exact Nn (G _ _ (.e b.f))⟩
theorem Mq{e:eW}{w:Es}(n:SB d P e)(S:SA d P w):SA d P (.a e w):=λ{U U U U U U U U} X {U U U U} b {Q} G=>by
 refine fq X λv j=>?_
 constructor
 ·intro h
  refine hV h λW a K m=>?_;refine fy m λi I R=>?_;rw[sI I] at K;refine Nm (n v K b λs M p=>?_);cases i with
  |true=>exact(S j (b.e p) λl T q=>G l T (p.d q)).1 R
  |false=>(clear h m K;cases R);exact G _ _ p
 ·intro h
  refine hV h λW a K m=>?_;refine fy m λi I R=>?_;rw[sI I] at K;refine No (n v K b λs M p=>?_);cases i with
  |false=>exact(S j (b.e p) λl T q=>G l T (p.d q)).2 R
  |true=>(clear h m K;cases R);exact G _ _ p
theorem Ms{o:BoolOp}{w:Es}(S:SA d P w):SB d P (.D o w):=λ{U U U x U U U U} X h {U U U U U} b G=>by
 cases o with
 |And=>
  refine oz h λr E K m=>?_;cases m;exact E6 ((S X b G).1 K)
 |Or=>
  refine oz h λr E K m=>?_;cases m;exact E6 ((S X b G).2 K)
theorem MF{q e o:eW}(c:SB d P q)(n:SE d P e)(y:SE d P o):SE d P (.C q e o):=kI λ{U U U x U U r} X h {U U U U U} b G=>by
 refine hV h λW k K m=>?_;refine fy m λi I R=>?_;rw[sI I] at K;refine fq X λv f=>?_;refine fq v λC g=>?_;refine N8 (c C K b λs M p=>?_);have j:nI s k M _ _ _:=λu l T q N y=>G u l T (p.d q) N λe=>by
  refine eR (y e) λr a O=>?_;exact(ey r a (p.h O))
 cases i with
 |true=>exact n g R (b.e p) j
 |false=>exact y f R (b.e p) j
theorem mH:∀(w:Es) (z:List eP),iQ (w.c z)=eb
 |.b,_=>rfl
 |.a e w,z=>by
  have K:=(jp e (z.headD fU)).2.1;have I:=mH w z.tail;show iQ (e.u (z.headD fU)::w.c z.tail)=eb;revert K;generalize e.u (z.headD fU)=y;intro K;cases y<;>first|exact I|exact nB K
theorem HK:∀(w:Es) (z:List eP),(w.c z).length=w.i
 |.b,_=>rfl
 |.a e w,z=>congrArg (·+1) (HK w z.tail)
theorem MS:qc d P .b:=E0 λ{U U U U U U r} U h {U U U U U} b G=>by
 (replace h:=eX h;subst h)
 exact kC (G _ _ _ (.e b.f) rfl trivial)
theorem rZ.b{s:Ad}(p:fk a t H s O M):∀{J:List eD} {A:List ed},rZ M J A->rZ H J A
 |[],_,_=>trivial
 |_::_,[],_=>trivial
 |_::_,_::_,L=>fe L λh S=>⟨λe=>(h e).imp λr Y=>fe Y λR c=>⟨R,p.h c⟩,rZ.b p S⟩
theorem MQ{e:eW}{w:Es}(n:SE d P e)(S:qc d P w):qc d P (.a e w):=E0 λ{U U U U U U r} X h {U U U U U} b G=>by
 refine hV h λW c K m=>?_;refine oz m λJ g I R=>?_;clear h m;subst R;refine fq X λv j=>?_;exact jk (n v K b λu f Z Q a y=>S j I (b.e Q) λA l T D k N=>G _ _ _ (Q.d D) (fS u A rfl (a.a D Q.b) k) ⟨y,N.b Q⟩) λB=>(jp e _).2.2.2.1 B _
theorem yM:∀{J:List eD} {as:List eT} {b:List ed},rf J=d9 as->jd H a t J b->gN H a t as b:=by
 intro N
 induction N with
 |nil=>
  intro U U h g
  (replace h:=eX h;subst h);exact g
 |cons v J D=>
  intro U U h Z;refine fT Z λu f e g X=>?_;refine fy h λx K m=>?_;refine ie m λz I R=>?_;clear h m;subst R;rw[yL K] at g;exact(fS u f e g (D I X))
theorem MI{w:Es}(S:qc d P w):SE d P (.z w):=kI λ{U U U x U U r} X h {U U U U U} b G=>by
 refine hV h λJ E K m=>?_;refine fy m λas I R=>?_;refine gm R λC s=>?_;clear h m R
 (replace s:=eX s;subst s)
 exact Bs (S X K b λA f Z Q N U=>⟨by rw[(yM I N).b,nC];lia,λD q=>G _ _ _ (Q.d (.g Q.b q)) (rC Q.b q (yM I N)) λU=>(ey D rfl (Q.h q))⟩)
theorem MO{w:Es}(S:qc d P w):SE d P (.A w):=kI λ{U U U x U U r} X h {U U U U U} b G=>by
 refine hV h λJ E K m=>?_;refine fy m λas I R=>?_;refine gm R λC s=>?_;clear h m R
 (replace s:=eX s;subst s)
 exact Bu (S X K b λA f Z Q N U=>⟨by rw[(yM I N).b,nC];lia,λD q=>G _ _ _ (Q.d (.g Q.b q)) (fS D A rfl (gA _ _ _) ((yM I N).d (.g Q.b q) Q.b)) (λh=>nB h)⟩)
theorem jd.b:∀{J:List eD} {A:List ed},jd H a t J A->jd H a t (J.map eD.e) A
 |[],_,h=>h
 |_::_,_,L=>fT L λu d c h S=>⟨u,d,c,h.f,S.b⟩
theorem nI.b{s:Ad}{E S:eB}{v:eD}{Q:ed->AH->Prop}(G:nI a t H v S Q)(p:fk a t H s E M):nI s E M v S Q:=λu l c q N y=>
 G u l c (p.d q) N λd=>(y d).imp λr Y=>fe Y λR O=>⟨R,p.h O⟩
theorem N4{x:String}{f:et}{r d:fE}{w:List eP}{Q:ed->AH->Prop}(F:c.e=KK P)(O:c.d)(Z:c.a.kindOf (eE x)=d9 eY)
  (e:jg (KK P) j4 (eE x)=d9 (d9 (ec f))) (z:tG (KK P) (ec f)=eb) (W:iQ w=eb) (D:(eE x==("__debug__":ft))=em)
  (h:TA c w V H (λJ M=>lM c (ec f) J V M Q)):TE c (jr (gk (eE x) r) w [] d) V H Q:=
 tT (f:=ec f) O W (tU (v:=ec f) F O Z e ⟨rfl,rfl,λu g=>gX g,vc (F▸z),λE s p S=>fc (h E s p S) (λJ i o=>eR o λM a b=>⟨M,a,yq b⟩) λU U x=>x⟩ D)
theorem Mz{g:Nat}{w:Es}(S:qc d P w):SE d P (.j g w):=kI λ{U U U x U U r} X h {U U U U U} b G=>by
 refine hV h λJ E K I=>?_;refine fq X λv j=>?_;refine fq v λC y=>?_;refine fe (G7 (P:=P) (of_decide_eq_true y)) λL T=>?_;refine eR b.b.j λn R F=>?_;exact N4 b.b.b b.b.a (j' b.b C) L T (mH _ _) (ju g) (S j K b λA f Z Q k U=>
  F _ b.b.b b.b.a R b.b.f _ _ _ _ _ I _ _ _ _ _ Q.b (b.e Q).g.b k.b (G.b Q))
theorem Kl{X:List String}{J:List ed}{x:String}(h:x∉X):(X.zip J).lookup x=none:=by
 rw(occs:=eO) [WK];intro p a;have:=(rI (show(p.1,p.2)∈X.zip J from a)).1;rw(occs:=eO) [bne_iff_ne];exactλe=>h (e▸this)
theorem Ih{m:Nat}(h:23≤m∧m<34):gf m∉lO.take 16∧gf m∉(lO.drop 16).take 7:=by
 have:((tu 23 11).all λm=>!((lO.take 16).contains (gf m))&&!(((lO.drop 16).take 7).contains (gf m)))=true:=by decide+kernel
 have:=iC.mp this m (AJ.mpr (by omega));simpa using this
theorem Rp(F:c.e=KK P){m:Nat}{v:eD}{u:ed}(w:Wd H a t)(N:VR H a t v u)(h:zE m v=eb)(Y:23≤m∧m<34):
  ∃x C z y,u=ec x∧H x=d9 (.h C z)∧H z=d9 (.b y)∧y.lookup (gf m)=eh∧yx c C (gf m) (i6 (1000+m))∧v.e=v:=by
 unfold zE at h
 split at h
 ·refine wm h λn W=>?_
  clear h;cases xq W
  (refine gY N λR J B=>?_;(clear N;obtain rfl:=R))
  have g:=(w.b J).b n B;exact(wh _ 93 _ _ rfl g.d g.c (Kl (Ih Y).1) ⟨(HR F (iC.mp (Rn (P:=P)) m (AJ.mpr (by lia)))),rfl⟩)
 ·cases Al h
  (refine fe N λO J=>?_;(clear N;obtain rfl:=O))
  exact(wh _ 164 _ _ rfl ((w.b J).e) ((w.b J).d) (Kl (Ih Y).2) ⟨(HR F (iC.mp (Rm (P:=P)) m (AJ.mpr (by lia)))),rfl⟩)
theorem MJ{o:eW}{s:Nat}{w:Es}(i:SE d P o)(S:qc d P w):SE d P (.v o s w):=kI λ{U U U x U U r} X h {U U U U U} b G=>by
 refine hV h λv1 V K m=>?_;refine hV m λvs t2 I R=>?_;refine gm R λY W=>?_;refine fq X λv j=>?_;refine fq v λe J=>?_;refine fq e λO z=>?_;refine fq O λp t=>?_;have t:=of_decide_eq_true t;have z:=of_decide_eq_true z;refine fq j λB g=>?_;refine eR b.b.j λn q F=>?_;refine N9 b.b.a (wS p _) (mH _ _) (by rw[HK];exact z) J (i B K b λu f Z Q N U=>?_);clear U;obtain⟨H,C,a,y,rfl,L,T,A,c,_⟩ :=Rp b.b.b Q.b N Y t;exact⟨H,C,a,y,_,rfl,L,T,A,c,(S g I (b.e Q) λus l M D k U=>yq
  (F _ b.b.b b.b.a q b.b.f _ _ _ _ _ W _ _ _ _ _ D.b ((b.e Q).e D).g.b (fS _ _ rfl (N.a D Q.b) k.b) (G.b (Q.d D))))⟩
theorem Ph:((AM 9).all λg=>g==4||match mT g with|iP _=>eb|eK _=>eb|_=>em)=true:=rfl
theorem Pi{g:Nat}(l:g<9)(O:g≠4):nv (mT g)=mT g∧(∀u,nv u=mT g->u=mT g)∧nH c (mT g):=by
 have h:=(DE.mp (iC.mp Ph g (AI.mpr l))).resolve_left λe=>O (beq_iff_eq.mp e);revert h;generalize mT g=v;intro h;cases v with
 |builtin=>exact⟨rfl,λU=>Ip,.a⟩
 |type=>exact⟨rfl,λU=>zI,.b⟩
 |_=>exact nB h
theorem N3{g:Nat}{j m:fE}{y:eP}{Q:ed->AH->Prop}(b:Bd d P D Y c B F a t V H)(X:jU Y g eY=eb)(l:g<9)(O:g≠4)(i:iQ [y]=eb)(S:∀e,kB [y] e=(em,jc y e)::kB [] e)
  (h:TE c y V H λu Z=>TC c (mT g) [u] V Z Q):TE c (jr (gk (eE (nm g)) j) [y] [] m) V H Q:=by
 refine yQ (P:=P) l O λR f p=>?_;have W:=Pi (c:=c) l O;refine tT (f:=mT g) b.b.a i (rV b.b.a (j' b.b X) (b.b.b▸R) f p ?_ (ju g));exact⟨W.1,W.1,W.2.1,W.2.2,jk (h.a λu Z k=>kC k) S⟩
theorem HQ:∀{X:List Int},X≠[]->kN X∈X∧∀x∈X,x≤kN X
 |[],h=>absurd rfl h
 |[x],_=>⟨gL _,λy B=>by rw[gR.mp B];exact ja _⟩
 |x::y::r,_=>by
  refine fe (HQ (X:=y::r) (λh=>wI h)) λK I=>?_;show max x (kN (y::r))∈x::y::r∧∀z∈x::y::r,z≤max x (kN (y::r))
  constructor
  ·rcases Wn x (kN (y::r)) with h|h
   ·rw[Int.max_eq_right h];exact gu _ K
   ·rw[Int.max_eq_left h];exact gL _
  ·intro z P
   rcases gy.mp P with rfl|P
   ·exact Int.le_max_left _ _
   ·exact jY (I z P) (Int.le_max_right _ _)
noncomputable abbrev UM(X:List Int):List Int:=X.mergeSort λa b=>eU (a≤b)
theorem UN{X B:List Int}(h:B.Perm X)(S:B.Pairwise (·≤·)):B=UM X:=by
 refine Ws (le:=(·≤·)) (λa b U U=>Kr) S ?_ (h.trans (AK X _).symm);refine(WR (λa b c K I=>?_) (λa b=>?_) X).imp λh=>by simpa using h
 ·simp only[decide_eq_true_eq] at*;lia
 ·simp only[Kn,decide_eq_true_eq];lia
theorem Q4{v:eD}{u:ed}{n:Nat}(w:Wd H a t)(N:VR H a t v u)(h:zA t v=d9 n):∃r A,u=ec r∧H r=d9 (.a A)∧A.length=n:=by
 have g:(ia t v).map qB=d9 n->∃r A,u=ec r∧H r=d9 (.a A)∧A.length=n:=λh=>by
  (refine ie h λz K p=>?_;(clear h;clear h;obtain rfl:=p))
  (refine lN w N K λr A d L T=>?_;(clear N;obtain rfl:=d))
  exact(fS r A rfl L T.b)
 cases v with
 |m=>
  clear g
  (replace h:=eX h;subst h)
  rw[show u=ec a.j from N];exact(fS _ _ rfl w.d (by simp))
 |_=>exact g h
theorem Pg{d:Nat}{v b:eD}{u:ed}{Q:ed->AH->Prop}{i:Bool}(l:i=eb->c.b.handled=eh)(w:Wd H a t)(N:VR H a t v u)(h:o7 i t d v=d9 b)(G:vo a t H b Q):TC c (mT d) [u] V H Q:=by
 unfold o7 at h
 split at h
 ·refine fy h λE K m=>?_
  refine gm m λC R=>?_;clear h m
  (replace R:=eX R;subst R)
  (refine fT (Q4 w N K) λr A Z L n=>?_;(clear N;obtain rfl:=Z);(clear K;obtain rfl:=n))
  exact NB L C (G _ _ (.e w) rfl (λh=>nB h))
 ·refine fy h λX K m=>?_
  refine gm m λC R=>?_;clear h m
  (replace R:=eX R;subst R)
  (refine sP w N K λr s L=>?_;(clear N;obtain rfl:=s))
  exact NJ (l C) L (G _ _ (.e w) rfl (λh=>nB h))
 ·refine fy h λX K m=>?_
  refine gm m λC R=>?_;clear h m
  (replace R:=eX R;subst R)
  (refine sP w N K λr x L=>?_;(clear N;obtain rfl:=x))
  refine fe (HQ C.2) λk y=>?_;refine NE (l C.1) L (DX k) λM Y o=>?_;rw[Kr (y M Y) (o _ k)];exact G _ _ (.e w) rfl (λh=>nB h)
 ·refine fy h λX K m=>?_
  refine gm m λC R=>?_;clear h m
  (replace R:=eX R;subst R)
  have j:∀(D:et) (B:List Int),B.Perm X->B.Pairwise (·≤·)->H D=eh->Q (ec D) (eQ H D (.a (B.map vi))):=λD B Y o q=>by
   rw[UN Y o];exact G _ _ (.g w q) (rC w q (.q _)) λU=>(ey D rfl q)
  by_cases g:v.t=eb
  ·unfold Cv at K
   rw[if_pos g] at K;refine gm K λO I=>?_;clear G K
   (replace I:=eX I;subst I)
   rw[Dz g] at N
   (refine fe N λf J=>?_;(clear N;obtain rfl:=f))
   refine NH (l O) (w.b J).c (w.b J).h (by rw[fC];exact C) λD B Y o q=>j D B ?_ o q;simpa [gJ,Ko] using Y
  ·unfold Cv at K
   rw[if_neg g] at K
   (refine sP w N K λr p L=>?_;(clear N;obtain rfl:=p))
   exact NI L C j
 ·refine fy h λz K m=>?_
  refine gm m λC R=>?_;clear h m
  (replace R:=eX R;subst R)
  (refine lN w N K λr A F L T=>?_;(clear N;obtain rfl:=F))
  exact NK L (by rw[T.b];exact C) λD q=>G _ _ (.g w q) (fS D A rfl (gA _ _ _) (T.d (.g w q) w)) (λh=>nB h)
 ·refine fy h λz K m=>?_
  refine gm m λC R=>?_;clear h m
  (replace R:=eX R;subst R)
  (refine lN w N K λr A e L T=>?_;(clear N;obtain rfl:=e))
  exact NC L (by rw[T.b];exact C) λD q=>G _ _ (.g w q) (rC w q T) λU=>(ey D rfl q)
 ·exact nS h
theorem nI.e{s:Ad}{E:eB}{v:eD}{Q:ed->AH->Prop}(G:nI a t H v E Q)(p:fk a t H s E M):vo s E M v Q:=λu c q N y=>G.b p u s c q N y
theorem Mw{g:Nat}{e:eW}(n:SE d P e):SE d P (.w g e):=kI λ{U U U x U U r} X h {U U U U U} b G=>by
 refine hV h λW a K m=>?_;refine ie m λc I R=>?_;clear m
 first|(clear h;subst R)|obtain rfl:=eX R|cases R
 refine fq X λv j=>?_;refine fq v λC y=>?_;have l:=of_decide_eq_true y;exact N3 b C (by omega) l.2 (jp e _).2.1 (λB=>(jp e _).2.2.2.1 B []) (n j K b λu f Z Q N U=>Pg b.b.f Q.b N I (G.e Q))
theorem MG{o k:eW}(y:SE d P o)(n:SE d P k):SE d P (.J o k):=kI λ{U U U x U U r} X h {U U U U U} b G=>by
 refine hV h λv1 t1 K a=>?_;refine fy a λxs g m=>?_;refine hV m λc S I R=>?_;refine fy R λi W s=>?_;refine fy s λV O M=>?_;refine gm M λC F=>?_;clear h a m R s M
 (replace F:=eX F;subst F)
 refine fq X λv j=>?_;refine fq v λp t=>?_;refine fq j λz J=>?_;refine qS b.b.a (wS p _) (jp k _).2.1 (by simp) t xP Xr PySem.F.type_list_index (y z K b λu f Z Q N U=>?_)
 (refine lN Q.b N g λr us q L U=>?_;obtain rfl:=q)
 exact(kM r _ rfl L uw (jk (n J I (b.e Q) λA l w D H U=>by
  refine sP D.b (N.a D Q.b) O λY e T=>?_
  (replace e:=lq e;subst e)
  rw[jT W] at H;rw[show A=vi i from H];exact kC (Nz T C.1 C.2 (G _ _ _ (Q.d D) rfl (λh=>nB h)))) λB=>(jp k _).2.2.2.1 B []))
theorem Iw{c:Cx}{G:List (Int×ed)}:∀X,OR c.l c.k (.e G) X->X.cls=eK "dict"∧X.dict=none:=by
 rintro X ⟨a,⟨w,A,⟨K,I,_⟩,_⟩,_⟩;exact⟨K,I⟩
theorem MC{o k:eW}(y:SE d P o)(n:SE d P k):SE d P (.L o k):=λ{U U U x U U U S} X h {U U U U U} b G=>by
 refine hV h λL C K m=>?_;refine hV m λc S I R=>?_;refine fy R λi W s=>?_;refine gm s λg F=>?_;clear h m R s;cases F;refine fq X λv j=>?_;refine fq v λp t=>?_;refine fq j λz e=>?_;have q:iQ [k.u ((xl x).headD fU),oR .none (xk ((xl x).tail.headD fU)) ((xl x).tail.headD fU).pos]=true:=mH (.a k (.a .F .b)) (xl x);refine qS b.b.a (wS p _) q (by simp) t Xm Xn PySem.F.type_dict_get (y z K b λu f Z Q N U=>?_);rw[Dz g] at N
 (refine fe N λO J=>?_;(clear N;(clear U;obtain rfl:=O)))
 refine(kM _ _ rfl ((Q.b.b J).c) ?_ (jk (n e I (b.e Q) λA l T D H U=>?_) λB=>(jp k _).2.2.2.1 B _))
 ·exact Iw
 ·rw[jT W] at H
  rw[show A=vi i from H];refine jk (Fn (kC ?_)) λB=>rfl;refine i8 (D.c J) λa U r U=>?_;rw[←r];have w:=D.b.b a;refine Nw w.c w.h (G _ _ _ (Q.d D) ?_ (λh=>nB h));by_cases Y:i∈S.b
  ·rw[wz Y,if_pos Y];exact⟨rfl,a,w.f i Y⟩
  ·rw[HM Y,if_neg Y];exact rfl
theorem CV:∀(m:List Nat) (z:List eP),iQ (jV m z)=true:=by
 intro N
 induction N with
 |nil=>
  intro U;exact rfl
 |cons U m D=>
  intro z;exact D z.tail
theorem E3:∀{W:List Nat} {z:List eP} {A:List ed} {V:eJ} {H:AH} {Q:eJ->AH->Prop},c.d->(∀x∈W.map nm,c.a.kindOf (eE x)=d9 eu)->A.length=(jV W z).length->Q (mF V (W.map nm) A) H->oZ c (jV W z) A V H Q:=by
 intro W
 induction W with
 |nil=>
  intro z A V H Q U U g h;cases A with
  |nil=>exact h
  |cons=>exact rB g
 |cons x W D=>
  intro z A V H Q O C g h;cases A with
  |nil=>exact nZ g
  |cons u A=>exact tS (oU O (C _ (gL _)) (D O (λx Z=>C x (gu _ Z)) (nA g) h))
def t7(c:Cx)(F:Fr)(a:eJ)(H:AH)(e:eW)(v:eD)(u:ed):Prop:=(v.i=eb->∃r,u=ec r∧H r=eh)∧∀i,e=.a i->iy c a H (nm i) u∧∃Q,F i=d9 Q∧v=Q.e
theorem SE.b{e:eW}(n:SE d P e){D:Bool}{Y:gZ}{x:eP}{v:eD}(X:e.y D Y em x=eb)(h:e.q d t F=d9 (v,O))(f:Bd d P D Y c B F a t V H){Q:ed->AH->Prop}
  (G:∀u s M,fk a t H s O M->VR M s O v u->t7 c F V H e v u->Q u M):TE c (e.u x) V H Q:=by
 by_cases N:∃i,e=.a i
 ·(refine fL N λi R=>?_;(clear n X N;obtain rfl:=R))
  refine ie h λg K I=>?_;clear h;cases I;refine f.h K λu L A U T=>?_;exact T _ _ (G u _ _ (.e f.f) L.f ⟨by rw[ry];nofun,λj e=>by cases e;exact⟨A,g,K,rfl⟩⟩)
 ·exact n X h f λu s M p C y=>G u s M p C ⟨y,λi e=>absurd ⟨i,e⟩ N⟩
structure ON(c:Cx)(F:Fr)(ρ:eJ)(H0:AH)(es:List eW)(a:Ad)(t:eB)(H:AH)(vs:List eD)(rs:List (List eT))(tg:List Nat)(n:Nat)(bind:Nat->eJ->eJ)(need:AH->Prop)(L:List (eW×eD×et×List ed))(rowV:Nat->List ed):Prop where
 d:n=rs.length
 h:∀i ρ,bind i ρ=mF ρ (tg.map nm) (rowV i)
 f:∀i row,rs[i]? =d9 row->gN H a t row (rowV i)
 b:∀q∈L,VR H a t q.2.1 (ec q.2.2.1)∧H q.2.2.1=d9 (.a q.2.2.2)∧t7 c F ρ H0 q.1 q.2.1 (ec q.2.2.1)
 e:L.map (·.2.1)=vs
 g:L.map (·.1)=es
 j:∀H,(∀q∈L,H q.2.2.1=d9 (.a q.2.2.2))->kK c.b H->need H
def FJ(c:Cx)(F:Fr)(g:eJ)(w:List eW)(a:Ad)(t:eB)(H:AH)(J:List eD)(b:eB)(d:List (List eT))(W:List Nat)(Q:Nat->(Nat->eJ->eJ)->(AH->Prop)->AH->Prop):Prop:=
 ∀{n e l f Z L K},fk a t H f b Z->ON c F g H w f b Z J d W n e l L K->Q n e l Z
def oY(d:ir)(P:iE)(N:iF):Prop:=∀{D Y c x y t F J E M L W},N.k D Y x=eb->N.c d t F=d9 (J,E)->ou E J=d9 M->qy N.h M=d9 L->W.length=N.j->
 ∀{B a V H Q},Bd d P D Y c B F a t V H->FJ c F V N.d a t H J E L W Q->j8 c (N.i x) (xf W y) (W.map nm) V H Q
theorem sR{z:List eT}{b:List ed}(h:gN H a t z b){i:Nat}{x:eT}(Z:z[i]? =d9 x):AR H a t x (b.getD i ez):=by
 refine h.j Z λu K I=>?_;rw[lE,K];exact I
theorem zd{L j:Type}{f:L->j}{l:List L}{i:Nat}{y:j}(h:(l.map f)[i]? =d9 y):∃x,l[i]? =d9 x∧f x=y:=by
 rw[lF] at h;exact CI h
theorem yl{N:iF}(k:∀{D Y c x y t F} {r:List eD×eB} {e L W},N.k D Y x=eb->N.c d t F=d9 r->ou r.2 r.1=d9 e->qy N.h e=d9 L->W.length=N.j->
 ∀{B a V H Q},Bd d P D Y c B F a t V H->FJ c F V N.d a t H r.1 r.2 L W Q->j8 c (N.i x) (xf W y) (W.map nm) V H Q):oY d P N:=λ{U U U U U U U U U U U U} X h K I z {U U U U U} b G=>k X h K I z b G
theorem CD{L:Type}{l:List L}(h:l.length=2):∃i j,l=[i,j]:=
 oy h λi r e h=>fL (DU.1 h) λj q=>⟨i,j,by rw[e,q]⟩
theorem Q3{L:Type}{l:List L}(h:l.length=3):∃i j k,l=[i,j,k]:=
 oy h λi r e h=>ur (CD h) λj k q=>⟨i,j,k,by rw[e,q]⟩
theorem MY{e:eW}(n:SE d P e):oY d P (.a e):=yl λ{D Y c x y t F r l m o} X h K I j {U U U U U} b G=>by
 refine oz h λv S W s=>?_;clear h;subst s;refine fy K λq g M=>?_;clear K
 (replace M:=eX M;subst M)
 (replace I:=eX I;subst I)
 obtain⟨i,rfl⟩ :=DU.1 j;refine Ox (n.b X W b λu f Z Q N J=>?_)
 (refine lN Q.b N g λr A O L T=>?_;obtain rfl:=O)
 refine(kM r A rfl L ((b.e Q).g.b) (G (L:=[(e,v,r,A)]) (K:=λi=>[A.getD i ez]) Q ⟨by rw[fC,T.b],λU U=>rfl,λi C a=>?_,gV ⟨N,L,J⟩ lZ,rfl,rfl,λH k z=>⟨k _ (gL _),z⟩⟩))
 ·(refine eR (zd a) λx R p=>?_;(clear a;obtain rfl:=p))
  exact(fS _ _ rfl (sR T R) rfl)
theorem MX{e:eW}(n:SE d P e):oY d P (.g e):=yl λ{D Y c x y t F r ls rs tg} X h K I z {U U U U U} b G=>by
 refine gm h λl h=>?_;refine oz h λaa S W s=>?_;clear h;clear h;subst s;refine fy K λxs w M=>?_;clear K
 (replace M:=eX M;subst M)
 (replace I:=eX I;subst I)
 refine fq X λv j=>?_;obtain⟨i,V,rfl⟩ :=CD z;refine yQ (P:=P) (g:=8) (by decide) (by decide) λR O p=>?_;refine Ov b.b.a (b.b.f l) (rV b.b.a (j' b.b v) (b.b.b▸R) O p ⟨rfl,jk (n.b j W b λu f H1 Q N J=>kC ?_) λB=>(jp e _).2.2.2.1 B []⟩ (ju 8)) (jp e _).2.1
 (refine lN Q.b N w λr A q L T=>?_;obtain rfl:=q)
 refine(fS r A rfl L (G (L:=[(e,aa,r,A)]) (K:=λi=>[ej i 0,A.getD i ez]) Q ⟨by rw[fC,KB,T.b],λU U=>rfl,λi C g=>?_,gV ⟨N,L,J⟩ lZ,rfl,rfl,λH k hk=>k _ (gL _)⟩))
 ·(refine zK (zd g) λx V a Z=>?_;(clear g;obtain rfl:=Z))
  rw[List.getElem?_zipIdx] at a;refine ie a λm o q3=>?_;clear a;cases q3;exact(fS _ _ rfl (congrArg (λk:Nat=>ej k 0) (Nat.zero_add i).symm) (fS _ _ rfl (sR T o) rfl))
theorem t7.b{D:Bool}{k:gZ}{e:eW}{v:eD}{u:ed}{s:Ad}(g:t7 c F V M e v u)(f:Bd d P D k c B F a t V H)(p:fk a t H s O M):t7 c F V H e v u:=
 ⟨λh=>(g.1 h).imp λr Y=>fe Y λR j=>⟨R,p.h j⟩,λi e=>⟨f.g.k (g.2 i e).1 λn v h=>p.f _ _ h (nG f.f h rfl),(g.2 i e).2⟩⟩
theorem DB{L j:Type}{l:List L}{m:List j}{i:Nat}{p:L×j}(h:(l.zip m)[i]? =d9 p):l[i]? =d9 p.1∧m[i]? =d9 p.2:=by
 rw[WE] at h;exact h
theorem MZ{r a:eW}(s:SE d P r)(aa:SE d P a):oY d P (.b r a):=yl λ{D Y c ak aq t F ag ls rs tg} X h K I z {U U U U U} b G=>by
 refine gm h λl h=>?_;refine fq X λv j=>?_;refine fq j λj y=>?_;refine yQ (P:=P) (g:=7) (by decide) (by decide) λR O p=>?_;refine hV h λae t2 q m=>?_;refine oz m λw t3 d2 k2=>?_;clear h m;clear h;subst k2;refine fy K λxs h4 M=>?_;refine ie M λl1 k5 x=>?_;refine fy k5 λys J N=>?_;clear k5
 (replace N:=eX N;subst N)
 clear K M;subst x;refine gm I λC Z=>?_;clear I
 (replace Z:=eX Z;subst Z)
 obtain⟨i,ac,rfl⟩ :=CD z;refine Fy (n:=xs.length) b.b.a (b.b.f l) (rV b.b.a (j' b.b v) (b.b.b▸R) O p ⟨rfl,jk (s.b j q b λu a1 H1 Q L W=>jk (aa.b y d2 (b.e Q) λu2 a2 H2 e T v2=>kC ?_) λB=>(jp a _).2.2.2.1 B _) λB=>(jp r _).2.2.2.1 B _⟩ (ju 7)) (mH (.a r (.a a .b)) _) (CV [i,ac] _) E3;have L:=L.a e Q.b
 (refine lN e.b L h4 λo A n q1 q2=>?_;obtain rfl:=n)
 (refine lN e.b T J λV f e7 q3 S=>?_;obtain rfl:=e7)
 refine(wg ([(o,A),(V,f)]) rfl (gV ⟨q1,q2.b⟩ (gV ⟨q3,S.b.trans C.2.symm⟩ lZ)) (eH rfl) rfl (G (L:=[(r,ae,o,A),(a,w,V,f)]) (K:=λi=>[A.getD i ez,f.getD i ez]) (Q.d e) ⟨?_,λU U=>rfl,λi aj hr=>?_,gV ⟨L,q1,W⟩ (gV ⟨T,q3,v2.b b Q⟩ lZ),rfl,rfl,λH k hk=>gV (k _ (gL _)) (gV (k _ (gu _ (gL _))) lZ)⟩))
 ·rw[fC,kZ,←C.2,D8]
 ·(refine eR (zd hr) λaf z1 e8=>?_;(clear hr;obtain rfl:=e8))
  refine fe (DB z1) λg z3=>?_;exact(fS _ _ rfl (sR q2 g) (fS _ _ rfl (sR S z3) rfl))
theorem M1{r x2 v:eW}(s:SE d P r)(ag:SE d P x2)(aj:SE d P v):oY d P (.f r x2 v):=yl λ{D Y c aC aD t F aA ls rs tg} X h K I z {U U U U U} b hq=>by
 refine gm h λl h=>?_;refine fq X λae j=>?_;refine fq j λj y=>?_;refine fq y λy af=>?_;refine yQ (P:=P) (g:=7) (by decide) (by decide) λe1 O p=>?_;refine hV h λau t2 d1 m=>?_;refine hV m λav t3 d2 R=>?_;refine oz R λaw t4 u k3=>?_;clear h m R;clear h;subst k3;refine fy K λxs h4 M=>?_;refine ie M λl1 k5 x=>?_;refine fy k5 λys h5 N=>?_;refine ie N λl2 q aq=>?_;refine fy q λzs h6 J=>?_;clear q
 (replace J:=eX J;subst J)
 clear k5 N;subst aq;clear K M;subst x;refine gm I λC Z=>?_;clear I
 (replace Z:=eX Z;subst Z)
 obtain⟨i,ak,k,rfl⟩ :=Q3 z;refine Fy (n:=xs.length) b.b.a (b.b.f l) (rV b.b.a (j' b.b ae) (b.b.b▸e1) O p ⟨rfl,jk (s.b j d1 b λu1 a1 H1 Q L W=>jk (ag.b y d2 (b.e Q) λu2 a2 H2 p2 T v2=>jk (aj.b af u ((b.e Q).e p2) λu3 a3 H3 g g3 v3=>kC ?_) λB=>(jp v _).2.2.2.1 B _) λB=>(jp x2 _).2.2.2.1 B _) λB=>(jp r _).2.2.2.1 B _⟩ (ju 7)) (mH (.a r (.a x2 (.a v .b))) _) (CV [i,ak,k] _) E3;have L:=(L.a p2 Q.b).a g p2.b;have T:=T.a g p2.b
 (refine lN g.b L h4 λo A e9 q1 q2=>?_;obtain rfl:=e9)
 (refine lN g.b T h5 λV f aa q3 S=>?_;obtain rfl:=aa)
 (refine lN g.b g3 h6 λG a ac w q6=>?_;obtain rfl:=ac)
 refine(wg ([(o,A),(V,f),(G,a)]) rfl (gV ⟨q1,q2.b⟩ (gV ⟨q3,S.b.trans C.2.1.symm⟩ (gV ⟨w,q6.b.trans C.2.2.symm⟩ lZ))) (eI rfl) rfl (hq (L:=[(r,au,o,A),(x2,av,V,f),(v,aw,G,a)]) (K:=λi=>[A.getD i ez,f.getD i ez,a.getD i ez]) ((Q.d p2).d g)
  ⟨?_,λU U=>rfl,λi aB hr=>?_,gV ⟨L,q1,W⟩ (gV ⟨T,q3,v2.b b Q⟩ (gV ⟨g3,w,v3.b b (Q.d p2)⟩ lZ)),rfl,rfl,λH k hk=>gV (k _ (gL _)) (gV (k _ (gu _ (gL _))) (gV (k _ (gu _ (gu _ (gL _)))) lZ))⟩))
 ·rw[fC,kZ,kZ,←C.2.1,←C.2.2,D8,D8]
 ·(refine eR (zd hr) λaz z1 e=>?_;(clear hr;obtain rfl:=e))
  refine fe (DB z1) λz2 z3=>?_;refine fe (DB z3) λn z5=>?_;exact(fS _ _ rfl (sR q2 z2) (fS _ _ rfl (sR S n) (fS _ _ rfl (sR q6 z5) rfl)))
theorem wF{x:String}{v:ed}:ic V x v x=d9 v:=if_pos rfl
theorem Rg{x y:String}{v:ed}(h:y≠x):ic V x v y=V y:=if_neg h
theorem qP{i j:Nat}{u w:ed}(D:i<113)(J:j≠i):iy c (ic V (nm i) w) H (nm j) u↔iy c V H (nm j) u:=by
 unfold iy;rw[Rg λe=>J (un D e.symm).symm]
theorem FR.l{i:Nat}{v:eD}{u:ed}(f:FR c B a t F V H)(D:i<113)(z:c.a.kindOf (eE (nm i))=d9 eu)(N:VR H a t v u)(y:v.i=eb->∃r,u=ec r∧B r=eh)
  (S:v.k=eb->∀j x,j≠i->F j=d9 x->x.k=eb->(v.i||x.i)=eb->¬iy c V H (nm j) u):FR c B a t (eL F i v) (ic V (nm i) u) H:=by
 have M:iy c (ic V (nm i) u) H (nm i) u:=eH ⟨z,wF⟩;refine⟨λj x g=>?_,λj k x C r J g m K I W O=>?_,f.f,f.inj,f.b⟩
 ·unfold eL at g
  split at g
  ·rename_i e;(clear D z S;subst e);(replace g:=eX g;subst g);exact(fQ u M N y)
  ·rename_i e
   refine eR (f.h j x g) λq L T=>?_;exact(ey q ((qP D e).mpr L) T)
 ·unfold eL at g m
  split at g
  ·rename_i e;(clear z;subst e);(replace g:=eX g;subst g)
   rw[if_neg (gM J)] at m;have e:=W.b M;rw[e] at O;refine S (uy K) k C (gM J) m I (by rw[K];rfl) ((qP D (gM J)).mp O)
  ·rename_i e
   split at m
   ·rename_i G;(clear z;subst G);(replace m:=eX m;subst m)
    have b:=O.b M;rw[b] at W;exact S I j x e g (uy K) (by rw[K];exact pI _) ((qP D e).mp W)
   ·rename_i G
    exact f.d j k x C r J g m K I ((qP D e).mp W) ((qP D G).mp O)
theorem FR.q:∀{W:List Nat} {r:List eT} {v:List ed} {F:Fr} {V:eJ},FR c B a t F V H->(∀i∈W,i<113∧c.a.kindOf (eE (nm i))=d9 eu)->gN H a t r v->FR c B a t (fV F W r) (mF V (W.map nm) v) H:=by
 intro W
 induction W with
 |nil=>intro r v F V f U U;exact f
 |cons i m D=>
  intro r v F V f k q;cases r with
  |nil=>rw[show _=[] from q];exact f
  |cons x z=>
   refine fT q λu b e h S=>?_;rw[e];show FR c B a t (fV (eL _ i (.b x)) m z) (mF (ic _ (nm i) u) (m.map nm) b) H;exact D (f.l (k i (gL _)).1 (k i (gL _)).2 (v:=.b x) h (λh=>nB h) (λh=>nB h)) (λj J=>k j (gu _ J)) S
theorem mY{A:gZ}{i:Nat}(h:∀p∈A,p.1<113):(A.map λp=>(eE (nm p.1),p.2)).lookup (eE (nm i))=A.lookup i:=by
 induction A with
 |nil=>rfl
 |cons p r D=>
  rw[gj,iw,iw,D λq G=>h q (gu _ G)];have:(eE (nm i)==eE (nm p.1))=(i==p.1):=by
   rw(occs:=eO) [AA,beq_iff_eq,beq_iff_eq,oG];exact⟨λe=>(un (h p (gL _)) e.symm).symm,λe=>e▸rfl⟩
  rw[this]
noncomputable def sK(S:List (ft×et)):List (ft×fX)->List (ft×et)->List (ft×et)
 |[],W=>W
 |p::r,W=>sK S r (if p.2==gb then(p.1,(S.lookup p.1).getD 0)::W else W)
theorem B8{S:List (ft×et)}{p:ft×fX}{r:List (ft×fX)}{W:List (ft×et)}:sK S (p::r) W=sK S r (if p.2==gb then(p.1,(S.lookup p.1).getD 0)::W else W):=rfl
theorem Gw{t:jG}{B:iN}(h:∀p∈t.names,p.2=gb->(B.cells.lookup p.1).isSome=eb):rO t B=f9 (sK B.cells t.names []):=by
 unfold rO;generalize t.names=Y at h;generalize ([]:List (ft×et))=W;dsimp only
 induction Y generalizing W with
 |nil=>rfl
 |cons p r D=>
  obtain⟨n,k⟩ :=p;rw(occs:=eO) [Ky];by_cases z:(k==gb)=eb
  ·have:=h (n,k) (gL _) (beq_iff_eq.mp z)
   refine wm this λa S=>?_;have e:cellOf B n=f9 a:=by unfold cellOf;dsimp only at S;rw[S]
   simp only[z,if_true,e,pure_bind];rw[D λq G=>h q (gu _ G)];rw[B8];dsimp only at S;simp only[z,if_true,S];rfl
  ·simp only[z,if_false,pure_bind,Wg]
   rw[D λq G=>h q (gu _ G)];rw[B8];simp only[z,if_false,Wg]
theorem B9{S:List (ft×et)}{x:ft}{n:et}(X:S.lookup x=d9 n):∀{b:List (ft×fX)} {W:List (ft×et)},((x,gb)∈b∨W.lookup x=d9 n)->(sK S b W).lookup x=d9 n:=by
 intro N
 induction N with
 |nil=>
  intro U h;exact h.resolve_left nofun
 |cons p r D=>
  intro W h;rw[B8];apply D;by_cases J:p.1=x
  ·by_cases z:(p.2==gb)=eb
   ·right
    rw[if_pos z,J,X,iw];simp
   ·rw[if_neg z]
    rcases h with h|h
    ·rcases gy.mp h with h|h
     ·rw[←h] at z;exact absurd rfl z
     ·exact eH h
    ·exact eI h
  ·rcases h with h|h
   ·rcases gy.mp h with h|h
    ·rw[←h] at J;exact absurd rfl J
    ·exact eH h
   ·right
    split
    ·rw[iw,beq_eq_false_iff_ne.mpr (gM J)];exact h
    ·exact h
theorem Td{L:jG}{B:iN}{x:ft}:(relabel L B).names.lookup x=(L.names.lookup x).map λk=>if(k==gb&&B.scope.kind==jH&&B.kindOf x==d9 fK) then fK else k:=by
 unfold relabel;dsimp only
 induction L.names with
 |nil=>rfl
 |cons p r D=>
  obtain⟨n,k⟩ :=p;rw[gj];show DY x ((if(k==gb&&B.scope.kind==jH&&B.kindOf n==d9 fK)=eb then(n,fK) else(n,k))::_)=_;cases Z:x==n with
  |true=>
   obtain rfl:=beq_iff_eq.mp Z
   split
   ·rename_i X;rw[iw,iw,Z];exact congrArg d9 (if_pos X).symm
   ·rename_i X;rw[iw,iw,Z];exact congrArg d9 (if_neg X).symm
  |false=>split<;>rw[iw,iw,Z]<;>exact D
noncomputable abbrev J0(A:gZ):gZ:=A.map λp=>(p.1,if p.2=gb then fK else p.2)
theorem Rc{f:fX->fX}{i:Nat}:∀{A:gZ},(A.map λp=>(p.1,f p.2)).lookup i=(A.lookup i).map f:=by
 intro N
 induction N with
 |nil=>
  exact rfl
 |cons p r D=>
  rw[gj,iw,iw,D];cases i==p.1<;>rfl
theorem pB{L j:Type}[BEq L][LawfulBEq L]{i:L}{k:j}:∀{l:List (L×j)},l.lookup i=d9 k->(i,k)∈l:=by
 intro l
 induction l with
 |nil=>intro h;exact nS h
 |cons p r D=>
  intro h;rw[iw] at h;cases e:i==p.1 with
  |true=>rw[e] at h;rw[beq_iff_eq.mp e,←eX h];exact gL _
  |false=>rw[e] at h;exact gu _ (D h)
theorem uv{W:List Nat}{A:gZ}(h:mh Y W A=eb):∀p∈A,p.1<113:=λp J=>of_decide_eq_true (nj.mp (iC.mp h p J)).1
theorem CY{W:List Nat}{A:gZ}(h:mh Y W A=eb){i:Nat}(J:(i,gb)∈A):Y.lookup i=d9 fK:=beq_iff_eq.mp (nj.mp (iC.mp h _ J)).2
theorem RX{W:List Nat}{A:gZ}(h:mh Y W A=eb){i:Nat}(J:(i,eu)∈A):A.lookup i=d9 eu:=beq_iff_eq.mp (nj.mp (iC.mp h _ J)).2
theorem Iv{W:List Nat}{A:gZ}(h:mh Y W A=eb){i:Nat}(J:(i,fK)∈A):False:=by
 have:=(nj.mp (iC.mp h _ J)).2;exact nB this
section
variable{W:List Nat}{A:gZ}{C:et}{m:ft->Option ed}{r:et->fM->Prop}
abbrev kn(c:Cx)(A:gZ):List (ft×et):=sK c.a.cells (fN A).names []
theorem Hn{x:ft}:(cc c (fN A) (kn c A) C m r).a.kindOf x=((fN A).names.lookup x).map λk=>if(k==gb&&c.a.scope.kind==jH&&c.a.kindOf x==d9 fK) then fK else k:=Td
theorem wj(b:jA d P em Y c)(F:mh Y W A=eb){i:Nat}{k:fX}(h:A.lookup i=d9 k):(cc c (fN A) (kn c A) C m r).a.kindOf (eE (nm i))=d9 (if k=gb then fK else k):=by
 rw[Hn,show(fN A).names.lookup (eE (nm i))=A.lookup i from mY (uv F),h];by_cases z:k=gb
 ·subst z
  have:=b.e i _ (CY F (pB h));rw[this,b.a.b];rfl
 ·have:(k==gb)=false:=beq_eq_false_iff_ne.mpr z
  rw[KR,if_neg z,this];rfl
theorem Cs(b:jA d P em Y c)(F:mh Y W A=eb){x:ft}(h:(cc c (fN A) (kn c A) C m r).a.kindOf x=d9 fK):c.a.kindOf x=d9 fK∧(x,gb)∈(fN A).names:=by
 rw[Hn] at h;refine ie h λk K I=>?_;have a:=pB K
 split at I
 ·rename_i X
  simp only[uE,beq_iff_eq] at X;exact⟨X.2,X.1.1▸a⟩
 ·clear K
  subst I;refine fP a λp J e=>?_;cases G:p with|mk i k=>
  rw[G] at e J;clear h a G;cases e;exact(Iv F J).elim
theorem LA(b:jA d P em Y c)(F:mh Y W A=eb)(O:(cc c (fN A) (kn c A) C m r).d):jA d P eb (J0 A) (cc c (fN A) (kn c A) C m r):=by
 refine⟨b.b,O,rfl,rfl,λi k h=>?_,b.f,(λh=>CP h),b.j.imp λn h=>⟨⟨h.1.b,h.1.a⟩,h.2⟩⟩;have h:=(Rc (f:=λk=>if k=gb then fK else k)).symm.trans h
 (refine ie h λa K R=>?_;(clear h;clear h;obtain rfl:=R))
 exact wj b F K
theorem LM{w:eJ}(b:jA d P em Y c)(e:mh Y W A=eb)(f:FR c B a t F V H):FR (cc c (fN A) (kn c A) C m r) B a t (λi=>if A.lookup i=d9 gb then(F i).map eD.e else eh) w H:=by
 have X:∀{x:ft},(cc c (fN A) (kn c A) C m r).a.kindOf x=d9 fK->∃n Q,c.a.kindOf x=d9 fK∧c.a.cells.lookup x=d9 n∧(kn c A).lookup x=d9 n∧H n=d9 (.g Q):=λ{x} h=>by
  refine fe (Cs b e h) λK I=>?_;refine f.g x K λn Q L T U=>?_;exact(kM n Q K L (B9 L (eH I)) T)
 refine⟨λi v N=>?_,λi j v ac aa J N g E=>?_,λx Z=>?_,λx y n Z M K I=>?_,f.b⟩
 ·refine gm N λD N=>?_
  (refine ie N λQ K O=>?_;(clear N;clear N;obtain rfl:=O))
  refine f.e i Q K λu L T U=>?_;have z:=wj (C:=C) (m:=m) (r:=r) b e D;refine(fQ u (eI ⟨z,?_⟩) T.f (by rw[ry];nofun));have l:=b.e i _ (CY e (pB D));rcases L with ⟨q,_⟩ |⟨_,n,s,o⟩
  ·rw[l] at q;cases q
  ·exact(ey n (B9 s (eH (Cs (C:=C) (m:=m) (r:=r) b e z).2)) o)
 ·refine gm N λD N=>?_
  (refine ie N λQ K p=>?_;(clear N;clear N;obtain rfl:=p))
  rw[ry] at E;exact nB E
 ·refine jD (X Z) λn Q U U L T=>?_
  exact(fS n Q L T (λh=>iX h))
 ·refine jD (X Z) λax U k1 s o U=>?_
  refine jD (X M) λG U R k S U=>?_;rw[show(cc c (fN A) (kn c A) C m r).a.cells.lookup x=(kn c A).lookup x from rfl,o] at K;rw[show(cc c (fN A) (kn c A) C m r).a.cells.lookup y=(kn c A).lookup y from rfl,S] at I;exact f.inj x y n k1 R (s.trans K) (k.trans I)
end
theorem I9{L:AH}{s:Ad}{v:eD}{l:et}{A:List ed}(w:Wd H a t)(N:VR H a t v (ec l))(C:H l=d9 (.a A))(D:(ia t v).isSome=eb)(i:L l=d9 (.a A)∨v.k=em)(p:fk a t L s O M)(S:w7 t O v):M l=d9 (.a A):=by
 cases v with
 |c o g=>
  refine oE N λr f e U U c U=>?_;clear U
  (replace e:=lq e;subst e)
  exact p.f _ _ (i.resolve_right (λh=>CP h)) c
 |f n k=>
  refine oC N λr e J W U z=>?_
  (replace e:=lq e;subst e)
  refine wm D λg Z=>?_;refine gm Z λe U=>?_;have E:=z e;have R:=((w.b J).b n W).b;rw[←E,C] at R;refine wL (p.c J) λY U U d U U j=>?_;have b:=((p.b.b Y).b n (W.a d)).b;rw[j S.1 n W,←E,S.2,←eX R] at b;exact b
 |_=>exact nB D
theorem GG:∀{J:List eD} {b:List (List eT)},ou t J=d9 b->∀v∈J,(ia t v).isSome=true:=by
 intro J
 induction J with
 |nil=>intro b U v N;exact absurd N iI
 |cons w J D=>
  intro b h v N;refine fy h λx K m=>?_;refine ie m λl I U=>?_;clear h;rcases gy.mp N with rfl|N
  ·rw[K];rfl
  ·exact D I v N
def t8(d:ir)(P:iE)(w:Es):Prop:=∀{D Y c z t F r O},w.f D Y eb z=eb->w.i≤1->w.g d t F=d9 (r,O)->∀{B a V H},Bd d P D Y c B F a t V H->
 ∀{Q:Bool->AH->Prop},(∀s M,fk a t H s O M->Q r M)->TT c (w.c z) V H Q
theorem MU:t8 d P .b:=λ{U U U U U U U U} U U h {U U U U} b {U} G=>by cases h;exact Bz (G _ _ (.e b.f))
theorem MT{e:eW}{w:Es}(n:SB d P e):t8 d P (.a e w):=λ{U U U U U U r O} X C h {U U U U} b {U} G=>by
 cases w with
 |b=>
  refine hV h λW a K m=>?_;refine fy m λi I R=>?_;rw[sI I] at K;have D:(i,a)=(r,O):=by(clear K I;cases i)<;>exact eX R
  clear m I R;cases D;exact OD (n (nj.mp X).1 K b λs M p=>G s M p)
 |a=>exact absurd (Nat.le_of_succ_le_succ C) (W' _)
theorem Dl(s:iF)(x:eP)(B:iN)(v:ed):pS (s.i x) B v=f9 v:=by
 cases s with
 |a e=>exact(jp e x).2.2.2.2 B v
 |_=>rfl
theorem Ja{t O:eB}{J:List eD}(h:pE t O J=eb):∀v∈J,w7 t O v:=λv N=>@of_decide_eq_true _ (zZ ..) (iC.mp h v N)
structure OG(a1:Ad)(t1:eB)(H1:AH)(t':eB)(asEnd:List eT)(st:eB->Bool)(bnd:List eT->Fr)(test:eB->Fr->Option (Bool×eB))(elt:eB->Fr->Option (eD×eB))(rs:List (List eT))(i:Nat)(acc:List ed)(H':AH)(a':Ad)(t2:eB)(as:List eT):Prop where
 a:fk a1 t1 H1 a' t2 H'
 c:gN H' a' t2 as acc
 b:sM st bnd test elt (rs.drop i) t2 as=d9 (asEnd,t')
 d:acc.length≤i
 e:i≤rs.length
theorem PG{u:eB->Bool}{R:List eT->Fr}{j:eB->Fr->Option (Bool×eB)}{a:eB->Fr->Option (eD×eB)}{L:List (List eT)}{t:eB}{as:List eT}{r:List eT×eB}(h:sM u R j a L t as=d9 r):u t=true:=by
 cases L with
 |nil=>exact(wi h).1
 |cons=>exact(wi h).1
theorem GC{T:eW}{W:List Nat}{N:iF}{aa:Es}{A:gZ}(hs:oY d P N)(he:SE d P T)(hi:t8 d P aa){x:eP}{ag:eD}(X:(eW.B T W N aa A).y D Y em x=eb)(h:(eW.B T W N aa A).q d t F=d9 (ag,O))(b:Bd d P D Y c B F a t V H):
  D=em∧mh Y W A=eb∧(∀i∈W,jU A i eu=eb)∧∃as,ag=.c eb as∧∀{K:List ed->AH->Prop},(∀z s M,fk a t H s O M->gN M s O as z->K z M)->
   j8 c (N.i (xg x).iter) (xf W (xg x).target) (W.map nm) V H (λn e l Z=>∃J,yz c (fN A) (kn c A) (T.u (x1 x)) (aa.c (xg x).ifs) n e l Z J∧∀z M,J n z M->K z M):=by
 refine fq X λX av=>?_;refine fq X λX au=>?_;refine fq X λX aq=>?_;refine fq X λX ak=>?_;refine fq X λX aF=>?_;refine fq X λX k=>?_;refine fq X λX y=>?_;refine fq X λX j=>?_;refine fq X λU v=>?_;have az:D=false:=by(clear X b y;clear X;clear X;clear X;clear X;clear X;clear X;clear X;clear X;cases D)<;>first|rfl|exact nB v
 clear X v;clear X;clear X;clear X;clear X;clear X;clear X;clear X;clear X;subst az;have ae:=iC.mp k;refine hV h λvs t1 h1 m=>?_;refine fy m λls h2 R=>?_;refine fy R λL h3 k3=>?_;refine gm k3 λhl k4=>?_;refine oz k4 λas S h4 k5=>?_;clear h m R k3 k4;cases k5;refine⟨rfl,j,ae,as,rfl,λ{K} hK=>hs y h1 h2 h3 (of_decide_eq_true ak) b ?_⟩;intro n e l f Z aE aG Q w;refine(ey (λi z M=>∃s S o,OG f t1 Z O as (λO=>pE t1 O vs) (iS A F W) (λt F=>aa.g d t F) (λt F=>T.q d t F) L i z M s S o) ⟨?_,?_,?_⟩ ?_)
 ·exact⟨f,t1,[],.e Q.b,rfl,h4,ig _,pL _⟩
 ·rintro i z M ⟨s,S,o,I⟩
  refine⟨w.j _ (λq G=>?_) ((b.e (Q.d I.a)).g.b),im I.d (im I.e hl)⟩;have hv:q.2.1∈vs:=w.e▸jZ (f:=λq=>q.2.1) G;exact I9 Q.b (w.b q G).1 (w.b q G).2.1 (GG h2 _ hv) (eH (w.b q G).2.1) I.a (Ja (PG I.b) _ hv)
 ·rintro i z M C af r aj aw ⟨s,S,o,I⟩ O2
  have ac:i<L.length:=w.d▸aw;have hd:L.drop i=L[i]::L.drop (i+1):=Ku ac;have p:=I.b;rw[hd] at p;refine gm p λU p=>?_;refine hV p λbb t3 r1 p=>?_;have cx:=LA b.b j O2;have aA:=(w.f i _ (jF ac)).d I.a Q.b;have fr:FR (cc c (fN A) (kn c A) C af r) B s S (iS A F W L[i]) (e i aj) M:=by
   rw[w.h];refine FR.q (LM b.b j (b.e (Q.d I.a)).g) (λaB hj=>?_) aA;refine fq (ae aB hj) λq1 q2=>?_;exact⟨of_decide_eq_true q2,wj b.b j (of_decide_eq_true q1)⟩
  have u:Bd d P eb (J0 A) (cc c (fN A) (kn c A) C af r) B (iS A F W L[i]) s S (e i aj) M:=⟨cx,fr,I.a.b⟩;refine hi au (of_decide_eq_true av) r1 u λa3 H3 g=>?_;cases bb with
  |true=>
   refine hV p λaH t4 r2 p=>?_;refine fy p λaD r3 p=>?_;rw[if_pos rfl];refine he aq r2 (u.e g) λaC a4 H4 p4 hu U=>?_;rw[yL r3] at hu;refine⟨a4,t4,o++[aD],(I.a.d g).d p4,((I.c.d g I.a.b).d p4 g.b).h (fS aC ([]) rfl hu rfl),p,?_,ac⟩;rw[il];exact D9 I.d
  |false=>exact⟨a3,t3,o,I.a.d g,I.c.d g I.a.b,p,Nat.le_succ_of_le I.d,ac⟩
 ·rintro z M ⟨s,S,o,I⟩
  have p:=I.b;rw[w.d,Wy] at p;refine gm p λU p=>?_;clear U;cases p;exact hK z s M (Q.d I.a) I.c
theorem zS{W:List Nat}{A:gZ}(F:mh Y W A=eb):∀y∈(fN A).names,y.2≠fK:=λy B e=>by
 (refine fP B λp J R=>?_;(clear B;obtain rfl:=R))
 cases G:p with|mk i k=>
 rw[G] at e J;clear G;cases(show k=fK from e);exact Iv F J
theorem zU{W:List Nat}{A:gZ}(F:mh Y W A=eb):∀y∈(fN A).names,y.2=eu->(fN A).names.lookup y.1=d9 eu:=λy B e=>by
 (refine fP B λp J O=>?_;(clear B;obtain rfl:=O))
 cases G:p with|mk i k=>
 rw[G] at e J;clear G;cases(show k=eu from e);exact(mY (uv F)).trans (RX F J)
theorem C8{W:List Nat}{A:gZ}(b:Bd d P em Y c B F a t V H)(g:mh Y W A=eb):rO (fN A) c.a=f9 (kn c A):=by
 refine Gw λy f e=>?_
 (refine fP f λh J p=>?_;(clear f;obtain rfl:=p))
 cases G:h with|mk i k=>
 rw[G] at e J;clear G;cases(show k=gb from e);refine iH (b.g.f _ (b.b.e i _ (CY g J))) λn U K U=>?_;rw[K];rfl
theorem MB{T:eW}{W:List Nat}{N:iF}{a:Es}{A:gZ}(S:oY d P N)(n:SE d P T)(D:t8 d P a):SE d P (.B T W N a A):=λ{U U U x U U U U} X h {U U U U U} b G=>by
 (refine i8 (GC S n D X h b) λe F C I=>?_;refine eR I λas Z g=>?_;(clear X;obtain rfl:=e);(clear h I;obtain rfl:=Z))
 refine Fk b.b.a (b.b.h rfl) (C8 b F) (λy B=>?_) (g λz s M p r c q=>G _ _ _ (p.d (.g p.b q)) (rC p.b q r) λU=>(ey c rfl (p.h q))) (Dl N _ _) (zS F) rfl (zU F)
 (refine fP B λi D Y=>?_;(clear B;obtain rfl:=Y))
 exact(mY (uv F)).trans (of_decide_eq_true (nj.mp (C i D)).1)
end
section
variable{P:iE}{d:ir}
theorem kU{e:eW}(n:SE d P e)(a:∀D Y x,e.y D Y eb x=eb->e.y D Y em x=eb)(J:∀x,PT (e.u x)):SE d P e∧SB d P e:=⟨n,EY n a J⟩
mutual
theorem fR:∀e:eW,SE d P e∧SB d P e
 |.a i=>kU MP (λU U U h=>h) λU U U=>rfl
 |.x i=>kU ME (λU U U h=>h) λU U U=>rfl
 |.d i=>kU MH (λU U U h=>h) λU U U=>rfl
 |.F=>kU MK (λU U U h=>h) λU U U=>rfl
 |.I b=>kU My (λU U U h=>h) λU U U=>rfl
 |.G s=>kU MM (λU U U h=>h) λU U U=>rfl
 |.c e f=>kU (Mv (fR e).1) (λU U U h=>h) λU U U=>rfl
 |.n e i=>kU (MN (fR e).1 (fR i).1) (λU U U h=>h) λU U U=>rfl
 |.H e=>kU (ML (fR e).1) (λU U U h=>h) λU U U=>rfl
 |.p o l r=>kU (Mx (fR l).1 (fR r).1) (λU U U h=>h) λU U U=>rfl
 |.h o l r=>⟨MA (fR l).1 (fR r).1,Mt (fR l).1 (fR r).1⟩
 |.M e=>⟨(λ{U U U U U U U U} h=>nomatch h),Mu (fR e).2⟩
 |.K e=>⟨EZ (fR e).1,EY (EZ (fR e).1) (λU U U h=>h) λU U U=>rfl⟩
 |.D o w=>⟨(λ{U U U U U U U U} h=>nomatch h),Ms (mP w).2.1⟩
 |.C q b o=>⟨MF (fR q).2 (fR b).1 (fR o).1,(λ{U U U U U U U U} h=>nomatch h)⟩
 |.z w=>kU (MI (mP w).1) (λU U U h=>h) λU U U=>rfl
 |.A w=>kU (MO (mP w).1) (λU U U h=>h) λU U U=>rfl
 |.O=>kU MD (λU U U h=>h) λU U U=>rfl
 |.B T W N a A=>⟨MB (Bk N) (fR T).1 (mP a).2.2,(λ{U U U U U U U U} h=>nomatch h)⟩
 |.j g w=>kU (Mz (mP w).1) (λU U U h=>h) λU U U=>rfl
 |.v o m w=>kU (MJ (fR o).1 (mP w).1) (λU U U h=>h) λU U U=>rfl
 |.w g e=>kU (Mw (fR e).1) (λU U U h=>h) λU U U=>rfl
 |.J o k=>kU (MG (fR o).1 (fR k).1) (λU U U h=>h) λU U U=>rfl
 |.L o k=>kU (MC (fR o).1 (fR k).1) (λU U U h=>h) λU U U=>rfl
theorem mP:∀w:Es,qc d P w∧SA d P w∧t8 d P w
 |.b=>⟨MS,Mr,MU⟩
 |.a e w=>⟨MQ (fR e).1 (mP w).1,Mq (fR e).2 (mP w).2.1,MT (fR e).2⟩
theorem Bk:∀s:iF,oY d P s
 |.a e=>MY (fR e).1
 |.b e f=>MZ (fR e).1 (fR f).1
 |.f e f g=>M1 (fR e).1 (fR f).1 (fR g).1
 |.g e=>MX (fR e).1
end
end
section
variable{c:Cx}{V:eJ}{H M:AH}{P:iE}{d:ir}{D:Bool}{Y:gZ}{B:AH}{F:Fr}{a w:Ad}{t O I:eB}
mutual
theorem AR.i(k:∀r f,H r=d9 (.f f)->M r=d9 (.f f)):∀{x:eT} {u:ed},AR H a t x u->AR M a t x u
 |.e,_,h=>h
 |.g b,_,h=>h
 |.a c,_,h=>h
 |.h s,_,h=>h
 |.c,_,h=>h
 |.d n,_,h=>h
 |.f as,_,L=>fT L λr f e h S=>⟨r,f,e,k _ _ h,gN.e k S⟩
theorem gN.e(k:∀r i,H r=d9 (.f i)->M r=d9 (.f i)):∀{l:List eT} {u:List ed},gN H a t l u->gN M a t l u
 |[],_,c=>c
 |_::_,_,Z=>fT Z λu f m c S=>⟨u,f,m,AR.i k c,gN.e k S⟩
end
theorem jK.m(k:∀g i,H g=d9 (.f i)->M g=d9 (.f i)):∀{x:List (Int×eT)} {b:List (Int×ed)},jK H a t x b->jK M a t x b
 |[],_,h=>h
 |_::_,_,j=>fT j λb f e h S=>⟨b,f,e,AR.i k h,jK.m k S⟩
def qW(H M:AH)(r:et):Prop:=∀x,x≠r->M x=H x
theorem Dt(H:AH)(r:et)(o:AO):qW H (eQ H r o) r:=λU h=>fw _ _ h
theorem PO(H:AH)(r:et):qW H (pg H r) r:=λU h=>Cc _ h
theorem qW.b{r:et}{o:AO}(k:qW H M r)(h:H r=d9 o)(y:∀A,o≠.f A):∀q A,H q=d9 (.f A)->M q=d9 (.f A):=λq A G=>
 (k q λe=>by rw[e,h] at G;exact y A (eX G)).trans G
theorem Am{r:et}{o X:AO}(h:H r=d9 o)(y:∀A,o≠.f A):∀q A,H q=d9 (.f A)->eQ H r X q=d9 (.f A):=(Dt H r X).b h y
theorem VR.n{r:et}{o:AO}(b:qW H M r)(h:H r=d9 o)(y:∀A,o≠.f A):∀{v:eD} {u:ed},VR H a t v u->(v.k=eb->u≠ec r)->VR M a t v u
 |.b _,_,N,_=>AR.i (b.b h y) N
 |.c _ _,_,L,g=>jD L λc A e K S d=>⟨c,A,e,(b _ λ(q:c=r)=>g rfl (by rw[e,q])).trans K,S.e (b.b h y),d⟩
 |.g _ _,_,Z,g=>jD Z λc A e K S d=>⟨c,A,e,(b _ λ(q:c=r)=>g rfl (by rw[e,q])).trans K,S.m (b.b h y),d⟩
 |.j,_,N,_=>N
 |.f _ _,_,N,_=>N
 |.h,_,N,_=>N
 |.m,_,N,_=>N
theorem VR.l{r:et}{o X:AO}(h:H r=d9 o)(y:∀A,o≠.f A){v:eD}{u:ed}(N:VR H a t v u)(b:v.k=eb->u≠ec r):VR (eQ H r X) a t v u:=N.n (Dt H r X) h y b
theorem VR.k:∀{v:eD} {u:ed},VR H a t v u->v.k=eb->∃r o,u=ec r∧H r=d9 o∧o.i=eb
 |.c _ _,_,Z,_=>fT Z λb A e K U=>⟨b,_,e,K,rfl⟩
 |.g _ _,_,j,_=>fT j λb A e K U=>⟨b,_,e,K,rfl⟩
 |.b _,_,_,h=>nomatch h
 |.j,_,_,h=>nomatch h
 |.f _ _,_,_,h=>nomatch h
 |.h,_,_,h=>nomatch h
 |.m,_,_,h=>nomatch h
theorem Wd.f{r:et}(w:Wd H a t)(b:qW H M r)(E:¬jx a t r):Wd M a t:=by
 have k:∀{x:et} {X:AO},jx a t x->H x=d9 X->M x=d9 X:=λ{x X} Z h=>(b x λ(e:x=r)=>E (e▸Z)).trans h;refine⟨k (eH (eH rfl)) w.c,k (eI (eH rfl)) w.d,w.e,λJ=>?_⟩;have i:=w.b J;refine⟨k (eI (eI ⟨J,eH rfl⟩)) i.e,k (eH (eI ⟨J,eH rfl⟩)) i.d,k (eH (eI ⟨J,eI (eH rfl)⟩)) i.c,i.h,i.g,i.f,λn W=>?_,i.j,i.i⟩;have q:=i.b n W;exact⟨k (eI (eI ⟨J,eI (ey n W (eH rfl))⟩)) q.d,k (eH (eI ⟨J,eI (eI (ey n W (eH rfl)))⟩)) q.c,k (eH (eI ⟨J,eI (eI (ey n W (eI rfl)))⟩)) q.b,
  k (eI (eI ⟨J,eI (ey n W (eI (eH rfl)))⟩)) q.f,k (eI (eI ⟨J,eI (ey n W (eI (eI rfl)))⟩)) q.e⟩
theorem fk.z{r:et}(s:fk w I B a t H)(b:qW H M r)(j:B r=eh)(E:¬jx a t r):fk w I B a t M:=by
 have k:∀{x:et} {p:AO},B x=d9 p->M x=H x:=λ{x p} h=>b x λ(e:x=r)=>by rw[e,j] at h;exact nS h
 exact⟨s.b.f b E,λx p Z l=>(k Z).trans (s.f x p Z l),λx p Z=>(s.j x p Z).imp λX h=>(k Z).trans h,s.l,s.r,s.s,s.m,s.p,s.c⟩
theorem fk.u{r:et}{o:AO}(s:fk w I B a t H)(j:B r=eh)(E:¬jx a t r):fk w I B a t (eQ H r o):=s.z (Dt H r o) j E
theorem kK.e{A:j0}{r:et}{o X:AO}(h:kK A H)(E:H r=d9 o)(y:∀x,o≠.c x):kK A (eQ H r X):=h.b λx p Z=>by
 rw[fw _ _ λc=>by rw[c,E] at Z;exact y _ (eX Z)];exact Z
structure gK(c:Cx)(B:AH)(a0:Ad)(t0:eB)(wr:List Nat)(ρ:eJ)(H:AH)(t':eB)(F':Fr)(a':Ad)(ρ':eJ)(H':AH):Prop where
 d:FR c B a' t' F' ρ' H'
 a:fk a0 t0 B a' t' H'
 f:∀i u,i∉wr->iy c ρ H (nm i) u->iy c ρ' H' (nm i) u
theorem FR.J(f:FR c B a t F V H):FR c B a t (λj=>(F j).map eD.e) V H:=by
 refine⟨λi v N=>?_,λi j v w r U N U y=>?_,f.f,f.inj,f.b⟩
 ·(refine ie N λQ K R=>?_;(clear N;obtain rfl:=R))
  refine f.e i Q K λu L T U=>?_;exact(fQ u L T.f (by rw[ry];nofun))
 ·(refine ie N λQ K O=>?_;(clear N;obtain rfl:=O))
  rw[ry] at y;exact nB y
def rx(Y:gZ)(i:Nat):Bool:=jU Y i eu||jU Y i fK
theorem qn{i:Nat}{k:fX}(h:jU Y i k=eb):i<113:=of_decide_eq_true (nj.mp h).2
theorem tO{i j:Nat}{n:et}{u w:ed}(f:FR c B a t F V H)(D:i<113)(z:c.a.kindOf (eE (nm i))=d9 fK)(X:c.a.cells.lookup (eE (nm i))=d9 n)(J:j≠i):
  iy c V (eQ H n (.g (d9 w))) (nm j) u↔iy c V H (nm j) u:=by
 have g:c.a.kindOf (eE (nm j))=d9 fK->∀s,c.a.cells.lookup (eE (nm j))=d9 s->s≠n:=λK s I e=>by
  subst e;exact J (un D (oG.mp (f.inj _ _ _ z K X I))).symm
 refine or_congr AC (and_congr_right λO=>exists_congr λs=>and_congr_right λC=>?_);rw[fw _ _ (g O s C)]
theorem FR.z{i:Nat}{v:eD}{u:ed}{n:et}{Q:Option ed}(f:FR c B a t F V H)(D:i<113)(z:c.a.kindOf (eE (nm i))=d9 fK)(X:c.a.cells.lookup (eE (nm i))=d9 n)(d:H n=d9 (.g Q))
  (N:VR H a t v u) (y:v.i=eb->∃r,u=ec r∧B r=eh)
  (S:v.k=eb->∀j U,j≠i->F j=d9 U->U.k=eb->(v.i||U.i)=eb->¬iy c V H (nm j) u):FR c B a t (eL F i v) V (eQ H n (.g (d9 u))):=by
 have M:iy c V (eQ H n (.g (d9 u))) (nm i) u:=eI ⟨z,n,X,gA _ _ _⟩;have C:∀{U:eD} {q:ed},VR H a t U q->VR (eQ H n (.g (d9 u))) a t U q:=by
  intro U q h;refine VR.l (o:=.g Q) d (λE e=>by cases e) h λg e=>?_;refine fT (h.k g) λr o R b p=>?_;rw[e] at R
  (replace R:=lq R;subst R)
  rw[d] at b;rw[←eX b] at p;exact AB p
 refine⟨λj U g=>?_,λj k U l r J g m K I W O=>?_,λx Z=>?_,f.inj,f.b.e d λx e=>by cases e⟩
 ·by_cases e:j=i
  ·clear D z X S
   subst e;rw[show eL F j v j=d9 v from if_pos rfl] at g
   (replace g:=eX g;subst g);exact(fQ u M (C N) y)
  ·rw[show eL F i v j=F j from if_neg e] at g
   refine f.e j U g λq L T A=>?_;exact(fQ q ((tO f D z X e).mpr L) (C T) A)
 ·by_cases e:j=i
  ·subst e
   rw[show eL F j v j=d9 v from if_pos rfl] at g;rw[show eL F j v k=F k from if_neg (gM J)] at m
   (replace g:=eX g;subst g)
   rw[W.b M] at O;exact S (uy K) k l (gM J) m I (by rw[K];rfl) ((tO f D z X (gM J)).mp O)
  ·rw[show eL F i v j=F j from if_neg e] at g
   by_cases G:k=i
   ·subst G
    rw[show eL F k v k=d9 v from if_pos rfl] at m
    (replace m:=eX m;subst m)
    rw[O.b M] at W;exact S I j U e g (uy K) (by rw[K];exact pI _) ((tO f D z X e).mp W)
   ·rw[show eL F i v k=F k from if_neg G] at m
    exact f.d j k U l r J g m K I ((tO f D z X e).mp W) ((tO f D z X G).mp O)
 ·refine f.g x Z λs w L T A=>?_
  by_cases e:s=n
  ·clear X d M C
   subst e;exact(fS s _ L (gA _ _ _) A)
  ·exact(fS s w L (by rw[fw _ _ e];exact T) A)
def vy(H M:AH):Prop:=∀r A,H r=d9 (.f A)->M r=d9 (.f A)
theorem SL{v:eD}(M:v.s=eb):v.i=false:=by cases v<;>first|rfl|(cases h:‹Bool›<;>first|rfl|(rw[h] at M;exact nB M))
theorem SM{v:eD}(M:¬v.s=eb)(O:v.k=eb):v.i=true:=by
 cases v with
 |c o z=>(clear O;cases o)<;>first|rfl|exact absurd rfl M
 |g o z=>(clear O;cases o)<;>first|rfl|exact absurd rfl M
 |_=>exact nB O
theorem qU{i:Nat}{v:eD}{u:ed}{Q:eJ->AH->Prop}(b:Bd d P em Y c B F a t V H)(s0:fk w I B a t H)(D:rx Y i=eb)(N:VR H a t v u)(y:v.i=eb->∃r,u=ec r∧B r=eh)
  (S:v.i=eb->∀j m,F j=d9 m->m.k=eb->¬iy c V H (nm j) u) (G:∀l M,vy H M->gK c B w I [i] V H t (Internal.oJ F i v) a l M->Q l M):TN c (nm i) u V H Q:=by
 have g:∀{A:Fr},(∀j m,A j=d9 m->m.k=eb->(v.i||m.i)=eb->v.k=eb->∃Z,F j=d9 Z∧Z.k=eb∧v.i=eb)->FR c B a t A V H->TN c (nm i) u V H λl M=>vy H M∧gK c B w I [i] V H t (eL A i v) a l M:=by
  intro A k f;have R:v.k=eb->∀j m,j≠i->A j=d9 m->m.k=eb->(v.i||m.i)=eb->¬iy c V H (nm j) u:=λK j m U o W O=>by
   refine f5 (k j m o W O K) λZ L T g3=>?_;exact S g3 j Z L T
  rcases DE.mp D with z|z
  ·refine oU b.b.a (j' b.b z) ⟨λU U h=>h,f.l (qn z) (j' b.b z) N y R,s0,λj q J h=>(qP (qn z) λe=>J (e▸gL _)).mpr h⟩
  ·refine f.g _ (j' b.b z) λn v0 L T g3=>?_
   refine Fq b.b.a (j' b.b z) L T ⟨Am T λus e=>(by cases e),f.z (qn z) (j' b.b z) L T N y R,s0.u (g3 (b.b.h rfl)) (Bi s0.b T rfl),λj q J h=>(tO f (qn z) (j' b.b z) L λe=>J (e▸gL _)).mpr h⟩
 have aa:∀{A:Fr},Internal.oJ F i v=eL A i v->(TN c (nm i) u V H λl M=>vy H M∧gK c B w I [i] V H t (eL A i v) a l M)->TN c (nm i) u V H Q:=λe h E s v' S C=>
  fc (h E s v' S C) (λU s' q1=>iH q1 λl M x ac=>⟨l,M,x,G _ _ ac.1 (e▸ac.2)⟩) λU U x=>x
 by_cases X:v.s=eb
 ·refine aa (if_pos X) (g (λj m K o W O=>?_) b.g.J)
  (refine ie K λZ L p=>?_;(clear K o;obtain rfl:=p))
  rw[SL X,ry] at W;exact nB W
 ·refine aa (if_neg X) (g (λj m K o U O=>(fQ m K o (SM X O))) b.g)
noncomputable def PJ(i:Nat)(A:gZ):Bool:=A.all λp=>!(p.1==i&&(p.2==eu||p.2==fK))
noncomputable def eW.R:eW->Option Es
 |.A b=>d9 b
 |_=>eh
noncomputable def eW.N:eW->Option gZ
 |.B _ _ _ _ b=>d9 b
 |_=>eh
def rz(x:eP):Bool:=(x1 x).pos.endLine==x.pos.line
def Jh(Y:gZ)(m:List Nat)(a J:List eP):Bool:=m.all (λi=>jU Y i eu)&&(m.length==2||m.length==3)&&J.length==m.length&&((jV m a).all λx=>x.pos.line==((jV m a).head?.map (·.pos.line)).getD 0)&&eU m.Nodup&&!(J.all (Li 8))&&!(J.all (Lh 8))
mutual
noncomputable def js.C(Y:gZ):js->fG->Bool
 |.a i e,E=>rx Y i&&e.y em Y em (sE E)&&e.N.all λM=>jU Y i eu&&(sT E).pos.line==(sE E).pos.line&&PJ i M
 |.l Q I e,E=>I.all (rx Y)&&e.y em Y em (sE E)&&e.N.isNone&&(match e.R with|some L=>(if Q then Jh Y I (xl (sT E)) (L.c (xl (sE E))) else I.all (λi=>jU Y i fK)&&eU (I≠[]))|none=>!Q)
 |.y I x,E=>I.all (rx Y)&&rz (sE E)
 |.z i t x,E=>rx Y i&&rz (x2 (sE E))
 |.d o f e,E=>eU (f<23)&&e.N.isNone&&e.y em Y em (sE E)&&o.y em Y em (x1 (sT E))
 |.D o x,E=>o.y em Y em (x1 (sT E))
 |.s i K e,E=>e.N.isNone&&e.y em Y em (sE E)&&K.all (λf=>eU (f<16))&&eU (K≠[])
 |.n x k e,E=>e.N.isNone&&e.y em Y em (sE E)&&k.y em Y em (x2 (sT E))
 |.m x e,E=>rz (sE E)&&e.y em Y em ((xl (sE E)).headD fU)
 |.u x e,E=>rz (sE E)&&e.y em Y em ((xl (sE E)).headD fU)
 |.A x k e,E=>rz (sE E)&&k.y em Y em ((xl (sE E)).headD fU)&&e.y em Y em ((xl (sE E)).tail.headD fU)
 |.B o e,E=>rz (sE E)&&e.y em Y em ((xl (sE E)).headD fU)
 |.q t e,E=>rz (sE E)&&e.y em Y em ((xl (sE E)).headD fU)
 |.h e,E=>e.N.isNone&&e.y em Y em (sE E)
 |.c J b o,E=>J.y em Y eb (sE E)&&b.e Y (sB E)&&o.e Y (sO E)
 |.w J b,E=>J.y em Y eb (sE E)&&b.e Y (sB E)
 |.j W N b,E=>N.k em Y (sE E)&&W.all (λi=>jU Y i eu)&&eU (W.length=N.j)&&b.e Y (sB E)
 |.g e,E=>e.y em Y em (sE E)
 |.r _,_=>eb
 |.F,_=>eb
 |.p,_=>eb
noncomputable def Ss.e(Y:gZ):Ss->List fG->Bool
 |.b,_=>eb
 |.a s r,z=>s.C Y (z.headD gH)&&r.e Y z.tail
end
def BE(H:AH)(a:Ad)(t:eB)(B:AH):Fl->gr->Prop
 |.a,f=>f=fY
 |.b v,f=>∃u,f=iV u∧VR H a t v u∧(v.i=eb->∃r,u=ec r∧B r=eh)
def S1(d:ir)(P:iE)(s:js):Prop:=∀{Y c x t F j O A},s.C Y x=eb->s.G d t F=d9 (j,O,A)->∀{B w I a V H Q},Bd d P em Y c B F a t V H->fk w I B a t H->
 (∀f b l M,gK c B w I s.H V H O A b l M->BE M b O B j f->Q f l M)->T1 c (s.v x) V H Q
theorem km{s:js}(k:∀{Y c x t F} {r:Fl×eB×Fr},s.C Y x=eb->s.G d t F=d9 r->∀{B w I a V H Q},Bd d P em Y c B F a t V H->fk w I B a t H->
 (∀f e l M,gK c B w I s.H V H r.2.1 r.2.2 e l M->BE M e r.2.1 B r.1 f->Q f l M)->T1 c (s.v x) V H Q):S1 d P s:=λ{U U U U U U U U} X h {U U U U U U U} b g G=>k X h b g G
theorem gK.b{s:Ad}(b:Bd d P D Y c B F a t V H)(S:fk w I B a t H)(p:fk a t H s O M):gK c B w I [] V H O F s V M:=
 ⟨(b.e p).g,S.d p,λi u U h=>h.a λn v h=>p.f _ _ h (nG b.f h rfl)⟩
theorem gK.e{L a:List Nat}{E S:eB}{K b:Fr}{f l:Ad}{o n:eJ}{Z d:AH}(p:gK c B w I L V H E K f o Z)(q:gK c B w I a o Z S b l n d):gK c B w I (L++a) V H S b l n d:=
 ⟨q.d,q.a,λi u D h=>q.f i u (λe=>D (lc.mpr (eI e))) (p.f i u (λe=>D (lc.mpr (eH e))) h)⟩
theorem gK.g{e:List Nat}{E:eB}{K:Fr}{f:Ad}{o:eJ}{Z:AH}(b:Bd d P D Y c B F a t V H)(p:gK c B w I e V H E K f o Z):Bd d P D Y c B K f E o Z:=⟨b.b,p.d,p.a.b⟩
theorem vb{j:Nat}{w:eD}{r:et}{s:Ad}(b:Bd d P D Y c B F a t V H)(p:fk a t H s O M)(E:H r=eh)(g:F j=d9 w)(y:w.k=eb):¬iy c V M (nm j) (ec r):=λh=>by
 have f:=b.g.k h λn v h=>p.f _ _ h (nG b.f h rfl);refine b.g.e j w g λu L T U=>?_;refine fT (T.k y) λl o R e U=>?_;rw[←f.b L] at R
 (replace R:=lq R;subst R)
 rw[E] at e;cases e
theorem n6{e:eW}(h:e.N=eh)(x:eP)(W:Option eP)(l:Nat)(B:iN):tL (e.u x) W l B=f9 false:=by
 cases e with
 |B=>exact iX h
 |_=>rfl
theorem jO{i:Nat}{e:eW}(n:SE d P e)(W:e.N=eh):S1 d P (.a i e):=km λ{Y c x t F r} X h {B w I a V H Q} b S G=>by
 refine oz h λC A K m=>?_;clear h;subst m;refine fq X λk U=>?_;refine fq k λv j=>?_;refine tP (n j K b λu f Z p N y=>?_) (n6 W _ _ _ _);refine qU (b.e p) (S.d p) v N (λo=>(y o).imp λr e=>⟨e.1,S.h e.2⟩) (λo z D g J=>?_) λl M U q=>G fY f l M ((gK.b b S p).e q) rfl
 (refine eR (y o) λr R s=>?_;(clear N y;obtain rfl:=R))
 exact vb b p s g J
theorem L0{i:Nat}{T:eW}{W:List Nat}{N:iF}{aa:Es}{A:gZ}(hs:oY d P N)(he:SE d P T)(hi:t8 d P aa):S1 d P (.a i (.B T W N aa A)):=km λ{Y c x t F au} X h {B w I a V H Q} b S G=>by
 refine oz h λav t1 K m=>?_;clear h;subst m;refine fq X λaf y=>?_;refine fq af λv j=>?_;refine fq y λl L=>?_;refine fq l λR ae=>?_
 (refine i8 (GC hs he hi j K b) λU o C g3=>?_;refine eR g3 λas O aj=>?_;(clear K g3;obtain rfl:=O))
 refine M7 b.b.a (b.b.h rfl) ?_ (j' b.b R) (C8 b o) (λaq f=>?_) (aj λz s M p r ac q=>?_) (Dl N _ _) (zS o) rfl (zU o)
 ·show(f9 (c.a.blockKind==jH&&c.a.kindOf (eE (nm i))==d9 eu&&(sT x).pos.line==(sE x).pos.line&&!((fN A).names.any λ(n,k)=>n==eE (nm i)&&(k==eu||k==fK))):Sem Bool)=f9 eb
  have hz:((fN A).names.any λ(n,k)=>n==eE (nm i)&&(k==eu||k==fK))=false:=by
   rw(occs:=eO) [DK];intro aq f
   (refine fP f λp hp e4=>?_;(clear f;obtain rfl:=e4))
   have:=iC.mp L p hp;have e:(eE (nm p.1)==eE (nm i))=(p.1==i):=by
    rw(occs:=eO) [AA,beq_iff_eq,beq_iff_eq,oG];exact⟨λe=>(un (qn R) e.symm).symm,λe=>e▸rfl⟩
   dsimp only;rw[e];exactλak=>by rw[ak] at this;exact nB this
  rw[hz,b.b.l,j' b.b R,ae];rfl
 ·(refine fP f λi hi Z=>?_;(clear f;obtain rfl:=Z))
  exact(mY (uv o)).trans (of_decide_eq_true (nj.mp (C i hi)).1)
 ·have D:=p.d (fk.g (o:=.a z) p.b q)
  refine G fY s _ _ ((gK.b b S D).e ⟨(b.e D).g.l (qn R) (j' b.b R) (rC p.b q r) (λU=>(ey ac rfl (S.h (p.h q)))) (λU ag aw U g J U=>vb b D (p.h q) g J),S.d D,λag u J h=>(qP (qn R) λe=>J (e▸gL _)).mpr h⟩) rfl
theorem Nj:∀{m:List Nat} {as:List eT} {p:List ed} {z:List eP} {F:Fr} {V:eJ} {H:AH} {Q:eJ->AH->Prop},m.all (rx Y)=eb->as.length=m.length->Bd d P em Y c B F a t V H->fk w I B a t H->gN H a t as p->
  (∀l M,gK c B w I m V H t (fV F m as) a l M->Q l M)->oZ c (jV m z) p V H Q:=by
 intro m
 induction m with
 |nil=>
  intro as p z F V H Q U C b S h G;rw[oN.mp C] at h G;rw[show p=[] from h];exact G _ _ ⟨b.g,S,λU U U h=>h⟩
 |cons i m s=>
  intro as p z F V H Q D C b S h G;cases as with
  |nil=>exact nZ C
  |cons x as=>
   refine fT h λu f e g X=>?_;rw[e];refine fe (Wu.symm.trans D |> nj.mp) λJ j=>?_;refine tS (qU b S J (v:=.b x) g (λh=>nB h) (λh=>nB h) λo Z k q=>?_);have q:gK c B w I [i] V H t (eL F i (.b x)) a o Z:=q;have K:gN Z a t as f:=X.e k;exact s j (nA C) (gK.g b q) q.a K λn T r=>G _ _ (q.e r)
theorem z6{e:eW}(h:e.R=eh)(a:List eP)(k:Nat)(p:fE)(x:eP)(B:iN):qM [iD a k p] (e.u x) B=f9 none:=by
 cases e with
 |A=>exact iX h
 |_=>rfl
set_option backward.match.sparseCases true in
noncomputable def oK(B:iN)(Z:Nat)(e:eP):Option Str:=match e with
 |gk id d=>if B.kindOf id==d9 eu&&d.line==Z then d9 id else eh
 |_=>eh
set_option backward.match.sparseCases true in
theorem Jj(a J:List eP)(k Z:Nat)(p v:fE)(B:iN):qM [iD a k p] (iD J Z v) B=
  (if(!(a.length==2||a.length==3)||J.length !=a.length||B.blockKind !=jH)=eb then f9 eh else
  if(J.any λ|KZ .. =>eb|_=>em)=eb then f9 eh else
  if((a.filterMap (oK B ((a.head?.map (·.pos.line)).getD 0))).length !=a.length||(a.filterMap (oK B ((a.head?.map (·.pos.line)).getD 0))).eraseDups.length !=(a.filterMap (oK B ((a.head?.map (·.pos.line)).getD 0))).length)=eb then f9 eh else
  if J.all (Li 8)=eb then f9 eh else
  if J.all (Lh 8)=eb then(do unsupported "assign.tuple-of-constant-expressions:order-of-the-stores";f9 (d9 (a.filterMap (oK B ((a.head?.map (·.pos.line)).getD 0))))) else f9 (d9 (a.filterMap (oK B ((a.head?.map (·.pos.line)).getD 0))))):=by
 rfl
theorem CU:∀(m:List Nat) (z:List eP),(jV m z).length=m.length:=by
 intro N
 induction N with
 |nil=>
  intro U;exact rfl
 |cons i m D=>
  intro z;exact congrArg (·+1) (D z.tail)
theorem Ji{a J:List eP}{k Z:Nat}{p v:fE}{B:iN}(l:∀b,a.filterMap (oK B b)=[])(W:a≠[]):qM [iD a k p] (iD J Z v) B=f9 none:=by
 rw(occs:=eO) [Jj,l];have:(([]:List ft).length !=a.length)=true:=by
  cases a with
  |nil=>exact absurd rfl W
  |cons=>rfl
 rw[this]
 split
 ·rfl
 ·split<;>rfl
theorem UY{B:iN}(l:Nat):∀{m:List Nat} (z:List eP),(∀i∈m,B.kindOf (eE (nm i))=d9 fK)->(jV m z).filterMap (oK B l)=[]:=by
 intro N
 induction N with
 |nil=>
  intro U U;exact rfl
 |cons i m D=>
  intro z h;show Wz _ (jy i _::jV m z.tail)=[];rw[DL];have:oK B l (jy i (z.headD fU))=none:=by
   show(if(B.kindOf (eE (nm i))==d9 eu&&_)=eb then _ else eh)=eh;rw[h i (gL _)];rfl
  rw[this];exact D z.tail λj J=>h j (gu _ J)
theorem P9{L:Type}[BEq L][LawfulBEq L]:∀{l:List L},l.Nodup->l.eraseDups=l:=by
 intro N
 induction N with
 |nil=>
  intro U;exact rfl
 |cons x l D=>
  intro h;refine qo h λK I=>?_;rw[List.eraseDups_cons,WB.mpr λy B=>by
   rw[Bool.not_eq_eq_eq_not,Wj,beq_eq_false_iff_ne];exactλe=>K (e▸B),D I]
theorem Ii:∀{m:List Nat},m.Nodup->(∀i∈m,i<113)->(m.map λi=>eE (nm i)).Nodup:=by
 intro N
 induction N with
 |nil=>
  intro U U;exact og
 |cons i m D=>
  intro h y;refine qo h λa o=>?_;rw(occs:=eO) [gj,kG];refine⟨λY=>?_,D o λj J=>y j (gu _ J)⟩;refine fP Y λj J e=>?_;rw[un (y j (gu _ J)) (oG.mp e)] at J;exact a J
set_option backward.match.sparseCases true in
theorem O1:∀{J:List eP},iQ J=eb->(J.any λ|KZ .. =>eb|_=>em)=false:=by
 intro N
 induction N with
 |nil=>
  intro U;exact rfl
 |cons y J D=>
  intro h;rw[AE];cases y<;>first|(exact nB h;done)|exact D h
theorem UZ{m:List Nat}{a J:List eP}{k Z:Nat}{p v:fE}(b:jA d P em Y c)(h:Jh Y m a J=eb)(S:iQ J=eb):qM [iD (jV m a) k p] (iD J Z v) c.a=f9 (d9 (m.map λi=>eE (nm i))):=by
 refine fq h λo f=>?_;refine fq o λF U=>?_;refine fq F λB e=>?_;refine fq B λR O=>?_;refine fq R λC W=>?_;refine fq C λK I=>?_;rw(occs:=eO) [Jj];have n:∀(l:Nat) (m:List Nat) (z:List eP),(∀i∈m,jU Y i eu=eb)->((jV m z).all λx=>x.pos.line==l)=eb->(jV m z).filterMap (oK c.a l)=m.map λi=>eE (nm i):=by
  intro l m
  induction m with
  |nil=>intro z _ _;rfl
  |cons i m r=>
   intro z C g;refine fq (Wu.symm.trans g) λL T=>?_;show Wz _ (jy i _::jV m z.tail)=_;rw[DL];have:oK c.a l (jy i (z.headD fU))=d9 (eE (nm i)):=by
    show(if(c.a.kindOf (eE (nm i))==d9 eu&&(z.headD fU).pos.line==l)=eb then _ else eh)=_;rw[j' b (C i (gL _)),show((z.headD fU).pos.line==l)=eb from L];rfl
   rw[this];exact congrArg (_::·) (r z.tail (λj q=>C j (gu _ q)) T)
 rw(occs:=eO) [n _ m a (iC.mp K) O,CU,fC];have y:∀i∈m,i<113:=λi D=>qn (iC.mp K i D);have G:=Ii (of_decide_eq_true e) y;rw[P9 G,fC,I,b.l];have A:(J.length !=m.length)=false:=by rw(occs:=eO) [bne,W];rfl
 rw[A];rw[O1 S,(by simpa using U:J.all (Li 8)=false),(by simpa using f:J.all (Lh 8)=false)];simp
theorem Oh:∀{m:List Nat} {as:List eT} {p:List ed} {F:Fr} {V:eJ} {H:AH} {Q:eJ->AH->Prop},(∀i∈m,rx Y i=eb)->as.length=m.length->Bd d P em Y c B F a t V H->fk w I B a t H->gN H a t as p->
  (∀l M,gK c B w I m V H t (fV F m as) a l M->Q l M)->yH c (m.map nm) p V H Q:=λ{m}=>by
 induction m with
 |nil=>
  intro as p F V H Q U C b S h G;rw[oN.mp C] at h G;rw[show p=[] from h];exact G _ _ ⟨b.g,S,λU U U h=>h⟩
 |cons i m s=>
  intro as p F V H Q D C b S h G;cases as with
  |nil=>exact nZ C
  |cons x as=>
  refine fT h λu f e g X=>?_;rw[e];refine qU b S (D i (gL _)) (v:=.b x) g (λh=>nB h) (λh=>nB h) λo Z k q=>?_;have q:gK c B w I [i] V H t (eL F i (.b x)) a o Z:=q;exact s (λj J=>D j (gu _ J)) (nA C) (gK.g b q) q.a (X.e k) λn T r=>G _ _ (q.e r)
theorem E5{m:List Nat}{as:List eT}{u:ed}{z:List eP}{k:Nat}{p:fE}{Q:eJ->AH->Prop}(e:c.b.handled=eh)(D:m.all (rx Y)=eb)(C:as.length=m.length)(b:Bd d P em Y c B F a t V H)(S:fk w I B a t H)(h:AR H a t (.f as) u)
  (G:∀l M,gK c B w I m V H t (fV F m as) a l M->Q l M):sd c (iD (jV m z) k p) u V H Q:=by
 (refine fT h λr f R L T=>?_;(clear h;obtain rfl:=R))
 exact Bn e L (by rw[T.b,CU,C]) (CV _ _) (Nj D C b S T G)
theorem J8{e:eW}{w:Es}(h:e.R=d9 w):e=.A w:=by
 cases e<;>first|((replace h:=eX h;subst h);rfl)|exact nS h
theorem L8{Q:Bool}{m:List Nat}{e:eW}(n:SE d P e):S1 d P (.l Q m e):=km λ{Y c x t F r} X h {B w I a V H ae} b s0 G=>by
 refine hV h λak t1 K k1=>?_;refine fy k1 λas h2 R=>?_
 (refine gm R λT s=>?_;refine fe T λhf C=>?_)
 clear h k1 R;obtain rfl:=eX s;refine fq X λaa k=>?_;refine fq aa λac y=>?_;refine fq ac λv j=>?_;have W:e.N=none:=by simpa using y
 have z:(qM [iD (jV m (xl (sT x))) (xk (sT x)) (sT x).pos] (e.u (sE x)) c.a=f9 eh)->Q=em->T1 c ((js.l Q m e).v x) V H ae:=λg O=>by
  clear X k;clear s;subst O;refine yo (n j K b λu f H1 p N U=>?_) (n6 W (sE x) (d9 (iD (jV m (xl (sT x))) (xk (sT x)) (sT x).pos)) x.pos.line c.a) g;rw[xi h2] at N;exact E5 (b.b.f hf) v C (b.e p) (s0.d p) N λl M q=>G fY f l M ((gK.b b s0 p).e q) rfl
 cases Z:e.R with
 |none=>
  rw[Z] at k;exact z (z6 Z _ _ _ _ _) (by simpa using k)
 |some es=>
  rw[Z] at k;have:=J8 Z;clear X aa ac y W Z;subst this;cases Q with
  |false=>
   refine fq k λq1 o=>?_;exact z (Ji (λag=>UY ag _ λi D=>j' b.b (iC.mp q1 i D)) λe=>of_decide_eq_true o (oN.mp (by rw[←CU m (xl (sT x)),e];rfl))) rfl
  |true=>
   have O:qM [iD (jV m (xl (sT x))) (xk (sT x)) (sT x).pos] (iD (es.c (xl (sE x))) (xk (sE x)) (sE x).pos) c.a=f9 (d9 ((m.map nm).map eE)):=by
    rw[gJ];exact UZ b.b k (mH _ _)
   refine M8 (m.map nm) (b.b.f hf) (n j K b λu f H1 p N U=>?_) rfl O;rw[xi h2] at N
   (refine fT N λr A e3 L T=>?_;(clear N;(clear U;obtain rfl:=e3)))
   refine(kM r A rfl L (by rw[T.b,fC,C]) ?_);rw[←nz];refine Oh (λi D=>iC.mp v i (lI.mp D)) (by rw[n9,n9,C]) (b.e p) (s0.d p) T.p λl M q=>G fY f l M ((gK.b b s0 p).e ⟨q.d,q.a,λaf aj J g=>q.f af aj (λe=>J (lI.mp e)) g⟩) rfl
theorem FR.s{i:Nat}{v b:eD}{r:et}{o X:AO}(f:FR c B a t F V H)(k:F i=d9 v)(y:v.i=eb)(af:b.i=eb)(s:iy c V H (nm i) (ec r))(E:H r=d9 o)(Y:o.i=eb)(N:VR (eQ H r X) a t b (ec r))(hB:B r=eh):
  FR c B a t (eL F i b) V (eQ H r X):=by
 have S:∀us,o≠.f us:=λus e=>by rw[e] at Y;exact nB Y
 have D:∀n v,H n=d9 (.g v)->eQ H r X n=d9 (.g v):=λn v h=>by
  rw[fw _ _ λe=>by rw[e,E] at h;(clear E S;(replace h:=eX h;subst h));exact nB Y];exact h
 have M:∀{v:eD},v.i=eb->v.k=true:=λ{v} h=>by cases v<;>first|rfl|exact nB h
 refine⟨λj w g=>?_,λj ae w w' q ac g m K I W h4=>?_,λx Z=>?_,f.inj,f.b.e E λx e=>by rw[e] at Y;exact nB Y⟩
 ·by_cases e:j=i
  ·clear k
   subst e;rw[show eL F j b j=d9 b from if_pos rfl] at g
   (replace g:=eX g;subst g)
   exact(fQ _ (s.a D) N (λU=>(ey r rfl hB)))
  ·rw[show eL F i b j=F j from if_neg e] at g
   refine f.e j w g λu L T A=>?_;exact(fQ u (L.a D) (T.l E S λJ G=>f.d i j v w r (gM e) k g y J s (G▸L)) A)
 ·have aa:∀{l:Nat} {z:eD},eL F i b l=d9 z->∃C,F l=d9 C∧(z.i=eb->C.i=eb)∧(z.k=eb->C.k=eb):=λ{l z} P=>by
   by_cases e:l=i
   ·exact(fQ v (e▸k) (λU=>y) (λU=>M y))
   ·exact(fQ z ((show eL F i b l=F l from if_neg e)▸P) id id)
  refine f5 (aa g) λz R O U=>?_;refine f5 (aa m) λz' p U d=>?_;exact f.d j ae z z' q ac R p (O K) (d I) (f.k W D) (f.k h4 D)
 ·refine f.g x Z λn Q L T A=>?_
  exact(fS n Q L (D _ _ T) A)
structure rY(c:Cx)(B:AH)(F:Fr)(a:Ad)(t:eB)(ρ:eJ)(H:AH)(i:Nat)(xs:List eT)(r:et)(us:List ed):Prop where
 g:F i=d9 (.c eb xs)
 l:iy c ρ H (nm i) (ec r)
 b:H r=d9 (.a us)
 d:gN H a t xs us
 k:¬jB a t r
 f:¬jx a t r
 e:B r=eh
theorem Ly{D:Bool}(b:Bd d P D Y c B F a t V H){i:Nat}{z:List eT}(h:jE F i=d9 z):∃r f,rY c B F a t V H i z r f∧∀p Q,Q (ec r) H->TE c (gk (eE (nm i)) p) V H Q:=by
 refine fy h λv K I=>?_;rw[CZ I] at K;obtain⟨u,⟨r,f,rfl,L,T,g,E⟩,R,s,M⟩ :=b.j K;obtain⟨k,e,j⟩ :=s rfl
 (replace e:=lq e;subst e)
 exact(ib r f ⟨K,R,L,T,g,E rfl,j⟩ M)
theorem Bd.i{D:Bool}(b:Bd d P D Y c B F a t V H){i:Nat}{z:List eT}(h:jE F i=d9 z){G:Prop}(N:∀r k,rY c B F a t V H i z r k->(∀p Q,Q (ec r) H->TE c (gk (eE (nm i)) p) V H Q)->G):G:=iH (Ly b h) N
theorem rY.h{s:Ad}{i:Nat}{z:List eT}{r:et}{b:List ed}(o:rY c B F a t V H i z r b)(w:Wd H a t)(p:fk a t H s O M):rY c B F s O V M i z r b:=
 ⟨o.g,o.l.a λn v h=>p.f _ _ h (nG w h rfl),p.f _ _ o.b o.k,o.d.d p w,p.w o.b o.k,p.v o.b o.f,o.e⟩
theorem rY.j{k:List Nat}{i:Nat}{z R:List eT}{r:et}{f L:List ed}(o:rY c B F a t V H i z r f)(b:Bd d P em Y c B F a t V H)(g:fk w I B a t H)
  (S:gN H a t R L):gK c B w I k V H t (eL F i (.c eb R)) a V (eQ H r (.a L)):=by
 have u:=g.u (o:=.a L) o.e o.f;refine⟨b.g.s (b:=.c eb R) o.g rfl rfl o.l o.b rfl (zf r L rfl (gA _ _ _) (S.e (Am o.b λf e=>by cases e)) o.k (λU=>o.f)) o.e,u,λj l U h=>h.a λn v h=>?_⟩;rw[fw _ _ λe=>by rw[e,o.b] at h;cases h];exact h
theorem N2{o e:eP}{g d:fE}{Q:ed->AH->Prop}(O:c.d)(j:PB o)(f:iQ [e]=eb)(q:(g.endLine==d.line)=eb)(n:∀b,kB [e] b=(em,jc e b)::kB [] b)
  (h:TE c o V H (λv Z=>∃l C,v=ec l∧Z l=d9 (.a C)∧TE c e V Z (λu T=>∃J,T l=d9 (.a J)∧J.length≤100000∧Q ez (eQ T l (.a (J++[u])))))):
  TE c (jr (jM o (eE "append") g) [e] [] d) V H Q:=
 qS O j f (by simp) q xP PySem.F.slot_list_append PySem.F.type_list_append (h.a λv Z Y=>fT Y λl C K I W=>⟨l,_,K,I,uw,jk (W.a λu T i=>f5 i λJ L a A=>kC (Nv L a A)) n⟩)
theorem N6{o e:eP}{g d:fE}{Q:ed->AH->Prop}(O:c.d)(j:PB o)(m:iQ [e]=eb)(q:(g.endLine==d.line)=eb)(n:∀f,kB [e] f=(em,jc e f)::kB [] f)
  (h:TE c o V H (λv Z=>∃l C,v=ec l∧Z l=d9 (.a C)∧TE c e V Z (λu T=>∃b J A,u=ec b∧T l=d9 (.a J)∧T b=d9 (.a A)∧J.length+A.length≤100000∧Q ez (eQ T l (.a (J++A)))))):
  TE c (jr (jM o (eE "extend") g) [e] [] d) V H Q:=
 qS O j m (by simp) q xP Xq PySem.F.type_list_extend (h.a λv Z k=>fT k λl C K I W=>⟨l,_,K,I,uw,jk (W.a λu T S=>mZ S λb J A R L a w=>fe w λi E=>kC (by(clear S;rw[R]);exact Ny L a i E)) n⟩)
theorem Oa{o:eP}{g d:fE}{Q:ed->AH->Prop}(O:c.d)(j:PB o)(q:(g.endLine==d.line)=eb)
  (h:TE c o V H (λv Z=>∃l J u,v=ec l∧Z l=d9 (.a (J++[u]))∧J.length<100000∧Q u (eQ Z l (.a J)))):
  TE c (jr (jM o (eE "pop") g) [] [] d) V H Q:=
 qS O j rfl (by decide) q xP Xu PySem.F.type_list_pop (h.a λv Z A=>mZ A λl J u K I W a=>⟨l,_,K,I,uw,kC (NF I W a)⟩)
theorem LY{i:Nat}{e:eW}(n:SE d P e):S1 d P (.m i e):=km λ{Y c x t F r} X h {B w I a V H Q} b S G=>by
 refine hV h λJ D K m=>?_;refine fy m λz q R=>?_;refine fy R λy W s=>?_;refine gm s λC M=>?_;clear h m R s
 (replace M:=eX M;subst M)
 refine fq X λv j=>?_;refine b.i q λr A o k=>?_;refine tQ (N2 b.b.a (λU U U=>rfl) (jp e _).2.1 v (λl=>(jp e _).2.2.2.1 l []) (k _ _ (fS r A rfl o.b (n j K b λu f Z p N U=>?_)))) b.b.g rfl;have g:=o.h b.f p;rw[yL W] at N;exact(fQ A g.b (by rw[g.d.b];exact C) (G fY f V _ ((gK.b b S p).e (g.j (b.e p) (S.d p) (g.d.h (fS u ([]) rfl N rfl)))) rfl))
theorem Mb{i:Nat}{e:eW}(n:SE d P e):S1 d P (.u i e):=km λ{Y c x t F r} X h {B w I a V H Q} b S G=>by
 refine hV h λaa t1 K m=>?_;refine fy m λz J R=>?_;refine fy R λl W s=>?_;refine gm s λC M=>?_;clear h m R s
 (replace M:=eX M;subst M)
 refine fq X λv j=>?_;refine b.i J λr A o k=>?_;refine tQ (N6 b.b.a (λU U U=>rfl) (jp e _).2.1 v (λD=>(jp e _).2.2.2.1 D []) (k _ _ (fS r A rfl o.b (n j K b λu f Z p N U=>?_)))) b.b.g rfl;have g:=o.h b.f p
 (refine lN p.b N W λq O y L T=>?_;(clear N;(clear U;obtain rfl:=y)))
 exact(Cq q A O rfl g.b L (by rw[g.d.b,T.b];exact C) (G fY f V _ ((gK.b b S p).e (g.j (b.e p) (S.d p) (g.d.h T))) rfl))
theorem gN.x:∀{z:List eT} {m:eT} {l:List ed},gN H a t (z++[m]) l->∃f i,l=f++[i]∧gN H a t z f∧AR H a t m i:=by
 intro N
 induction N with
 |nil=>
  intro U U L;exact fT L λu f c k S=>⟨[],u,by rw[c,show f=[] from S];rfl,rfl,k⟩
 |cons U _ D=>
  intro U U Z;refine fT Z λu f c k S=>?_;refine fT (D S) λJ i R n o=>?_;exact(fS (u::J) i (by rw[c,R];rfl) (fS u J rfl k n) o)
theorem Fo{i:Nat}{z:List eT}{y:eT}{x:eP}{Q:ed->AH->Prop}(C:rz x=eb)(h:jE F i=d9 z)(j:z.getLast? =d9 y)(q:z.length≤100000)(b:Bd d P em Y c B F a t V H)(S:fk w I B a t H)
  (G:∀u M,vy H M->AR M a t y u->gK c B w I [i] V H t (eL F i (.c eb z.dropLast)) a V M->Q u M):TE c (ul i "pop" [] x) V H Q:=by
 refine b.i h λr n o m=>?_;have e:z=z.dropLast++[y]:=by
  refine fL (List.getLast?_eq_some_iff.mp j) λl e=>?_;rw[e,Kt]
 have D:=o.d;rw[e] at D
 (refine fT D.x λf g O L T=>?_;(clear D;obtain rfl:=O))
 have p:(f++[g]).length=z.length:=o.d.b;have k:vy H (eQ H r (.a f)):=Am o.b λn e=>by cases e
 exact Oa b.b.a (λU U U=>rfl) C (m _ _ (pj r f g rfl o.b (by rw[il,WI] at p;lia) (G _ _ k (T.i k) (o.j b S L))))
theorem L7{D:List Nat}{o:Nat}:S1 d P (.y D o):=km λ{Y c x t F r} X h {B w I a V H Q} b S G=>by
 refine fy h λz K m=>?_;refine fy m λy f R=>?_;refine fy R λas W s=>?_
 (refine gm s λA e=>?_;refine gY A λl C n=>?_)
 clear h m R s
 (replace e:=eX e;subst e)
 refine fq X λv j=>?_;refine yo (Fo j K f n b S λu M k g p=>?_) rfl rfl;have:eD.b y=.b (.f as):=xi W;clear f W;cases this;exact E5 (b.b.f l) v C (p.g b) p.a g λE i q=>G fY a E i (p.e q) rfl
theorem Kd{F:Fr}{j:Nat}{f:eP}{p:fE}{Q:ed->AH->Prop}(b:Bd d P D Y c B F a t V H)(h:uD F j=eb)(G:5≤t.g->Q (ec a.c) H):TE c (jM (jy j f) (eE "windows") p) V H Q:=by
 obtain⟨v,K,I⟩ :∃v,F j=d9 v∧v.q=true:=by
  unfold uD at h;cases k:F j with
  |none=>rw[k] at h;exact nB h
  |some v=>rw[k] at h;exact(ey v rfl h)
 rw[Al I] at K;refine b.h K λu N U U E=>?_;have J:5≤t.g:=N.2;have l:qm t 16 (.b .c)=d9 .j:=by
  show(if 16≤16 then t.n[16-16]? else eh)=_;rw[if_pos (ig _)];unfold eB.n;rw[AG (by lia)];rfl
 refine wc b.b.b b.f N l λx C z y q L e A U=>?_;refine qR (a:="windows") b.b.a (λU U U=>rfl) (E _ _ ⟨x,C,z,y,q,L,e.e,e.b,e.d,e.g,e.a,?_⟩);rw[A.1];exact G J
theorem L9{L N k:Nat}:S1 d P (.z L N k):=km λ{Y c x t F r} X h {B w I a V H Q} b S G=>by
 refine fy h λz K m=>?_;refine fy m λy o R=>?_;refine fy R λn W s=>?_
 (refine gm s λE f=>?_;refine gY E λl C D=>?_)
 clear h m R s
 (replace f:=eX f;subst f)
 refine fq X λv j=>?_;refine tP (Bt (Kd b l λJ=>Fo j K o D b S λu M tk g p=>?_)) rfl;have:eD.b y=.a n:=jT W;clear o W;cases this;rw[show u=vi n from g];have A:=p.a.b.b J;refine By A.c (wz C) (qU (p.g b) p.a v (v:=.b (.d n)) ⟨rfl,J,A.f n C⟩ nofun nofun λZ i U q=>G fY a Z i ?_ rfl) λU U=>rfl;exact⟨(p.e q).d,q.a,λO T C=>(p.e q).f O T λe=>C (gy.mpr ((gy.mp e).symm.imp gR.mp gR.mpr))⟩
theorem Aw{v:ed}{x:String}:∀{X:List String} {J:List ed} {f:Nat},X.Nodup->X[f]? =d9 x->f<J.length->kW x v (X.zip J)=X.zip (J.set f v):=by
 intro X
 induction X with
 |nil=>intro J f U h;rw[Kz] at h;exact nS h
 |cons n X D=>
  intro J f G h C;cases J with
  |nil=>exact absurd C (pK _)
  |cons u J=>
   cases f with
   |zero=>
    clear D
    (replace h:=eX h;subst h)
    show kW n v ((n,u)::X.zip J)=_;rw[zV];rw[if_pos rfl];rfl
   |succ f=>
    refine qo G λO j=>?_;show kW x v ((n,u)::X.zip J)=_;rw[zV];rw[if_neg λe=>O (by rw[show n=x from e];exact tt h),D j h (Nat.lt_of_succ_lt_succ C)];rfl
theorem Kf{n:Int}{w C:gE}{i:Int}{f:Nat}(h:w.m i f=d9 C):f<16∧(ng a n w).set f (vi i)=ng a n C∧C.a=w.a:=by
 unfold gE.m at h
 split at h<;>first|((replace h:=eX h;subst h);exact⟨by decide,rfl,rfl⟩)|cases h
theorem Vn{n:Int}{w C:gE}{i:Int}{f:Nat}(h:w.m i f=d9 C):kW (gf f) (vi i) (i0 a n w)=i0 a n C:=by
 refine gY (Kf (a:=a) (n:=n) h) λK I U=>?_;unfold i0;rw[Aw qj.1 (GZ K) (show f<(ng a n w).length from K),I]
theorem Vf{i:Int}{f:Nat}(J:5≤t.g)(h:t.o i f=d9 O):(16≤f∧f<23)∧kW (gf f) (vi i) (jv a t)=jv a O∧5≤O.g∧O.c=t.c∧O.a=t.a∧O.b=t.b∧O.h=t.h∧O.k=t.k∧O.e=t.e:=by
 obtain⟨w,p,N,D,X,G,y,R,S,d⟩ :=t;have J:5≤y:=J;have W:y=5∨y=6∨y=7∨∃m,y=m+8:=by
  rcases Nat.lt_or_ge y 8 with q|q
  ·lia
  ·exact eI (eI (eI ⟨y-8,by lia⟩))
 have C:∀m k,k≤8->max (m+8) k=m+8:=λm k z=>Nat.max_eq_left (by lia);unfold eB.o at h
 split at h
 ·(replace h:=eX h;subst h)
  rcases W with rfl|rfl|rfl|⟨m,rfl⟩ <;>exact⟨by decide,rfl,J,rfl,rfl,rfl,rfl,rfl,rfl⟩
 ·(replace h:=eX h;subst h)
  refine⟨by decide,?_,im J (W3 _ _),rfl,rfl,rfl,rfl,rfl,rfl⟩;clear J;clear J;rcases W with rfl|rfl|rfl|⟨m,rfl⟩
  ·rfl
  ·rfl
  ·rfl
  ·unfold jv;dsimp only;rw[C m 6 (by decide)];rfl
 ·refine gm h λU h=>?_
  (replace h:=eX h;subst h)
  refine⟨by decide,?_,im J (W3 _ _),rfl,rfl,rfl,rfl,rfl,rfl⟩;clear J h;clear J;rcases W with rfl|rfl|rfl|⟨m,rfl⟩
  ·exact absurd (show 6≤5 from U) (by decide)
  ·rfl
  ·rfl
  ·unfold jv;dsimp only;rw[C m 7 (by decide)];rfl
 ·exact nS h
theorem oB{x y:et}{o X:AO}(Z:H x=d9 o)(B:H y=d9 X)(h:o≠X):x≠y:=λe=>by
 rw[e,B] at Z;exact h (eX Z).symm
theorem Ke{n m:Int}{w C:gE}(h:n≠m):AO.b (i0 a n w)≠.b (i0 a m C):=λe=>by
 injection e with e
 have this:d9 (vi n)=d9 (vi m):=congrArg (λl:List (String×ed)=>l.head?.map Ea) e;clear e;cases this;exact h rfl
theorem Ao{n:Int}{w:gE}:AO.b (i0 a n w)≠.b (jv a t):=λe=>by
 injection e with e
 have K:d9 "number"=(jv a t).head?.map kz:=congrArg (λl:List (String×ed)=>l.head?.map kz) e;unfold jv at K;cases h:t.g with
 |zero=>rw[h] at K;cases K
 |succ k=>
  rw[h] at K;have K:d9 "number"=d9 "windows":=K;exact absurd K (by decide)
theorem fk.q{x:et}{o:AO}(w:Wd H a t)(Z:jB a t x)(d:Wd (Internal.eQ H x o) a O)(C:O.c=t.c)(W:5≤O.g↔5≤t.g)(N:O.h=t.h)(X:O.k=t.k):fk a t H a O (Internal.eQ H x o):=by
 have b:∀n,O.j n↔t.j n:=λn=>by unfold eB.j;rw[C]
 have l:∀y,jB a O y->jB a t y:=λy h=>h.imp id λY=>fe Y λJ h=>⟨W.mp J,h.imp id λh=>h.imp id λc=>eR c λn q h=>⟨n,(b n).mp q,h⟩⟩;refine⟨d,λy p B I=>by rw[fw _ _ λ(e:y=x)=>I (e▸Z)];exact B,λy p B=>?_,λy h=>eH (l y h),λy h=>eH (h.imp (l y) λh=>h.imp id λk=>fe k λJ h=>⟨W.mp J,h.imp id λS=>eR S λn q h=>⟨n,(b n).mp q,h⟩⟩),X,rfl,rfl,λJ=>⟨W.mpr J,rfl,rfl,AD C.symm,λU U=>rfl,xG N.symm,λU U U=>rfl⟩⟩;by_cases e:y=x
 ·exact⟨o,by rw[e];exact gA _ _ _⟩
 ·exact⟨p,by rw[fw _ _ e];exact B⟩
theorem vd{n:Int}{w:gE}:(t.f n w).a n=w:=if_pos rfl
theorem yn{n m:Int}{w:gE}(h:m≠n):(t.f n w).a m=t.a m:=if_neg h
theorem Wd.g{n:Int}{w:gE}(d:Wd H a t)(J:5≤t.g)(b:t.j n)(X:w.a=(t.a n).a):Wd (Internal.eQ H (a.g n) (.b (i0 a n w))) a (t.f n w):=by
 have D:=d.b J;have g:=D.b n b;have k:∀{x:et} {o:AO},H x=d9 o->o≠.b (i0 a n (t.a n))->Internal.eQ H (a.g n) (.b (i0 a n w)) x=d9 o:=λZ y=>(fw _ _ (oB Z g.c y)).trans Z;refine⟨k d.c (λe=>by cases e),k d.d (λe=>by cases e),d.e,λU=>⟨k D.e (λe=>by cases e),k D.d (λe=>Ao e.symm),k D.c (λe=>by cases e),D.h,D.g,D.f,λm Y=>?_,D.j,D.i⟩⟩;have A:=D.b m Y;by_cases e:m=n
 ·clear b g Y
  clear U;subst e;rw[vd];exact⟨k A.d (λe=>by cases e),gA _ _ _,X▸k A.b (λe=>by cases e),k A.f (λe=>by cases e),k A.e (λe=>by cases e)⟩
 ·rw[yn e]
  exact⟨k A.d (λe=>by cases e),k A.c (Ke e),k A.b (λe=>by cases e),k A.f (λe=>by cases e),k A.e (λe=>by cases e)⟩
theorem Wd.h(d:Wd H a t)(J:5≤t.g)(h:5≤O.g∧O.c=t.c∧O.a=t.a∧O.b=t.b∧O.h=t.h∧O.k=t.k∧O.e=t.e):Wd (Internal.eQ H a.i (.b (jv a O))) a O:=by
 refine wL h λU R b p U c f=>?_;have D:=d.b J;have k:∀{x:et} {o:AO},H x=d9 o->o≠.b (jv a t)->Internal.eQ H a.i (.b (jv a O)) x=d9 o:=λZ y=>(fw _ _ (oB Z D.d y)).trans Z;have B:∀n,O.j n->t.j n:=λn h=>by unfold eB.j at*;rw[R] at h;exact h
 refine⟨f▸k d.c (λe=>by cases e),c▸k d.d (λe=>by cases e),d.e,λU=>⟨k D.e (λe=>by cases e),gA _ _ _,p▸k D.c (λe=>by cases e),D.h,⟨p▸D.g.1,R▸D.g.2⟩,λn W=>?_,λm Y=>?_,λn m q r=>D.j n m (B n q) (B m r),λn q=>D.i n (B n q)⟩⟩
 ·rw[p] at W;unfold eB.j;rw[R];exact D.f n W
 ·have A:=D.b m (B m Y)
  rw[b];exact⟨k A.d (λe=>by cases e),k A.c Ao,k A.b (λe=>by cases e),k A.f (λe=>by cases e),k A.e (λe=>by cases e)⟩
theorem IS{v:eD}{u:ed}{i:Int}{f:Nat}{Q:AH->Prop}(b:Bd d P D Y c B F a t V H)(N:VR H a t v u)
  (h:(v=.b .c∧t.o i f=d9 O)∨∃n,v=.b (.d n)∧((t.a n).m i f).map (t.f n)=d9 O) (G:∀M,fk a t H a O M->Q M):∃x,u=ec x∧qf c (ec x) (gf f) (vi i) V H Q:=by
 rcases h with ⟨rfl,h⟩ |⟨n,rfl,h⟩
 ·(refine fe N λR J=>?_;(clear N;obtain rfl:=R))
  have j:=b.f.b J;refine gY (Vf (a:=a) J h) λK I W=>?_;refine(ey _ rfl (pZ b.b.a j.e j.d (qg b.b.b K).2 ?_ ?_))
  ·unfold jv;rw[kZ];exact AP (AS _ _) (by decide)
  ·rw[I]
   exact G _ (.q b.f (eI ⟨J,eH rfl⟩) (b.f.h J W) W.2.1 ⟨λU=>J,λU=>W.1⟩ W.2.2.2.2.1 W.2.2.2.2.2.1)
 ·(refine gY N λk J e=>?_;(clear N;obtain rfl:=k))
  (refine ie h λC K p=>?_;(clear h;obtain rfl:=p))
  have g:=(b.f.b J).b n e;refine gY (Kf (a:=a) (n:=n) K) λL U A=>?_;refine(ey _ rfl (pZ b.b.a g.d g.c (ue b.b.b L).2 ?_ ?_))
  ·unfold i0;rw[kZ];exact AP (AS _ _) (by decide)
  ·rw[Vn K]
   exact G _ (.q b.f (eI ⟨J,eI (eI (ey n e (eH rfl)))⟩) (b.f.g J e A) rfl AC rfl rfl)
theorem FR.E{r:et}{o:AO}(f:FR c B a t F V H)(k:qW H M r)(E:H r=d9 o)(Y:o.i=eb)(d:∀j i,F j=d9 i->i.k=eb->¬iy c V H (nm j) (ec r)):FR c B a t F V M:=by
 have S:∀b,o≠.f b:=λb e=>by rw[e] at Y;exact nB Y
 have D:∀n v,H n=d9 (.g v)->M n=d9 (.g v):=λn v h=>(k n λe=>by rw[e,E] at h;(clear E S;(replace h:=eX h;subst h));exact nB Y).trans h;refine⟨λj i g=>?_,λj l i C q J g m K I W O=>f.d j l i C q J g m K I (f.k W D) (f.k O D),λx Z=>?_,f.inj,f.b.b λx p Z=>(k x λe=>by rw[e,E] at Z;(clear E S;(replace Z:=eX Z;subst Z));exact nB Y).trans Z⟩
 ·refine f.e j i g λu L T A=>?_
  exact(fQ u (L.a D) (T.n k E S λy e=>d j i g y (e▸L)) A)
 ·refine f.g x Z λn Q L T A=>?_
  exact(fS n Q L (D _ _ T) A)
structure rd(a:Ad)(t:eB)(H:AH)(r:et)(n:Int)(w:gE)(a':Ad):Prop where
 j:a'.e=a.e
 k:a'.i=a.i
 h:a'.c=a.c
 e:a'.f=a.f
 d:a'.j=a.j
 i:a'.b=a.b
 g:a'.g=a.g
 c:a'.h=a.h
 b:∀m,a'.a m=a.a m∨(m=n∧a'.a m=r)
 f:∀m,a'.d m=a.d m∨(m=n∧a'.d m=r)
 p:H (a'.a n)=d9 (.a (w.a.map vi))
 o:H (a'.d n)=d9 (.a [])
 q:∀m,t.j m->a'.a n≠a'.d m
theorem rd.u{r:et}{n:Int}{w:gE}{s:Ad}(N:rd a t H r n w s){m:Int}(h:m≠n)(q:gE):i0 s m q=Internal.i0 a m q:=by
 unfold Internal.i0 ng;rw[(N.b m).resolve_right λe=>h e.1,(N.f m).resolve_right λe=>h e.1,N.c]
theorem rd.s{r:et}{n:Int}{w:gE}{s:Ad}(N:rd a t H r n w s)(d:Wd H a t)(b:5≤t.g)(f:t.j n)(E:¬jx a t r){K:Nat}:Wd (eQ H (a.g n) (.b (Internal.i0 s n w))) s { t.f n w with h:=K }:=by
 have D:=d.b b;have i:=D.b n f;have k:∀{x:et} {o:AO},H x=d9 o->o≠.b (Internal.i0 a n (t.a n))->eQ H (a.g n) (.b (Internal.i0 s n w)) x=d9 o:=λZ y=>(fw _ _ (oB Z i.c y)).trans Z;have C:∀{x:et},jx a t x->x≠r:=λZ e=>E (e▸Z);have R:∀m,t.j m->jx a t (a.a m):=λm Y=>eH (eI ⟨b,eI (eI (ey m Y (eI rfl)))⟩);have I:∀m,t.j m->jx a t (a.d m):=λm Y=>eI (eI ⟨b,eI (ey m Y (eI (eH rfl)))⟩);have O:∀m,t.j m->jx a t (a.h m):=λm Y=>eI (eI ⟨b,eI (ey m Y (eI (eI rfl)))⟩);have j:In (eQ H (a.g n) (.b (Internal.i0 s n w))) s { t.f n w with h:=K }:=by
  refine⟨N.j▸N.k▸k D.e (λe=>by cases e),?_,?_,N.h▸D.h,D.g,D.f,λm Y=>?_,λp m J Y=>?_,λm Y=>?_⟩
  ·rw[N.k]
   have e:jv s { t.f n w with h:=K }=jv a t:=by
    show List.zip _ (List.take t.g (xj s t))=_;unfold xj;rw[N.h];rfl
   rw[e];exact k D.d λe=>Ao e.symm
  ·rw[N.h,N.i];exact k D.c λe=>by cases e
  ·have A:=D.b m Y
   by_cases e:m=n
   ·clear f i Y
    subst e;show yI _ s m ((t.f m w).a m);rw[vd];exact⟨by rw[N.i,N.g];exact k A.d (λe=>by cases e),by rw[N.g];exact gA _ _ _,k N.p (λe=>by cases e),k N.o (λe=>by cases e),by rw[N.c];exact k A.e (λe=>by cases e)⟩
   ·show yI _ s m ((t.f n w).a m)
    rw[yn e];refine⟨by rw[N.i,N.g];exact k A.d (λe=>by cases e),by rw[N.g,N.u e];exact k A.c (Ke e),?_,?_,by rw[N.c];exact k A.e (λe=>by cases e)⟩
    ·rw[(N.b m).resolve_right λq=>e q.1];exact k A.b (λe=>by cases e)
    ·rw[(N.f m).resolve_right λq=>e q.1];exact k A.f (λe=>by cases e)
  ·have J:t.j p:=J
   have Y:t.j m:=Y;have B:=D.j p m J Y;refine⟨λh=>?_,?_,?_⟩
   ·rcases N.b p with e|⟨e,G⟩ <;>rcases N.b m with g|⟨g,c⟩
    ·rw[e,g];exact B.1 h
    ·rw[e,c];exact C (R p J)
    ·rw[G,g];exact(C (R m Y)).symm
    ·exact absurd (e.trans g.symm) h
   ·by_cases q:p=n
    ·rw[q];exact N.q m Y
    ·rw[(N.b p).resolve_right λe=>q e.1]
     rcases N.f m with g|⟨g,c⟩
     ·rw[g];exact B.2.1
     ·rw[c];exact C (R p J)
   ·rw[N.c]
    rcases N.b p with e|⟨e,G⟩
    ·rw[e];exact B.2.2
    ·rw[G];exact(C (O m Y)).symm
  ·have Y:t.j m:=Y
   have B:=D.i m Y;rw[N.e,N.d,N.c];have l:r≠a.f:=(C (eH (eH rfl))).symm;have L:r≠a.j:=(C (eI (eH rfl))).symm;refine⟨?_,?_,?_,B.2.2.2⟩
   ·rcases N.b m with e|⟨_,e⟩ <;>rw[e]
    ·exact B.1
    ·exact l
   ·rcases N.b m with e|⟨_,e⟩ <;>rw[e]
    ·exact B.2.1
    ·exact L
   ·rcases N.f m with e|⟨_,e⟩ <;>rw[e]
    ·exact B.2.2.1
    ·exact l
 exact⟨N.e▸N.d▸k d.c (λe=>by cases e),N.d▸k d.d (λe=>by cases e),N.e▸N.d▸d.e,λU=>j⟩
theorem rd.l{r:et}{n:Int}{f:gE}{s:Ad}{Q:List ed}(N:rd a t H r n f s)(b:Bd d P em Y c B F a t V H)(S:fk w I B a t H)(J:5≤t.g)(j:t.j n)(D:H r=d9 (.a Q))(E:¬jx a t r)(i:B r=eh)
  (k:∀z f,F z=d9 f->f.k=eb->¬iy c V H (nm z) (ec r)) {K:Nat} (G:t.h≤K) (M:K=t.h->s.a=a.a):gK c B w I [] V H { t.f n f with h:=K } F s V (eQ H (a.g n) (.b (Internal.i0 s n f))):=by
 have L:=N.s b.f J j E (K:=K);have O:=PO H r;have y:=b.f.f O E;have q:jB a t (a.g n):=eI ⟨J,eI (eI (ey n j (eH rfl)))⟩;have A:∀x,jB s { t.f n f with h:=K } x->jB a t x∨x=r:=by
  rintro x (h|⟨_,h|h|⟨m,g,h|h⟩⟩)
  ·exact eH (eH (h.trans N.e))
  ·exact eH (eI ⟨J,eH (h.trans N.k)⟩)
  ·exact eH (eI ⟨J,eI (eH (h.trans N.h))⟩)
  ·exact eH (eI ⟨J,eI (eI (ey m g (eH (h.trans (congrFun N.g m)))))⟩)
  ·rcases N.b m with e|⟨_,e⟩
   ·exact eH (eI ⟨J,eI (eI (ey m g (eI (h.trans e))))⟩)
   ·exact eI (h.trans e)
 have p:fk a t (pg H r) s { t.f n f with h:=K } (eQ H (a.g n) (.b (Internal.i0 s n f))):=by
  have C:∀{x:et} {o:AO},pg H r x=d9 o->H x=d9 o:=λ{x o} Z=>by
   have:x≠r:=λe=>by rw[e,yV] at Z;exact nS Z
   rw[Cc _ this] at Z;exact Z
  refine⟨L,λx o Z l=>?_,λx o Z=>?_,λx Z=>(A x Z).imp id λ(e:x=r)=>by rw[e];exact yV _ _,λx Z=>?_,rfl,N.e,N.d,λU=>⟨J,N.j,N.h,ja _,λm U=>congrFun N.i m,G,λe m U=>congrFun (M e) m⟩⟩
  ·rw[fw _ _ λ(e:x=a.g n)=>l (e▸q)];exact C Z
  ·by_cases e:x=a.g n
   ·exact⟨_,by rw[e];exact gA _ _ _⟩
   ·exact⟨o,by rw[fw _ _ e];exact C Z⟩
  ·rcases Z with Z|Z|⟨_,Z|⟨m,g,Z|Z|Z⟩⟩
   ·exact(A x Z).imp eH λ(e:x=r)=>by rw[e];exact yV _ _
   ·exact eH (eI (eH (Z.trans N.d)))
   ·exact eH (eI (eI ⟨J,eH (Z.trans N.j)⟩))
   ·exact eH (eI (eI ⟨J,eI (ey m g (eH (Z.trans (congrFun N.i m))))⟩))
   ·rcases N.f m with e|⟨_,e⟩
    ·exact eH (eI (eI ⟨J,eI (ey m g (eI (eH (Z.trans e))))⟩))
    ·exact eI (by rw[Z,e];exact yV _ _)
   ·exact eH (eI (eI ⟨J,eI (ey m g (eI (eI (Z.trans (congrFun N.c m)))))⟩))
 have R:=b.g.E O D rfl k;refine⟨R.w p y,(S.z O i E).d p,λz u U h=>h.a λT v h=>?_⟩;rw[fw _ _ (oB h ((b.f.b J).b n j).c λe=>by cases e)];exact h
theorem M5{n:Int}:t.f n (t.a n)=t:=by
 have:(λm=>if m=n then t.a n else t.a m)=t.a:=by
  funext m
  by_cases h:m=n
  ·rw[if_pos h,h]
  ·rw[if_neg h]
 unfold eB.f;rw[this]
theorem IQ{n:Int}{X:List Int}{r:et}{Q:AH->Prop}(b:Bd d P em Y c B F a t V H)(S:fk w I B a t H)(J:5≤t.g)(W:t.j n)(C:H r=d9 (.a (X.map vi)))(E:¬jx a t r)(i:B r=eh)
  (k:∀j f,F j=d9 f->f.k=eb->¬iy c V H (nm j) (ec r)) (G:∀s M,gK c B w I [] V H { t.m n X with h:=t.h+1 } F s V M->Q M):qf c (ec (a.b n)) "children" (ec r) V H Q:=by
 have g:=(b.f.b J).b n W;let s:Ad:={ a with a:=λm=>if m=n then r else a.a m };have R:s.a n=r:=if_pos rfl;have N:rd a t H r n { t.a n with a:=X } s:=by
  refine⟨rfl,rfl,rfl,rfl,rfl,rfl,rfl,rfl,λm=>?_,λm=>eH rfl,by rw[R];exact C,g.f,λm l e=>E (eI (eI ⟨J,eI (ey m l (eI (eH (R.symm.trans e))))⟩))⟩;by_cases h:m=n
  ·exact eI ⟨h,if_pos h⟩
  ·exact eH (if_neg h)
 refine pZ (a:="children") b.b.a g.d g.c (ue (f:=3) b.b.b (by decide)).2 ?_ ?_
 ·unfold i0;rw[kZ];exact AP (AS _ _) (by decide)
 ·have O:kW "children" (ec r) (i0 a n (t.a n))=i0 s n { t.a n with a:=X }:=by
   unfold i0;rw[Aw (f:=3) qj.1 rfl (show 3<(ng a n (t.a n)).length from W6 (show 0<16-3 by decide))];unfold ng;rw[R];rfl
  rw[O];exact G s _ (N.l b S J W C E i k (xH _) λe=>absurd e (KP _))
theorem Uj{n:Int}{r:et}{Q:AH->Prop}(b:Bd d P em Y c B F a t V H)(S:fk w I B a t H)(J:5≤t.g)(W:t.j n)(C:H r=d9 (.a []))(E:¬jx a t r)(i:B r=eh)
  (k:∀j f,F j=d9 f->f.k=eb->¬iy c V H (nm j) (ec r)) (G:∀s M,gK c B w I [] V H t F s V M->Q M):qf c (ec (a.b n)) "earlier" (ec r) V H Q:=by
 have g:=(b.f.b J).b n W;let s:Ad:={ a with d:=λm=>if m=n then r else a.d m };have R:s.d n=r:=if_pos rfl;have N:rd a t H r n (t.a n) s:=by
  refine⟨rfl,rfl,rfl,rfl,rfl,rfl,rfl,rfl,λm=>eH rfl,λm=>?_,g.b,by rw[R];exact C,λm l e=>?_⟩
  ·by_cases h:m=n
   ·exact eI ⟨h,if_pos h⟩
   ·exact eH (if_neg h)
  ·by_cases h:m=n
   ·rw[h,R] at e
    exact E (eH (eI ⟨J,eI (eI (ey n W (eI e.symm)))⟩))
   ·rw[show s.d m=a.d m from if_neg h] at e
    exact((b.f.b J).j n m W l).2.1 e
 refine pZ (a:="earlier") b.b.a g.d g.c (ue (f:=14) b.b.b (by decide)).2 ?_ ?_
 ·unfold i0;rw[kZ];exact AP (AS _ _) (by decide)
 ·have O:kW "earlier" (ec r) (i0 a n (t.a n))=i0 s n (t.a n):=by
   unfold i0;rw[Aw (f:=14) qj.1 rfl (show 14<(ng a n (t.a n)).length from W6 (show 0<16-14 by decide))];unfold ng;rw[R];rfl
  rw[O];have q:=N.l b S J W C E i k (K:=t.h) (ig _) λU=>rfl;have p:({ t.f n (t.a n) with h:=t.h }:eB)=t:=by rw[M5]
  rw[p] at q;exact G s _ q
theorem Mk{o:eW}{f:Nat}{e:eW}(ho:SE d P o)(he:SE d P e):S1 d P (.d o f e):=km λ{Y c x t F r} X h {B w I a V H aq} b S G=>by
 refine hV h λaA t1 h1 m=>?_;refine hV m λae t2 h2 R=>?_;refine ie R λC W k3=>?_;clear h m R;subst k3;refine fq X λaj aw=>?_;refine fq aj λak y=>?_;refine fq ak λU av=>?_;refine pY (he y h1 b λvv a1 H1 Q N v=>ho aw h2 (b.e Q) λuu a2 H2 D g U=>?_) (n6 (by simpa using av) _ _ _ _);have u:=(b.e Q).e D;have s2:=(S.d Q).d D;have aa:=N.a D Q.b;have ac:∀{i:Int},aA=.a i->((ae=.b .c∧t2.o i f=d9 C)∨∃n,ae=.b (.d n)∧((t2.a n).m i f).map (t2.f n)=d9 C)->∃x,uu=ec x∧qf c (ec x) (gf f) vv V H2 λH3=>aq fY V H3:=λ{i} e h=>by
  clear h1 W N v;subst e;rw[show vv=vi i from aa];exact IS u g h λM az=>G fY a2 V M (.b b S ((Q.d D).d az)) rfl
 unfold wY at W;by_cases z:ae.q=eb
 ·rw[if_pos z] at W
  refine fy W λi L T=>?_;exact ac (jT L) (eH ⟨Al z,T⟩)
 ·rw[if_neg z] at W
  refine fy W λn L T=>?_;rcases ux T with T|T
  ·refine fy T λi A g4=>?_
   exact ac (jT A) (eI (ey n (xq L) g4))
  ·refine fy T λxs A g4=>?_
   rw[xq L] at g
   (refine gY g λe1 J hn=>?_;(clear ac g;(clear U;obtain rfl:=e1)))
   rw[CZ A] at aa v
   (refine oE aa λr us e2 Z r2 U l=>?_;obtain rfl:=e2)
   refine eR (v rfl) λr' e r5=>?_
   (replace e:=lq e;subst e)
   have hB:=S.h r5;have k:∀j af,F j=d9 af->af.k=eb->¬iy c V H2 (nm j) (ec r):=λj af hw hj=>vb b (Q.d D) r5 hw hj;have ag:∀{t4 s M},gK c B w I [] V H2 t4 F s V M->gK c B w I [] V H t4 F s V M:=λq=>(gK.b b S (Q.d D)).e q;by_cases p:f=3
   ·rw[if_pos p] at g4
    refine ie g4 λns K g6=>?_;clear X aj ak;rw[wk K] at r2;rw[p];exact(ey _ rfl (IQ u s2 J hn (by rw[Z,r2.g]) (l rfl) hB k λs M q=>G fY s V M (ag (g6▸q)) rfl))
   ·rw[if_neg p] at g4
    (refine gm g4 λA K=>?_;refine fe A λau O=>?_)
    have K:=eX K;rw[au];have:xs=[]:=List.isEmpty_iff.mp O;clear A v O aa g4;clear A;subst this;exact(ey _ rfl (Uj u s2 J hn (by rw[Z,show us=[] from r2]) (l rfl) hB k λs M q=>G fY s V M (ag (K▸q)) rfl))
theorem FR.G{A:Fr}(f:FR c B a t F V H)(h:∀j v,A j=d9 v->F j=d9 v):FR c B a t A V H:=
 ⟨λi v N=>f.h i v (h _ _ N),λi j v b r J N C=>f.d i j v b r J (h _ _ N) (h _ _ C),f.f,f.inj,f.b⟩
theorem Mn{o:eW}{i:Nat}(ho:SE d P o):S1 d P (.D o i):=km λ{Y c x t F r} X h {B w I a V H Q} b S G=>by
 refine fy h λz K m=>?_;refine hV m λu t1 C R=>?_;refine fy R λae W s=>?_;refine ie s λns O k4=>?_;clear h m R s;subst k4;refine b.i K λr A ac aa=>?_;refine pY (aa _ _ (ho X C b λT f Z p g U=>?_)) rfl;rw[xq W] at g
 (refine gY g λl J hn=>?_;(clear g;(clear U;obtain rfl:=l)))
 have L:=ac.h b.f p;have D:=L.d;rw[wk O] at D;have y:Bd d P em Y c B (λj=>if j=i then eh else F j) f t1 V Z:=⟨b.b,(b.e p).g.G λj v N=>by
  by_cases e:j=i
  ·rw[if_pos e] at N;exact nS N
  ·rwa [if_neg e] at N,p.b⟩
 refine(ey _ rfl (IQ y (S.d p) J hn (by rw[L.b,D.g]) L.f L.e (λj v N hj hh=>?_) λk M q=>G fY k V M ⟨q.d,q.a,λj u U h=>q.f j u (nomatch ·) (h.a λn v h=>p.f _ _ h (nG b.f h rfl))⟩ rfl));by_cases e:j=i
 ·rw[if_pos e] at N;exact nS N
 ·rw[if_neg e] at N
  exact(b.e p).g.d i j _ v r (gM e) L.g N rfl hj L.l hh
theorem Uq{n:Int}{i:Nat}:∀{y:List Nat} {as:List eT} {l:List ed} {z:List eP} {t O:eB} {H:AH} {Q:eJ->AH->Prop},rD t n y as=d9 O->F i=d9 (.b (.d n))->Bd d P em Y c B F a t V H->gN H a t as l->
  (∀M,fk a t H a O M->Q V M)->oZ c (rg i y z) l V H Q:=by
 intro y
 induction y with
 |nil=>
  intro as l z t O H Q h k b S G;cases as with
  |nil=>
   (replace h:=eX h;subst h)
   rw[show l=[] from S];exact G H (.e b.f)
  |cons=>have h:eh=d9 _:=h;exact nS h
 |cons f y D=>
  intro as l z t O H Q h k b L G;cases as with
  |nil=>have h:eh=d9 _:=h;exact nS h
  |cons x as=>
   refine fT L λu r e g X=>?_;refine fy h λj K m=>?_;refine fy m λC I R=>?_;rw[e];refine b.h k λs N U U E=>?_;have:eD.b x=.a j:=jT K;clear h K;clear L;cases this;rw[show u=vi j from g];refine Np (E _ _ ?_);refine IS b N (eI (ey n rfl (by rw[I];rfl))) λZ p=>?_;exact D R k (b.e p) (X.d p b.f) λo q=>G o (p.d q)
theorem O7{i:Nat}{B:iN}(l:Nat):∀(y:List Nat) (z:List eP),(rg i y z).filterMap (oK B l)=[]:=by
 intro N
 induction N with
 |nil=>
  intro U;exact rfl
 |cons f y D=>
  intro z;exact D z.tail
theorem RH{i:Nat}:∀(y:List Nat) (z:List eP),iQ (rg i y z)=true:=by
 intro N
 induction N with
 |nil=>
  intro U;exact rfl
 |cons f y D=>
  intro z;exact D z.tail
theorem FV{i:Nat}:∀(y:List Nat) (z:List eP),(rg i y z).length=y.length:=by
 intro N
 induction N with
 |nil=>
  intro U;exact rfl
 |cons f y D=>
  intro z;exact congrArg (·+1) (D z.tail)
theorem Up{n:Int}:∀{y:List Nat} {as:List eT} {t O:eB},rD t n y as=d9 O->as.length=y.length:=by
 intro y
 induction y with
 |nil=>
  intro as t O h;cases as with
  |nil=>rfl
  |cons=>have h:eh=d9 _:=h;exact nS h
 |cons f y D=>
  intro as t O h;cases as with
  |nil=>have h:eh=d9 _:=h;exact nS h
  |cons x as=>
   refine fy h λj K m=>?_;refine fy m λC I R=>?_;exact congrArg (·+1) (D R)
theorem Kc{i:Nat}{n:Int}(h:qz F i=d9 n):F i=d9 (.b (.d n)):=by
 refine fy h λv K I=>?_;rw[K,xq I]
theorem Ml{i:Nat}{y:List Nat}{e:eW}(n:SE d P e):S1 d P (.s i y e):=km λ{Y c x t F r} X h {B w I a V H Q} b S G=>by
 refine hV h λae t1 K m=>?_;refine fy m λas J R=>?_;refine fy R λac W s=>?_;refine gm s λl C=>?_;refine ie C λt2 O k5=>?_;clear h m R s C;subst k5;refine fq X λo k=>?_;refine fq o λz U=>?_;refine fq z λv j=>?_;have g:qM [iD (rg i y (xl (sT x))) (xk (sT x)) (sT x).pos] (e.u (sE x)) c.a=f9 none:=by
  cases Z:e.R with
  |none=>exact z6 Z _ _ _ _ _
  |some es=>
   have:=J8 Z;clear n X K G o z v j Z;subst this;exact Ji (λaa=>O7 aa _ _) λe=>of_decide_eq_true k (oN.mp (by rw[←FV (i:=i) y (xl (sT x)),e];rfl))
 refine yo (n j K b λu f H1 p N U=>?_) (n6 (by simpa using v) (sE x) (d9 (iD (rg i y (xl (sT x))) (xk (sT x)) (sT x).pos)) x.pos.line c.a) g;rw[xi J] at N
 (refine fT N λr A D L T=>?_;(clear N;(clear U;obtain rfl:=D)))
 exact Bn (b.b.f l) L (by rw[T.b,FV,Up O]) (RH _ _) (Uq O (Kc W) (b.e p) T λM q=>G fY f V M (.b b S (p.d q)) rfl)
theorem Wd.i(d:Wd H a t)(J:5≤t.g){n:Int}(W:t.j n){X:List Int}:Wd (Internal.eQ H (a.a n) (.a (X.map vi))) a (t.m n X):=by
 have D:=d.b J;have g:=D.b n W;have k:∀{x:et} {o:AO},H x=d9 o->x≠a.a n->Internal.eQ H (a.a n) (.a (X.map vi)) x=d9 o:=λZ y=>(fw _ _ y).trans Z;have I:∀{x:et} {o:AO},H x=d9 o->o≠.a ((t.a n).a.map vi)->Internal.eQ H (a.a n) (.a (X.map vi)) x=d9 o:=λZ y=>k Z (oB Z g.b y);have L:=D.i n W;refine⟨k d.c L.1.symm,k d.d L.2.1.symm,d.e,λU=>⟨I D.e (λe=>by cases e),I D.d (λe=>by cases e),I D.c (λe=>by cases e),D.h,D.g,D.f,λm Y=>?_,D.j,D.i⟩⟩;have A:=D.b m Y;have O:=D.j n m W Y;by_cases e:m=n
 ·clear W g L Y
  clear U;subst e;unfold eB.m;rw[vd];exact⟨I A.d (λe=>by cases e),I A.c (λe=>by cases e),gA _ _ _,k A.f O.2.1.symm,k A.e O.2.2.symm⟩
 ·unfold eB.m
  rw[yn e];exact⟨I A.d (λe=>by cases e),I A.c (λe=>by cases e),k A.b (O.1 (gM e)).symm,k A.f O.2.1.symm,k A.e O.2.2.symm⟩
theorem fk.k(d:Wd H a t)(J:5≤t.g){n:Int}(W:t.j n){X:List Int}:fk a t H a (t.m n X) (Internal.eQ H (a.a n) (.a (X.map vi))):=
 .q d (eI ⟨J,eI (eI (ey n W (eI rfl)))⟩) (d.i J W) rfl AC rfl rfl
theorem fk.y(d:Wd H a t){j:Int}:fk a t H a { t with e:=j } (Internal.eQ H a.f (.a [ec a.j,vi j])):=by
 have k:∀{x:et} {o:AO},H x=d9 o->x≠a.f->Internal.eQ H a.f (.a [ec a.j,vi j]) x=d9 o:=λZ y=>(fw _ _ y).trans Z;have I:∀{x:et} {o:AO},H x=d9 o->o≠.a [ec a.j,vi t.e]->Internal.eQ H a.f (.a [ec a.j,vi j]) x=d9 o:=λZ y=>k Z (oB Z d.c y);refine .q d (eH rfl) ⟨gA _ _ _,k d.d d.e.symm,d.e,λJ=>?_⟩ rfl AC rfl rfl;have D:=d.b J;refine⟨I D.e (λe=>by cases e),I D.d (λe=>by cases e),I D.c (λe=>by cases e),D.h,D.g,D.f,λm Y=>?_,D.j,D.i⟩;have A:=D.b m Y;have y:=D.i m Y;exact⟨I A.d (λe=>by cases e),I A.c (λe=>by cases e),k A.b y.1,k A.f y.2.2.1,k A.e y.2.2.2⟩
theorem M4(d:Wd H a t)(J:5≤t.g){i:List Int}(G:i.Nodup)(M:∀n∈i,t.j n):fk a t H a { t with b:=i } (Internal.eQ H a.c (.e (i.map λn=>(n,ec (a.b n))))):=by
 have D:=d.b J;have k:∀{x:et} {o:AO},H x=d9 o->(∀q,o≠.e q)->Internal.eQ H a.c (.e (i.map λn=>(n,ec (a.b n)))) x=d9 o:=λZ y=>(fw _ _ (oB Z D.c (y _))).trans Z;refine .q d (eI ⟨J,eI (eH rfl)⟩) ⟨k d.c (λU e=>by cases e),k d.d (λU e=>by cases e),d.e,λU=>⟨k D.e (λU e=>by cases e),k D.d (λU e=>by cases e),gA _ _ _,D.h,⟨G,D.g.2⟩,M,λm Y=>?_,D.j,D.i⟩⟩ rfl AC rfl rfl;have A:=D.b m Y;exact⟨k A.d (λU e=>by cases e),k A.c (λU e=>by cases e),k A.b (λU e=>by cases e),k A.f (λU e=>by cases e),k A.e (λU e=>by cases e)⟩
theorem jK.r{k:Int}:∀{G:List (Int×eT)} {b:List (Int×ed)},jK H a t G b->b.any (λp=>eU (p.1=k))=G.any (λp=>eU (p.1=k)):=by
 intro N
 induction N with
 |nil=>
  intro U h;rw[show _=[] from h];rfl
 |cons U _ D=>
  intro U L;exact fT L λc f e h S=>by rw[e,AE,AE,D S]
theorem jK.v:∀{G:List (Int×eT)} {b:List (Int×ed)},jK H a t G b->b.length=G.length:=by
 intro N
 induction N with
 |nil=>
  intro U h;rw[show _=[] from h];rfl
 |cons U _ D=>
  intro U Z;exact fT Z λc f e h S=>by rw[e,lG,lG,D S]
theorem LS{k:Int}{y:eT}{w:ed}(B:AR H a t y w):∀{G:List (Int×eT)} {b:List (Int×ed)},jK H a t G b->jK H a t (G.map λp=>if p.1=k then(p.1,y) else p) (b.map λp=>if p.1=k then(p.1,w) else p):=by
 intro N
 induction N with
 |nil=>
  intro U h;rw[show _=[] from h];rfl
 |cons p _ D=>
  intro U j;refine fT j λu f e h S=>?_;rw[e,gj,gj];by_cases J:p.1=k
  ·rw[if_pos J,if_pos J];exact(fS w _ rfl B (D S))
  ·rw[if_neg J,if_neg J];exact(fS u _ rfl h (D S))
theorem LU{k:Int}{y:eT}{w:ed}(B:AR H a t y w):∀{G:List (Int×eT)} {b:List (Int×ed)},jK H a t G b->jK H a t (G++[(k,y)]) (b++[(k,w)]):=by
 intro N
 induction N with
 |nil=>
  intro U h;rw[show _=[] from h];exact(fS w ([]) rfl B rfl)
 |cons p _ D=>
  intro U L;exact fT L λu f e h S=>by rw[e];exact⟨u,_,rfl,h,D S⟩
theorem jK.s{k:Int}{y:eT}{w:ed}{G:List (Int×eT)}{b:List (Int×ed)}(h:jK H a t G b)(B:AR H a t y w):jK H a t (qw G k y) (qx b k w):=by
 unfold qw qx x9;rw[h.r]
 split
 ·exact LS B h
 ·exact LU B h
theorem RT{v:eD}{i:List (Int×eT)}(h:v.B=d9 i):v=.g eb i:=by
 cases v with
 |g o x=>refine gm h λK I=>?_;(clear h;obtain rfl:=eX I);rw[K]
 |_=>exact nS h
theorem Cz{v:eD}{n:Int}{u:ed}(h:Cw t v=d9 n)(w:Wd H a t)(N:VR H a t v u):5≤t.g∧t.j n∧u=ec (a.a n)∧H (a.a n)=d9 (.a ((t.a n).a.map vi)):=by
 cases v with
 |f m k=>
  refine gm h λe o=>?_;clear h
  (replace o:=eX o;subst o)
  refine oC N λr R J W U z=>?_;exact⟨J,W,by rw[R,z e],((w.b J).b _ W).b⟩
 |_=>exact nS h
theorem Mm{i:Nat}{af e:eW}(hk:SE d P af)(he:SE d P e):S1 d P (.n i af e):=km λ{Y c aA t F r} X h {B w I a V H aq} b S hq=>by
 refine hV h λv t1 h1 m=>?_;refine hV m λaw t2 h2 R=>?_;refine fy R λz k s=>?_;refine fy s λq O M=>?_;refine fq X λak y=>?_;refine fq ak λag aj=>?_;refine E1 (he aj h1 b λf a1 H1 Q hv U=>?_) (n6 (by simpa using ag) _ _ _ _);refine nU ((b.e Q).j k) λo hz hh K ae=>?_;refine ae _ _ (hk y h2 (b.e Q) λuu l H2 D g U=>?_);have u:=(b.e Q).e D;have s2:=(S.d Q).d D;have ac:=hv.a D Q.b;have aa:=hz.a D Q.b;have p:iy c V H2 (nm i) o:=hh.a λn v h=>D.f _ _ h (nG Q.b h rfl);rw[jT O] at g;have g:uu=vi q:=g;clear U;subst g;rcases ux M with M|M
 ·refine fy M λau L k5=>?_
  refine fy k5 λaB T x=>?_;refine gm x λC N=>?_;clear h m h2 R s M g k5 x;clear M
  (replace N:=eX N;subst N)
  rw[RT L] at aa k K;rw[yL T] at ac
  (refine oE aa λr A e1 Z r2 r3 T=>?_;refine fe T λr4 r5=>?_;(clear hz hh ae aa;obtain rfl:=e1))
  refine eR (K rfl) λr' G r6=>?_
  (replace G:=lq G;subst G)
  refine IR Z (by rw[r2.v];exact C) (hq fY l V _ ((gK.b b S (Q.d D)).e (a:=[i]) ⟨u.g.s k rfl rfl p Z rfl ?_ r6,s2.u r6 (r5 rfl),λj az U h=>h.a λn v h=>?_⟩) rfl)
  ·have tk:=Am (X:=.e (qx A q f)) Z λA e=>by cases e
   exact(Cp r _ rfl (gA _ _ _) ((r2.m tk).s (ac.i tk)) r3 r4 r5)
  ·rw[fw _ _ (oB h Z λe=>by cases e)];exact h
 ·rcases ux M with M|M
  ·refine fy M λav L k5=>?_
   refine fy k5 λj T x=>?_;refine gm x λC N=>?_;clear h m R s M k5 x;clear M;clear M
   (replace N:=eX N;subst N)
   rw[jT T] at ac
   (refine i8 (Cz L D.b aa) λJ W e3 Z=>?_;(clear hz hh K ae aa p;obtain rfl:=e3))
   refine IT Z C.1 (by rw[fC];exact C.2.1) (by omega) ?_;rw[show f=vi j from ac,←WO];exact hq fY l V _ ((gK.b b S ((Q.d D).d (.k D.b J W))).e (a:=[i]) ⟨(u.e (.k D.b J W)).g,s2.d (.k D.b J W),λU U U h=>h⟩) rfl
  ·refine gm M λC k5=>?_
   refine ie k5 λj T x=>?_;clear h m R s M k5;clear M;clear M;subst x;rw[jT T] at ac;have:z=.h:=by
    have:=(nj.mp (show(z.C&&eb)=eb by rw[C.1];rfl)).1;clear k hz K aa C;cases z<;>first|rfl|exact nB this
   clear k hz K;subst this;clear O g;clear U;obtain rfl:=C.2;rw[show o=_ from aa];refine IT D.b.c (by decide) (show(1:Int)<((2:Nat):Int) by decide) (by decide) ?_;rw[show f=vi j from ac];exact hq fY l V _ ((gK.b b S ((Q.d D).d (.y D.b))).e (a:=[i]) ⟨(u.e (.y D.b)).g,s2.d (.y D.b),λU U U h=>h⟩) rfl
theorem Me{i:Nat}{k e:eW}(z:SE d P k)(n:SE d P e):S1 d P (.A i k e):=km λ{Y c az t F au} X h {B w I a V H ak} b S G=>by
 refine fy h λn0 h0 k0=>?_;refine hV k0 λav t1 h1 m=>?_;refine hV m λaw t2 h2 R=>?_;refine fy R λaq W s=>?_;refine fy s λq O M=>?_;refine fy M λj J k5=>?_;refine gm k5 λC x=>?_;clear h k0 m R s M k5
 (replace x:=eX x;subst x)
 refine fq X λag y=>?_;refine fq ag λv af=>?_;refine fy h0 λaA hF r=>?_;refine fy W λz' o ae=>?_;rw[hF] at o
 (replace o:=eX o;subst o)
 refine b.h hF λzz hz U U aj=>?_;refine i8 (Cz r b.f hz) λU U Z L=>?_;refine tQ (qS b.b.a (λU U U=>rfl) (mH (.a k (.a e .b)) _) (by simp) v xP Xs PySem.F.type_list_insert (aj _ _ (kM _ _ Z L uw (jk (z af h1 b λT a1 H1 Q g U=>jk (n y h2 (b.e Q) λf l H2 D N U=>kC ?_) λaa=>(jp e _).2.2.2.1 aa []) λaa=>(jp k _).2.2.2.1 aa _)))) b.b.g rfl;have p:=Q.d D;have ac:=g.a D Q.b;rw[jT O] at ac;rw[jT J] at N;refine i8 (Cz ae D.b (hz.a p b.f)) λK u A gl=>?_;rw[Z] at A;injection A with A
 rw[show T=vi q from ac,show f=vi j from N,A];refine NA gl C.1 (by rw[fC];exact C.2.1) (by rw[fC];exact C.2.2) ?_;rw[←KE,←WM,show vi j::pJ vi _=pJ vi (j::_) from rfl,←lb];exact G fY l V _ ((gK.b b S (p.d (.k D.b K u))).e (a:=[i]) ⟨((b.e p).e (.k D.b K u)).g,(S.d p).d (.k D.b K u),λU U U h=>h⟩) rfl
theorem Mg{i:Nat}{e:eW}(he:SE d P e):S1 d P (.B i e):=km λ{Y c x t F r} X h {B w I a V H Q} b S G=>by
 refine hV h λaj t1 K m=>?_;refine fy m λn h2 R=>?_;refine fy R λq h3 s=>?_
 (refine gm s λg4 M=>?_;refine fe g4 λaa C=>?_)
 clear h m R s
 (replace M:=eX M;subst M)
 refine fq X λv af=>?_;refine b.h (Kc h2) λzz hz U U ag=>?_;refine gY hz λZ J W=>?_;have g:=(b.f.b J).b n W;refine wc (f:=3) b.b.b b.f (v:=.b (.d n)) ⟨Z,J,W⟩ (show qm t 3 (.b (.d n))=d9 (.f n t.h) from rfl) λD ac z y u' L T A U=>?_;refine oC A λr e1 U U U O=>?_;have O:=O rfl;clear A;subst e1 O;refine tQ (qS b.b.a (λU U U=>rfl) (jp e _).2.1 (by simp) v xP Xv PySem.F.type_list_remove (qR (a:="children") b.b.a (λU U U=>rfl) (ag _ _ ⟨D,ac,z,y,_,L,T.e,T.b,T.d,T.g,T.a,(kM _ _ rfl g.b uw (jk (he af K b λf l H2 p N U=>kC ?_) λae=>(jp e _).2.2.2.1 ae []))⟩))) b.b.g rfl;rw[jT h3] at N;refine wL (p.c J) λq1 U U q4 U U j=>?_;have k:=W.a q4;have o:=((p.b.b q1).b n k).b;rw[j aa n W] at o;rw[show f=vi q from N];have u:=fk.k (X:=(t1.a n).a.eraseIdx ((t1.a n).a.idxOf q)) p.b q1 k;rw[j aa n W] at u;exact NG o C.1 C.2 (G fY l V _ ((gK.b b S (p.d u)).e (a:=[]) ⟨((b.e p).e u).g,(S.d p).d u,λU U U h=>h⟩) rfl)
theorem SQ{i:List Int}{k:Int}:wT (i.map λn=>(n,ec (a.b n))) k=(i.filter λn=>eU (n≠k)).map λn=>(n,ec (a.b n)):=by
 unfold wT;rw[Kx];rfl
theorem Mp{i:Nat}{e:eW}(L:SE d P e):S1 d P (.q i e):=km λ{Y c x t F r} X h {B w I a V H Q} b S G=>by
 refine hV h λaa Z A m=>?_;refine fy m λq W s=>?_
 (refine gm s λK M=>?_;refine gY K λz O C=>?_)
 clear h m s
 (replace M:=eX M;subst M)
 refine fq X λv j=>?_;refine tQ (qS b.b.a (λU U U=>rfl) (jp e _).2.1 (by simp) v Xm Xo PySem.F.type_dict_pop (Kd b z λJ=>(kM _ _ rfl ((b.f.b J).c) Iw (jk (L j A b λf l T p N U=>kC ?_) λy=>(jp e _).2.2.2.1 y [])))) b.b.g rfl;rw[jT W] at N;refine i8 (p.c J) λo U k U=>?_;have D:=p.b.b o;have g:=D.c;have u:=M4 p.b o (D.g.1.filter λn=>eU (n≠q)) λn R=>D.f n (lH.mp R).1;rw[k] at g u;rw[show f=vi q from N];refine Nx g (wz O) (by rw[fC];exact C) ?_;rw[SQ];exact G fY l V _ ((gK.b b S (p.d u)).e (a:=[]) ⟨((b.e p).e u).g,(S.d p).d u,λU U U h=>h⟩) rfl
theorem Ma{e:eW}(n:SE d P e):S1 d P (.h e):=km λ{Y c x t F r} X h {B w I a V H Q} b S G=>by
 refine oz h λi g K m=>?_;clear h;subst m;refine fq X λv j=>?_;exact tQ (n j K b λu f Z p U U=>G fY f V Z (.b b S p) rfl) b.b.g (n6 (by simpa using v) _ _ _ _)
theorem Mh{e:eW}(n:SE d P e):S1 d P (.g e):=km λ{Y c x t F r} X h {B w I a V H Q} b S G=>by
 refine hV h λv g K m=>?_;refine gm m λU R=>?_;clear h m
 (replace R:=eX R;subst R)
 exact yp (n X K b λu f Z p N y=>G (iV u) f V Z (.b b S p) (fQ u rfl N (λo=>(y o).imp λr e=>⟨e.1,S.h e.2⟩)))
theorem Mj{i:Nat}:S1 d P (.r i):=km λ{Y c x t F r} X h {B w I a V H Q} b S G=>by
 refine fy h λv K m=>?_;refine gm m λU R=>?_;clear h m
 (replace R:=eX R;subst R)
 refine b.h K λu N U y E=>?_;exact yp (E _ _ (G (iV u) a V H (.b b S (.e b.f)) (fQ u rfl N y)))
theorem Mi:S1 d P .F:=km λ{Y c x t F r} X h {B w I a V H Q} b S G=>by
 (replace h:=eX h;subst h)
 exact M' (G (iV ez) a V H (.b b S (.e b.f)) (fQ (ez) rfl rfl nofun))
theorem Mf:S1 d P .p:=λ{Y c x t F j O A} X h {B w I a V H Q} b S G=>nomatch h
def SS(d:ir)(P:iE)(s:Ss):Prop:=∀{Y c z t F j O A},s.e Y z=eb->s.c d t F=d9 (j,O,A)->∀{B w I a V H Q},Bd d P em Y c B F a t V H->fk w I B a t H->
 (∀f b l M,gK c B w I s.f V H O A b l M->BE M b O B j f->Q f l M)->TS c (s.d z) V H Q
theorem gK.h{a C:List Nat}{A:Fr}{s:Ad}{l:eJ}(p:gK c B w I a V H O A s l M)(h:∀i,i∈a->i∈C):gK c B w I C V H O A s l M:=⟨p.d,p.a,λi u D=>p.f i u λq=>D (h i q)⟩
theorem MW:SS d P .b:=λ{Y c x t F j O A} X h {B w I a V H Q} b S G=>by
 cases h;exact qV (G fY a V H (.b b S (.e b.f)) rfl)
theorem MV{s:js}{r:Ss}(M:S1 d P s)(E:SS d P r):SS d P (.a s r):=λ{Y c x t F W O A} X h {B w I a V H Q} b R G=>by
 (refine fy h λL K m=>?_;obtain⟨z,t1,U⟩ :=L)
 refine fq X λv j=>?_;refine kJ (M v K b R λg f o Z p l=>?_);cases z with
 |a=>
  rw[show g=fY from l];exact E j m (p.g b) p.a λJ e n T q C=>G J e n T (p.e q) C
 |b aa=>
  clear h K;cases m
  (refine f5 l λu k N y=>?_;(clear l;obtain rfl:=k))
  exact G (iV u) f o Z (p.h λi D=>lc.mpr (eH D)) (fQ u rfl N y)
theorem Md{q:eW}{x y:Ss}(j:SB d P q)(Z:SS d P x)(u:SS d P y):S1 d P (.c q x y):=km λ{Y c C t F r} X h {B w I a V H Q} b S G=>by
 refine hV h λL J K m=>?_;refine fy m λi g R=>?_;refine fq X λo n=>?_;refine fq o λv k=>?_;rw[sI g] at K;refine M9 (j v K b λA z p=>?_);cases i with
 |true=>exact Z k R (b.e p) (S.d p) λf s e M r l=>G f s e M (((gK.b b S p).e r).h λi D=>lc.mpr (eH D)) l
 |false=>exact u n R (b.e p) (S.d p) λf s e M r l=>G f s e M (((gK.b b S p).e r).h λi D=>lc.mpr (eI D)) l
theorem Mo{q:eW}{x:Ss}(j:SB d P q)(hx:SS d P x):S1 d P (.w q x):=km λ{Y c ak t F r} X h {B w I a V H Q} b S G=>by
 refine fq X λv ae=>?_;refine Nb (λn o Z=>∃K f M,gK c B w I x.f V H M K f o Z∧mj (λt F=>q.q d t F) (λt F=>x.c d t F) n M K=d9 r) (n:=10000) (pi F a t ((gK.b b S (.e b.f)).h (λU h=>absurd h iI)) h) ?_;rintro n o Z ⟨K,f,M,p,g⟩;cases n with
 |zero=>cases g
 |succ n=>
  refine hV g λag t2 e m=>?_;refine fy m λi h2 R=>?_;rw[sI h2] at e;have y:=p.g b;refine j v e y λO T D=>?_;have z:gK c B w I x.f V H t2 K O o T:=(p.e (gK.b y p.a D)).h λaf J=>(lc.mp J).resolve_right nofun;cases i with
  |false=>
   clear h p g m y D e
   (replace R:=eX R;subst R)
   exact G fY O o T z rfl
  |true=>
   (refine fy R λA W s=>?_;obtain⟨aa,C,F3⟩ :=A)
   rw[if_pos rfl];refine hx ae W (y.e D) z.a λac N aj L r l=>?_;have k:=(z.e r).h (C:=x.f) λaf J=>(lc.mp J).elim id id;cases aa with
   |a=>
    rw[show ac=fY from l];exact(ey n (uK n) (pi F3 N C k s))
   |b ag=>
    clear h g m R r W
    (replace s:=eX s;subst s)
    (refine f5 l λu e4 hv ho=>?_;(clear l;obtain rfl:=e4))
    exact G (iV u) N aj L k (fQ u rfl hv ho)
def yB(c:Cx)(B:AH)(F:Fr)(V:eJ)(H:AH)(x:et):Prop:=(∃j v,F j=d9 v∧v.i=eb∧iy c V H (nm j) (ec x))∨(B x=eh∧∃Q,H x=d9 (.g Q))
open Classical in
def jW(c:Cx)(B:AH)(F:Fr)(V:eJ)(H:AH):AH:=λx=>if yB c B F V H x then eh else H x
theorem IF{x:et}{o:AO}(h:jW c B F V H x=d9 o):H x=d9 o:=by
 unfold jW at h
 split at h
 ·exact nS h
 ·exact h
theorem wV{x:et}(h:¬yB c B F V H x):jW c B F V H x=H x:=by
 unfold jW;rw[if_neg h]
theorem zF(f:FR c B a t F V H){x:et}(h:yB c B F V H x):B x=eh∧(¬jx a t x∨∃Q,H x=d9 (.g Q))∧∃o,H x=d9 o∧∀A,o≠.f A:=by
 rcases h with ⟨j,v,K,I,W⟩ |⟨K,Q,I⟩
 ·refine f.e j v K λu L T b=>?_
  refine eR (b I) λr e i=>?_;clear b;subst e;have:=W.b L;clear L
  (replace this:=lq this;subst this)
  refine⟨i,eH ?_,?_⟩
  ·cases v with
   |c o z=>refine oE T λl A e U U U g=>?_;(clear U;(replace e:=lq e;rw[e]));exact g I
   |g o z=>(refine oE T λl A e U U U L=>?_;refine fe L λU g=>?_);(clear L;(clear U;clear U;(replace e:=lq e;rw[e])));exact g I
   |_=>exact nB I
  ·refine fT (T.k (uy I)) λl o e Y d=>?_
   (replace e:=lq e;rw[e])
   exact(ey o Y (λA e=>by rw[e] at d;cases d))
 ·exact⟨K,eI ⟨Q,I⟩,_,I,λA e=>by cases e⟩
theorem wW(f:FR c B a t F V H)(w:Wd H a t):Wd (jW c B F V H) a t:=by
 have k:∀{x:et} {X:AO},jx a t x->H x=d9 X->jW c B F V H x=d9 X:=λ{x X} Z h=>by
  rw(occs:=eO) [wV λm=>?_];exact h;refine gY (zF f m) λU q U=>?_;rcases q with q|⟨Q,q⟩
  ·exact q Z
  ·exact Bi w q rfl Z
 refine⟨k (eH (eH rfl)) w.c,k (eI (eH rfl)) w.d,w.e,λJ=>?_⟩;have i:=w.b J;refine⟨k (eI (eI ⟨J,eH rfl⟩)) i.e,k (eH (eI ⟨J,eH rfl⟩)) i.d,k (eH (eI ⟨J,eI (eH rfl)⟩)) i.c,i.h,i.g,i.f,λn W=>?_,i.j,i.i⟩;have q:=i.b n W;exact⟨k (eI (eI ⟨J,eI (ey n W (eH rfl))⟩)) q.d,k (eH (eI ⟨J,eI (eI (ey n W (eH rfl)))⟩)) q.c,k (eH (eI ⟨J,eI (eI (ey n W (eI rfl)))⟩)) q.b,
  k (eI (eI ⟨J,eI (ey n W (eI (eH rfl)))⟩)) q.f,k (eI (eI ⟨J,eI (ey n W (eI (eI rfl)))⟩)) q.e⟩
theorem IG(f:FR c B a t F V H)(S:fk w I B a t H):fk w I B a t (jW c B F V H):=by
 have k:∀{x:et} {p:AO},B x=d9 p->jW c B F V H x=H x:=λ{x p} h=>wV λm=>by rw[(zF f m).1] at h;exact nS h
 exact⟨wW f S.b,λx p Z l=>(k Z).trans (S.f x p Z l),λx p Z=>(S.j x p Z).imp λX h=>(k Z).trans h,S.l,S.r,S.s,S.m,S.p,S.c⟩
theorem IE(f:FR c B a t F V H)(b:c.i=eh):FR c (jW c B F V H) a t F V H:=by
 refine⟨λi v N=>?_,f.d,λx Z=>?_,f.inj,f.b⟩
 ·refine f.e i v N λu L T A=>?_
  refine(fQ u L T (λy=>(A y).imp λr e=>⟨e.1,?_⟩));unfold jW;rw[if_pos (eH (fS i v N y (e.1▸L)))]
 ·refine f.g x Z λn Q L T A=>?_
  refine(fS n Q L T (λq=>?_));unfold jW;rw[if_pos (eI ⟨A q,Q,T⟩)]
theorem FR.C{Y:AH}(f:FR c Y a t F V H)(h:∀x,Y x=eh->B x=eh):FR c B a t F V H:=
 ⟨λi v N=>by refine f.e i v N λu L T A=>?_;exact(fQ u L T (λo=>(A o).imp λr e=>⟨e.1,h _ e.2⟩)),f.d,λx Z=>by refine f.g x Z λn Q L T A=>?_;exact(fS n Q L T (λq=>h _ (A q))),f.inj,f.b⟩
theorem FR.m{p:List (et×fM)}(f:FR c B a t F V H):FR (gO c p) B a t F V H:=⟨f.h,f.d,f.f,f.inj,f.b⟩
theorem FR.n{p:List (et×fM)}(f:FR (Internal.gO c p) B a t F V H):FR c B a t F V H:=⟨f.h,f.d,f.f,f.inj,f.b⟩
theorem jA.m{p:List (et×fM)}(b:jA d P D Y c):jA d P D Y (gO c p):=⟨b.b,b.a.k,b.g,b.l,b.e,b.f,b.h,b.j.imp λn h=>⟨⟨h.1.b,h.1.a⟩,h.2⟩⟩
theorem Qt:∀{m:List Nat} {A:List ed} {V:eJ} {j:Nat} {u:ed},(∀i∈m,i<113)->j∉m->iy c V H (nm j) u->iy c (mF V (m.map nm) A) H (nm j) u:=by
 intro m
 induction m with
 |nil=>intro A V j u U U h;exact h
 |cons i m D=>
  intro A V j u C J h;cases A with
  |nil=>exact h
  |cons w f=>exact D (λk z=>C k (gu _ z)) (λq=>J (gu _ q)) ((qP (C i (gL _)) λe=>J (e▸gL _)).mpr h)
theorem UL{F2:Fr}{a':Ad}{aj:eJ}{G:AH}{t2:eB}{a9:Ad}{s:eB}(ae:FR c B a t F V H)(b:Bd d P D Y c B F a9 s V G)(p0:fk a9 s G a t H)(ag:Wd H a t){e:eW}{v:eD}{l:et}{us:List ed}(N:VR H a t v (ec l))(C:H l=d9 (.a us))
  (J:t7 c F V G e v (ec l)) (hd:(ia t v).isSome=eb) (S:mK F e v=eb) (Z:m0 F F2 e=eb) {wr:List Nat} (hw:∀i,e.P=d9 i->i∉wr) (aa:gK c (jW c B F V H) a t wr V H t2 F2 a' aj M) (q:w7 t t2 v):M l=d9 (.a us):=by
 have u:(¬yB c B F V H l∨v.k=em)->M l=d9 (.a us):=λh=>I9 ag N C hd (h.imp (λh=>(wV h).trans C) id) aa.a q;have ac:¬(B l=eh∧∃Q,H l=d9 (.g Q)):=λ⟨_,Q,e⟩ =>by rw[C] at e;cases e
 by_cases w:∃i,e=.a i
 ·(refine fL w λi O=>?_;(clear w;obtain rfl:=O))
  (refine kD (J.2 i rfl) λhh Q k e3=>?_;(clear q J;obtain rfl:=e3))
  have r:iy c V H (nm i) (ec l):=hh.a λad v h=>p0.f _ _ h (nG b.f h rfl);by_cases y:Q.i=eb
  ·cases Q with
   |c o z=>
    have y:o=true:=y;clear hd u;subst y;have R:jE F i=d9 z:=by unfold jE;rw[k];rfl
    have S:(!(jE F i).isSome||(iY F i).isSome)=true:=S;rw[R] at S;refine wm S λX p=>?_;have Z:(!(iY F i).isSome||eU (iY F2 i=iY F i))=true:=Z;rw[p] at Z;have O:iY F2 i=d9 X:=of_decide_eq_true Z;have e3:l6 z=d9 X:=by unfold iY at p;rw[R] at p;exact p
    refine fy O λav e4 e5=>?_;refine fy e4 λaw n e7=>?_;rw[CZ e7] at n;refine aa.d.e i _ n λu2 L g2 U=>?_;have:=L.b (aa.f i _ (hw i rfl) r);clear L;clear U;subst this;refine jD g2 λaf au m A g4 U=>?_;clear U
    (replace m:=lq m;subst m)
    refine jD N λr' aq f K I U=>?_;clear U
    (replace f:=lq f;subst f)
    rw[C] at K
    (replace K:=AO.a.inj (eX K);rw[K])
    rw[wk e5] at g4;rw[wk e3] at I;rw[A,g4.g,I.g]
   |g o ak=>exact nB hd
   |_=>exact nB y
  ·refine u ?_
   by_cases x:Q.e.k=eb
   ·left
    rintro(⟨j,W,L,g2,A⟩ |g)
    ·by_cases e:j=i
     ·clear Z hw hh S r
      subst e;rw[k] at L;(replace L:=eX L;subst L);exact y g2
     ·exact ae.d j i W Q l e L k g2 (by(clear k N hd u S y;cases Q)<;>first|rfl|exact nB x) A r
    ·exact ac g
   ·right;cases h:Q.e.k<;>first|rfl|exact absurd h x
 ·have S:(v.i||v.D)=true:=by
   clear J Z hw;cases e with
   |a i=>exact absurd ⟨i,rfl⟩ w
   |_=>exact S
  refine u ?_;rcases DE.mp S with y|y
  ·left
   refine eR (J.1 y) λaf R O=>?_
   (replace R:=lq R;subst R)
   rintro(⟨j,W,L,g2,A⟩ |g)
   ·exact vb b p0 O L (uy g2) A
   ·exact ac g
  ·right;(clear N J hd S q u;clear S;cases v)<;>first|rfl|exact nB y
theorem Qj{u:eB->Fr->Bool}{W:List Nat}{B:eB->Fr->Option (Fl×eB×Fr)}{L:List (List eT)}{t:eB}{F:Fr}{r:Fl×eB×Fr}(h:j9 u W B L t F=d9 r):u t F=true:=by
 cases L with
 |nil=>exact(wi h).1
 |cons=>exact(wi h).1
theorem Mc{W:List Nat}{N:iF}{x:Ss}(hs:oY d P N)(hx:SS d P x):S1 d P (.j W N x):=km λ{Y c aM t F r} hc h {B w I a V H aG} b s0 hq=>by
 refine fq hc λaz aw=>?_;refine fq az λaA y=>?_;refine fq aA λau av=>?_;have C:=iC.mp av;refine hV h λvs t1 h1 m=>?_;refine fy m λls h2 R=>?_;refine fy R λL h3 s=>?_
 (refine gm s λg1 p=>?_;refine fe g1 λhw aC=>?_)
 refine Bl b.b.a (λaO hy=>?_) (hs au h1 h2 h3 (of_decide_eq_true y) b ?_) (Dl N _ _)
 ·(refine fP hy λi D e2=>?_;(clear hy;obtain rfl:=e2))
  exact j' b.b (C i D)
 intro aJ aH aK f Z aF K Q so;have f1:=(b.e Q).g;have w1:=Q.b;have s1:=s0.d Q;have ag:=IG f1 s1;have ac:∀x,jW c B F V Z x=eh->B x=none:=λx hx=>ag.h hx;have ae:∀{ak:List Nat} {S:eB} {F2:Fr} {l:Ad} {n:eJ} {H2:AH},gK c (jW c B F V Z) f t1 ak V Z S F2 l n H2->gK c B w I ak V H S F2 l n H2:=λq=>
  ⟨q.d.C ac,ag.d q.a,λi u D h=>q.f i u D (h.a λad v h=>Q.f _ _ h (nG b.f h rfl))⟩
 refine(lP (λi n H2=>∃l S F2,gK c (jW c B F V Z) f t1 (W++x.f) V Z S F2 l n H2∧j9 (λO F'=>pE t1 O vs&&N.d.all λe=>m0 F F' e) W (λt F=>x.c d t F) (L.drop i) S F2=d9 r) ?_ ?_ ?_ ?_)
 ·exact(pi f t1 F ⟨IE f1 (b.b.h rfl),.i (wW f1 w1) λU U=>IF,λU U U h=>h⟩ p)
 ·rintro i n H2 ⟨l,S,F2,q,p⟩
  refine fq (Qj p) λg1 g2=>?_;refine so.j H2 (λz hz=>?_) q.d.b;obtain⟨e,v,aI,A⟩ :=z;refine gY (so.b _ hz) λc1 c2 c3=>?_;have me:e∈N.d:=so.g▸jZ (f:=λq:eW×eD×et×List ed=>q.1) hz;have mv:v∈vs:=so.e▸jZ (f:=λq:eW×eD×et×List ed=>q.2.1) hz;have mz:(e,v)∈N.d.zip vs:=by
   rw[←so.g,←so.e,List.zip_map'];exact jZ (f:=λq:eW×eD×et×List ed=>(q.1,q.2.1)) hz
  exact UL f1 b Q w1 c1 c2 c3 (GG h2 _ mv) (iC.mp aC _ mz) (iC.mp g2 _ me) (λi D hm=>by
   have:=iC.mp hw e me;rw[D] at this;have:(!((W++x.f).contains i))=true:=this;rw[List.contains_eq_mem,decide_eq_true hm] at this;exact nB this) q (Ja g1 _ mv)
 ·rintro i n H2 aL aB ⟨l,S,F2,q,p⟩
  have M:i<L.length:=so.d▸aB;have hd:L.drop i=L[i]::L.drop (i+1):=Ku M;rw[hd] at p;refine gm p λU aj=>?_
  (refine fy aj λg3 r1 aa=>?_;obtain⟨aq,t3,F3⟩ :=g3)
  have aD:gN H2 l S L[i] (K i):=by
   have g:=so.f i _ (jF M);have g2:gN (jW c B F V Z) f t1 L[i] (K i):=g.e λr A hr=>by
    rw(occs:=eO) [wV λaE=>?_];exact hr
    (refine gY (zF f1 aE) λU U g4=>?_;refine eR g4 λaf e1 e2=>?_)
    rw[hr] at e1;exact e2 A (eX e1).symm
   exact g2.d q.a (wW f1 w1)
  have lt:∀j∈W,j<113:=λj J=>qn (C j J);have o:gK c (jW c B F V Z) f t1 (W++x.f) V Z S (fV F2 W L[i]) l (mF n (W.map nm) (K i)) H2:=
   ⟨q.d.q (λj J=>⟨lt j J,j' b.b (C j J)⟩) aD,q.a,λj u J h=>Qt lt (λz=>J (lc.mpr (eH z))) (q.f j u J h)⟩
  rw[so.h];refine hx aw r1 ⟨b.b.m,o.d.m,o.a.b⟩ o.a λg a3 X H3 r hf=>?_;have k:gK c (jW c B F V Z) f t1 (W++x.f) V Z t3 F3 a3 X H3:=⟨r.d.n,r.a,λj u J h=>r.f j u (λz=>J (lc.mpr (eI z))) (o.f j u J h)⟩;cases aq with
  |a=>
   rw[show g=fY from hf];exact(pi a3 t3 F3 k aa)
  |b v=>
   clear h m R s r r1;clear p aj;clear p
   (replace aa:=eX aa;subst aa)
   (refine f5 hf λu e5 hv ho=>?_;(clear hf;obtain rfl:=e5))
   exact hq (iV u) a3 X H3 (ae k) (fQ u rfl hv (λaf=>(ho af).imp λr e=>⟨e.1,ac _ e.2⟩))
 ·rintro n H2 ⟨l,S,F2,q,p⟩
  rw[so.d,Wy] at p;refine gm p λU G=>?_;clear h m R s;clear p U;clear p
  (replace G:=eX G;subst G)
  exact hq fY l n H2 (ae q) rfl
theorem LZ:∀{i:Nat} {e:eW},S1 d P (.a i e)
 |i,.B T W N a A=>L0 (Bk N) (fR T).1 (mP a).2.2
 |i,.a j=>jO (fR _).1 rfl
 |i,.x j=>jO (fR _).1 rfl
 |i,.d j=>jO (fR _).1 rfl
 |i,.F=>jO (fR _).1 rfl
 |i,.I _=>jO (fR _).1 rfl
 |i,.G _=>jO (fR _).1 rfl
 |i,.c _ _=>jO (fR _).1 rfl
 |i,.n _ _=>jO (fR _).1 rfl
 |i,.H _=>jO (fR _).1 rfl
 |i,.p _ _ _=>jO (fR _).1 rfl
 |i,.h _ _ _=>jO (fR _).1 rfl
 |i,.M _=>jO (fR _).1 rfl
 |i,.K _=>jO (fR _).1 rfl
 |i,.D _ _=>jO (fR _).1 rfl
 |i,.C _ _ _=>jO (fR _).1 rfl
 |i,.z _=>jO (fR _).1 rfl
 |i,.A _=>jO (fR _).1 rfl
 |i,.O=>jO (fR _).1 rfl
 |i,.j _ _=>jO (fR _).1 rfl
 |i,.v _ _ _=>jO (fR _).1 rfl
 |i,.w _ _=>jO (fR _).1 rfl
 |i,.J _ _=>jO (fR _).1 rfl
 |i,.L _ _=>jO (fR _).1 rfl
mutual
theorem yk:∀s:js,S1 d P s
 |.a i e=>LZ
 |.l Q m e=>L8 (fR e).1
 |.y m x=>L7
 |.z i j k=>L9
 |.d o f e=>Mk (fR o).1 (fR e).1
 |.D o x=>Mn (fR o).1
 |.s i a e=>Ml (fR e).1
 |.n x k e=>Mm (fR k).1 (fR e).1
 |.m x e=>LY (fR e).1
 |.u x e=>Mb (fR e).1
 |.A x k e=>Me (fR k).1 (fR e).1
 |.B o e=>Mg (fR e).1
 |.q o e=>Mp (fR e).1
 |.h e=>Ma (fR e).1
 |.c q x y=>Md (fR q).2 (qQ x) (qQ y)
 |.w q x=>Mo (fR q).2 (qQ x)
 |.j W N x=>Mc (Bk N) (qQ x)
 |.g e=>Mh (fR e).1
 |.r x=>Mj
 |.F=>Mi
 |.p=>Mf
theorem qQ:∀s:Ss,SS d P s
 |.b=>MW
 |.a s r=>MV (yk s) (qQ r)
end
noncomputable def Fl.e:Fl->eD
 |.a=>.b .e
 |.b v=>v
def iu(P:iE)(g:Nat)(M:List Nat)(b:Ss):Prop:=∀{d:ir} {k:Nat} {c:Cx},vj d P k->c.e=KK P->c.d->Lv c (k+1)->(d.a=eb->c.b.handled=eh)->∀{w t f O e},b.c d t (fh M (w.map eD.e))=d9 (f,O,e)->w.length=M.length->
 ∀{a V H A Q},Wd H a t->kK c.b H->jd H a t w A->nI a t H f.e O Q->lM c (ec (i6 g)) A V H Q
theorem jd.e:∀{J:List eD} {A:List ed},jd H a t J A->A.length=J.length:=by
 intro N
 induction N with
 |nil=>
  intro U h;rw[show _=[] from h];rfl
 |cons U _ D=>
  intro U L;exact fT L λu d c h S=>by rw[c,lG,D S];rfl
theorem o8:∀{b:List Nat} {k:List eD} {A:List ed} {i:Nat} {v:eD},(∀j∈b,j<113)->jd H a t k A->fh b (k.map eD.e) i=d9 v->i∈b∧v.i=em∧∃u,VR H a t v u∧(nm i,u)∈(b.map nm).zip A:=by
 intro b
 induction b with
 |nil=>intro k A i v U U h;exact nS h
 |cons p b D=>
  intro k A i v C Z h;cases k with
  |nil=>exact nS h
  |cons x z=>
   refine fT Z λu f e g X=>?_;unfold fh at h;rw[gj,xD,iw] at h;rw[e,gj,xD];cases q:i==p with
   |true=>
    rw[q] at h
    (replace h:=eX h;subst h)
    rw[beq_iff_eq.mp q];exact⟨gL _,ry x,u,g.f,gL _⟩
   |false=>
    rw[q] at h
    (refine gY (D (λj J=>C j (gu _ J)) X h) λK I L=>?_;refine eR L λc W O=>?_)
    exact⟨gu _ K,I,c,W,gu _ O⟩
theorem Ie:∀{m:List Nat},m.Nodup->(∀i∈m,i<113)->(m.map nm).Nodup:=by
 intro N
 induction N with
 |nil=>
  intro U U;exact og
 |cons i m D=>
  intro h y;refine qo h λa o=>?_;rw(occs:=eO) [gj,kG];refine⟨λY=>?_,D o λj J=>y j (gu _ J)⟩;refine fP Y λj J e=>?_;rw[un (y j (gu _ J)) e] at J;exact a J
theorem HN{L j:Type}[BEq L][LawfulBEq L]{x:L}{y:j}:∀{l:List (L×j)},(l.map (·.1)).Nodup->(x,y)∈l->l.lookup x=d9 y:=by
 intro l
 induction l with
 |nil=>intro U h;exact absurd h iI
 |cons p l D=>
  intro G h;refine qo G λM f=>?_;rw[iw];rcases gy.mp h with h|h
  ·rw[←h,beq_self_eq_true]
  ·have:x≠p.1:=λe=>M (mm.mpr (ey _ h e))
   rw[beq_eq_false_iff_ne.mpr this];exact D f h
theorem vZ{M:List Nat}{A:List ed}{i:Nat}{u:ed}(G:M.Nodup)(C:∀j∈M,j<113)(h:(nm i,u)∈(M.map nm).zip A):iR (M.map nm) A (nm i)=d9 u:=by
 unfold iR;apply HN
 ·rw(occs:=eO) [nz,Wr,KH]
  have:∀{l:List String} {m:List ed},l.Nodup->((l.zip m).map (·.1)).Nodup:=by
   intro l
   induction l with
   |nil=>intro m _;exact og
   |cons x l D=>
    intro m h;cases m with
    |nil=>exact og
    |cons y m=>
     refine qo h λK I=>?_;rw[xD,gj];refine kG.mpr ⟨λq=>?_,D I⟩;refine fP q λz P e=>?_;exact K ((show z.1=x from e)▸(rI (show(z.1,z.2)∈l.zip m from P)).1)
  exact(this (Ie G C)).imp gM
 ·exact lI.mpr h
theorem l8{M:List Nat}(h:(M.all λi=>eU (i<113))=eb):∀i∈M,i<113:=λi D=>of_decide_eq_true (iC.mp h i D)
theorem sX(h:(Y.all λp=>eU (p.1<113))=eb):∀p∈Y,p.1<113:=λp J=>of_decide_eq_true (iC.mp h p J)
theorem Go{b:Ss}{u:fG}{e:List Nat}{w:List eD}{f:Fl}{A:Fr}{Q:ed->AH->Prop}(S:jA d P em Y c)(i:FR c H a t (fh e (w.map eD.e)) V M)(o:fk a t H a t M)
  (Z:b.d (fj u)=fj u) (z:b.e Y (fj u)=eb) (h:b.c d t (fh e (w.map eD.e))=d9 (f,O,A)) (G:nI a t H f.e O Q):TS c (fj u) V M λj U T=>Q (pC j) T:=by
 rw[←Z];refine qQ b z h ⟨S,i,o.b⟩ o λg s m T p l=>?_;cases f with
 |a=>
  rw[show g=fY from l];exact G _ s T p.a rfl (λh=>nB h)
 |b v=>
  (refine f5 l λk R N y=>?_;(clear l;obtain rfl:=R))
  exact G _ s T p.a N y
theorem Fb{g:Nat}{M:List Nat}{s:et}{u:fG}{n q:ft}{E T:ed}{k:Nat}{w:List eD}{A:List ed}{Q:ed->AH->Prop}(Y:gZ)(ok:vj d P k)(F:c.e=KK P)(O:c.d)(R:Lv c (k+1))(l:d.a=eb->c.b.handled=eh)
  (K:(KK P).lookup (i6 g)=d9 ⟨eK "function",eh,gQ u n q T E (ec s),#[]⟩) (I:pR (KK P) (ec s) q=eb) (hb:sH (lK n q (qi u) (fj u) (fD u) T ez ez E eh (ec s) ez) (M.map nm)) (X:qt (fD u) (M.map nm)=eb)
  (S:(fD u).names=(fN Y).names) (W:((Y.all λae=>eU (ae.1<113))&&(M.all λi=>eU (i<113))&&eU M.Nodup)=eb) (hl:w.length=M.length) (B:kK c.b H) (N:jd H a t w A)
  (aa:∀b,jA d P em Y b->FR b H a t (fh M (w.map eD.e)) (iR (M.map nm) A) H->Lv b k->b.b.handled=c.b.handled->TS b (fj u) (iR (M.map nm) A) H λj U H2=>Q (pC j) H2):lM c (ec (i6 g)) A V H Q:=by
 refine fq W λJ z=>?_;refine fq J λac r=>?_;refine wO X λp c2 c3 c4 c5=>?_;refine Bp F O R (M.map nm) K I hb X (by rw[fC,N.e,hl]) λg L m=>?_;generalize C:iM c g L (kS q (fD u) L (i6 _) (ec s) [])=b at m;have f:∀x,b.a.kindOf x=(fD u).names.lookup x:=λx=>by rw[←C];rfl
 have h:∀x,b.a.kindOf x≠d9 fK:=λx e=>by rw[f] at e;exact c2 _ (pB e) rfl
 refine aa b ⟨C▸F,m,?_,?_,λi k' D=>?_,λq=>C▸l q,λU=>C▸rfl,(ey k (C▸R.e) ok)⟩ ⟨λi v D=>?_,λi ag v v' aj U D U y=>?_,λx e=>absurd e (h x),λx ak ad e=>absurd e (h x),C▸B⟩ (C▸R.e) (C▸rfl)
 ·unfold rP;rw[m.b];rfl
 ·unfold xM;rw[m.b];rfl
 ·rw[f,S];exact(mY (sX ac)).trans D
 ·(refine gY (o8 (l8 r) N D) λo m2 g2=>?_;refine eR g2 λaf G Z=>?_)
  exact(fQ af (eH ⟨(f _).trans (p _ (jZ o)),vZ (of_decide_eq_true z) (l8 r) Z⟩) G (by rw[m2];nofun))
 ·refine gY (o8 (l8 r) N D) λU m2 U=>?_
  rw[m2] at y;exact nB y
theorem i5{g:Nat}{M:List Nat}{b:Ss}{s:et}{u:fG}{n q:ft}{E T:ed}(Y:gZ)
  (K:(KK P).lookup (i6 g)=d9 ⟨eK "function",eh,gQ u n q T E (ec s),#[]⟩) (I:pR (KK P) (ec s) q=eb) (j:sH (lK n q (qi u) (fj u) (fD u) T ez ez E eh (ec s) ez) (M.map nm)) (X:qt (fD u) (M.map nm)=eb)
  (Z:b.d (fj u)=fj u) (m:(fD u).names=(fN Y).names) (z:b.e Y (fj u)=eb) (W:((Y.all λp=>eU (p.1<113))&&(M.all λi=>eU (i<113))&&eU M.Nodup)=eb):iu P g M b:=
 λ{d k c} o F e R l {v t f O A} h C {a V H y r} w B N G=>Fb Y o F e R l K I j X m W C B N λx S Q U U=>Go S Q (.e w) Z z h G
theorem OS(n i:Nat):n<n+1+i:=by lia
theorem OQ{n i j:Nat}(h:n+1+i=n+1+j):i=j:=by lia
theorem S9{n k m:Nat}(h:k<m):(tu n m)[k]? =d9 (n+k):=by
 rw[List.getElem?_range' h];simp
theorem rU{g:Nat}{M W:List Nat}{b:Ss}{s:et}{u:fG}{n q:ft}{E T:ed}(Y:gZ)
  (K:(KK P).lookup (i6 g)=d9 ⟨eK "function",eh,gQ u n q T E (ec s),#[]⟩) (I:pR (KK P) (ec s) q=eb) (hb:sH (lK n q (qi u) (fj u) (fD u) T ez ez E eh (ec s) ez) (M.map nm))
  (aI:((fD u).isCoroutine==em&&(fD u).isGenerator==em&&(fD u).kind==jH)=eb) (ag:∀k,rN k (fD u).names []=(((W.map nm).map eE).zip (tu k (W.map nm).length)).reverse)
  (Z:b.d (fj u)=fj u) (S:(fD u).names=(fN Y).names) (hk:b.e Y (fj u)=eb) (az:((Y.all λp=>eU (p.1<113))&&(M.all λi=>eU (i<113))&&eU M.Nodup&&eU W.Nodup&&(W.all λi=>Y.lookup i==d9 fK)&&(M.all λi=>Y.lookup i==d9 eu||(Y.lookup i==d9 fK&&W.contains i))&&Y.all λp=>p.2 !=fK||W.contains p.1)=eb):iu P g M b:=by
 intro d k c ok F aq lv hf aT t aU O F' av hl a V H A aS w hh N hq;refine fq az λJ aC=>?_;refine fq J λaD aB=>?_;refine fq aD λaE aA=>?_;refine fq aE λaF aj=>?_;refine fq aF λaG z=>?_;refine fq aG λB r=>?_;refine fq aI λaM aL=>?_;refine fq aM λaJ aK=>?_;have Q:∀i,(fD u).names.lookup (eE (nm i))=Y.lookup i:=λi=>by rw[S];exact mY (sX B)
 have ac:∀i∈W,Y.lookup i=d9 fK:=λi D=>beq_iff_eq.mp (iC.mp aA i D);have ae:∀i∈W,i<113:=λi D=>sX B (i,fK) (pB (ac i D));have ak:∀i∈M,Y.lookup i=d9 eu∨(Y.lookup i=d9 fK∧i∈W):=λi D=>by
  have:=iC.mp aB i D;rcases DE.mp this with e|e
  ·exact eH (beq_iff_eq.mp e)
  ·refine fq e λR e2=>?_
   exact eI ⟨beq_iff_eq.mp R,Wx.mp e2⟩
 have v:∀x,(fD u).names.lookup x=d9 fK->∃i,i∈W∧x=eE (nm i):=λx e=>by
  rw[S] at e;refine fP (pB e) λp hp G=>?_;cases p with|mk i k0=>
  clear e;cases G;have:=iC.mp aC _ hp;exact(ey i (Wx.mp this) rfl)
 refine Fa aq (F▸K) (F▸I) lv.g (M.map nm) (W.map nm) (λaW vs U aO=>Ee (hb vs (by rw[aO,N.e,fC,hl]))) (λx Z=>?_) ag (Ie (of_decide_eq_true aj) ae) (λx Z=>?_) (beq_iff_eq.mp aJ) (beq_iff_eq.mp aK) (beq_iff_eq.mp aL) λgh L m y=>?_
 ·(refine fP Z λi D e3=>?_;(clear Z;obtain rfl:=e3))
  rw[Q];exact(ak i D).imp id λe=>⟨e.1,jZ e.2⟩
 ·(refine fP Z λi D e4=>?_;(clear Z;obtain rfl:=e4))
  rw[Q];exact ac i D
 have f:∀x,(iM c gh L (mM q (fD u) L (i6 g) (ec s))).a.kindOf x=(fD u).names.lookup x:=λx=>rfl;have au:(iM c gh L (mM q (fD u) L (i6 g) (ec s))).a.cells=rN (L+1) (fD u).names []:=rfl;have X:∀i∈W,∃k0,W[k0]? =d9 i∧(iM c gh L (mM q (fD u) L (i6 g) (ec s))).a.cells.lookup (eE (nm i))=d9 (L+1+k0)∧qA H L ((W.map nm).map (iR (M.map nm) A)) (L+1+k0)=d9 (.g (iR (M.map nm) A (nm i))):=λi D=>by
  refine fL (D5.mp D) λk0 l=>?_;have aH:k0<W.length:=(xz.mp l).1;refine(fQ k0 l ?_ ?_)
  ·rw[au,ag]
   apply HN
   ·rw(occs:=eO) [nz,D0 (by simp),Wr,KH,gJ]
    exact(Ii (of_decide_eq_true aj) ae).imp gM
   ·rw(occs:=eO) [lI,D5]
    refine⟨k0,?_⟩;rw(occs:=eO) [WE];refine⟨?_,S9 (by rw(occs:=eO) [fC];exact aH)⟩;rw(occs:=eO) [lF,lF,l];rfl
  ·unfold qA
   rw[if_pos (OS L k0),show L+1+k0-(L+1)=k0 from KN _ _,lF,lF,l];rfl
 have h:∀x aa,H x=d9 aa->qA H L ((W.map nm).map (iR (M.map nm) A)) x=d9 aa:=λx aa Z=>by
  unfold qA;rw[if_neg (W4 (y x aa Z))];exact Z
 have hB:∀k0,H (L+1+k0)=none:=λk0=>by
  cases e:H (L+1+k0) with
  |none=>rfl
  |some aa=>exact absurd (y _ aa e) (FM L k0)
 generalize C:iM c gh L (mM q (fD u) L (i6 g) (ec s))=c' at*;refine Go (Y:=Y) ⟨C▸F,m,?_,?_,λi k' D=>(f _).trans ((Q i).trans D),λq=>C▸hf q,λU=>C▸rfl,(ey k (C▸lv.e) ok)⟩ ⟨λi aQ D=>?_,λi j aQ v' aV U D U ho=>?_,λx e=>?_,λx aR ad R e2 l1 l2=>?_,?_⟩ (.i w h) Z hk av hq
 ·unfold rP;rw[m.b];rfl
 ·unfold xM;rw[m.b];rfl
 ·(refine gY (o8 (l8 r) N D) λm1 m2 g5=>?_;refine eR g5 λaP m3 m4=>?_)
  have af:=vZ (of_decide_eq_true z) (l8 r) m4;refine(fQ aP ?_ (m3.a (.i w h) w) (by rw[m2];nofun));rcases ak i m1 with e|⟨e,aw⟩
  ·refine eH ⟨(f _).trans ((Q i).trans e),?_⟩
   unfold vY;rw[if_pos ((Q i).trans e)];exact af
  ·refine f5 (X i aw) λk0 U q1 o=>?_
   rw[af] at o;exact eI ⟨(f _).trans ((Q i).trans e),_,q1,o⟩
 ·refine gY (o8 (l8 r) N D) λU m2 U=>?_
  rw[m2] at ho;exact nB ho
 ·rw[f] at e
  (refine eR (v x e) λi D e6=>?_;(clear e;obtain rfl:=e6))
  refine f5 (X i D) λk0 U q1 o=>?_;exact(fS _ _ q1 o (λU=>hB k0))
 ·rw[f] at R e2
  (refine eR (v x R) λi D e7=>?_;(clear R;obtain rfl:=e7))
  (refine eR (v aR e2) λj hj e8=>?_;(clear e2;obtain rfl:=e8))
  refine f5 (X i D) λk0 z1 q1 U=>?_;refine f5 (X j hj) λk1 z2 o U=>?_;rw[l1] at q1;rw[l2] at o;have K:=eX q1;have I:=eX o;have:k0=k1:=OQ (K.symm.trans I);clear I o;clear U;subst this;rw[z1] at z2;rw[eX z2]
 ·exact(show kK c'.b H from C▸hh).b λx aa Z=>h _ _ Z
end
section
variable{P:iE}
theorem R9:iu P 1023 [50,56] sy:=i5 (n:=ei "size") (q:=ei "Window.size") (E:=(eC (ei "emacs.windows") 227)) (T:=ez) (s:=61) (u:=(fW 9 1)) Jx rfl (by kernel_rfl) (by exact ij λa b=>.a (by kernel_rfl)) (by kernel_rfl) VF TK (by kernel_rfl) (by kernel_rfl)
theorem R5:iu P 1024 [50,56,57] su:=i5 (n:=ei "set_size") (q:=ei "Window.set_size") (E:=(eC (ei "emacs.windows") 227)) (T:=ez) (s:=68) (u:=(fW 9 2)) Ju rfl (by kernel_rfl) (by exact ij λa b d=>.a (by kernel_rfl)) (by kernel_rfl) VC TG (by kernel_rfl) (by kernel_rfl)
theorem R3:iu P 1025 [50,56] sr:=i5 (n:=ei "place") (q:=ei "Window.place") (E:=(eC (ei "emacs.windows") 227)) (T:=ez) (s:=75) (u:=(fW 9 3)) Jt rfl (by kernel_rfl) (by exact ij λa b=>.a (by kernel_rfl)) (by kernel_rfl) VB TF (by kernel_rfl) (by kernel_rfl)
theorem R8:iu P 1026 [50] Gi:=i5 (n:=ei "shown") (q:=ei "Window.shown") (E:=(eC (ei "emacs.windows") 227)) (T:=ez) (s:=82) (u:=(fW 9 4)) Jw rfl (by kernel_rfl) (by exact ij λa=>.a (by kernel_rfl)) (by kernel_rfl) VE TJ (by kernel_rfl) (by kernel_rfl)
theorem R7:iu P 1027 [50,58] vF:=i5 (n:=ei "show") (q:=ei "Window.show") (E:=(eC (ei "emacs.windows") 227)) (T:=ez) (s:=89) (u:=(fW 9 5)) Jv rfl (by kernel_rfl) (by exact ij λa b=>.a (by kernel_rfl)) (by kernel_rfl) VD TH (by kernel_rfl) (by kernel_rfl)
theorem R2:iu P 1029 [50,53] vE:=i5 (n:=ei "window") (q:=ei "WindowTree.window") (E:=(eC (ei "emacs.windows") 227)) (T:=ez) (s:=125) (u:=(fW 10 2)) Js rfl (by kernel_rfl) (by exact ij λa b=>.a (by kernel_rfl)) (by kernel_rfl) Vz Ty (by kernel_rfl) (by kernel_rfl)
theorem RY:iu P 1030 [50,53] vB:=i5 (n:=ei "leaf") (q:=ei "WindowTree.leaf") (E:=(eC (ei "emacs.windows") 227)) (T:=ez) (s:=132) (u:=(fW 10 3)) Jo rfl (by kernel_rfl) (by exact ij λa b=>.a (by kernel_rfl)) (by kernel_rfl) Vv Tu (by kernel_rfl) (by kernel_rfl)
theorem R1:iu P 1031 [50,53] vD:=i5 (n:=ei "touch") (q:=ei "WindowTree.touch") (E:=(eC (ei "emacs.windows") 227)) (T:=ez) (s:=139) (u:=(fW 10 4)) Jr rfl (by kernel_rfl) (by exact ij λa b=>.a (by kernel_rfl)) (by kernel_rfl) Vy Tx (by kernel_rfl) (by kernel_rfl)
theorem R0:iu P 1032 [50,53] vC:=i5 (n:=ei "select") (q:=ei "WindowTree.select") (E:=(eC (ei "emacs.windows") 227)) (T:=ez) (s:=146) (u:=(fW 10 5)) Jq rfl (by kernel_rfl) (by exact ij λa b=>.a (by kernel_rfl)) (by kernel_rfl) Vx Tw (by kernel_rfl) (by kernel_rfl)
theorem RZ:iu P 1033 [50,56] sq:=i5 (n:=ei "least_leaf") (q:=ei "WindowTree.least_leaf") (E:=(eC (ei "emacs.windows") 227)) (T:=ez) (s:=153) (u:=(fW 10 6)) Jp rfl (by kernel_rfl) (by exact ij λa b=>.a (by kernel_rfl)) (by kernel_rfl) Vw Tv (by kernel_rfl) (by kernel_rfl)
theorem Sa:iu P 15 [54] vG:=i5 (n:=ei "along") (q:=ei "along") (E:=(eC (ei "emacs.windows") 227)) (T:=ez) (s:=174) (u:=(eS 11)) Jy rfl (by kernel_rfl) (by exact ij λa=>.a (by kernel_rfl)) (by kernel_rfl) VG TL (by kernel_rfl) (by kernel_rfl)
theorem SC:iu P 16 [56] vS:=i5 (n:=ei "sort_along") (q:=ei "sort_along") (E:=(eC (ei "emacs.windows") 227)) (T:=ez) (s:=181) (u:=(eS 12)) JU rfl (by kernel_rfl) (by exact ij λa=>.a (by kernel_rfl)) (by kernel_rfl) V4 Ud (by kernel_rfl) (by kernel_rfl)
theorem So:iu P 17 [66,53] B2:=i5 (n:=ei "leaves_under") (q:=ei "leaves_under") (E:=(eC (ei "emacs.windows") 227)) (T:=ez) (s:=188) (u:=(eS 13)) JM rfl (by kernel_rfl) (by exact ij λa b=>.a (by kernel_rfl)) (by kernel_rfl) VW T6 (by kernel_rfl) (by kernel_rfl)
theorem Sn:iu P 18 [66] yP:=i5 (n:=ei "leaves") (q:=ei "leaves") (E:=(eC (ei "emacs.windows") 227)) (T:=ez) (s:=195) (u:=(eS 14)) JL rfl (by kernel_rfl) (by exact ij λa=>.a (by kernel_rfl)) (by kernel_rfl) VV T4 (by kernel_rfl) (by kernel_rfl)
theorem SI:iu P 19 [66,53] B3:=i5 (n:=ei "windows_under") (q:=ei "windows_under") (E:=(eC (ei "emacs.windows") 227)) (T:=ez) (s:=202) (u:=(eS 15)) JW rfl (by kernel_rfl) (by exact ij λa b=>.a (by kernel_rfl)) (by kernel_rfl) V6 Uf (by kernel_rfl) (by kernel_rfl)
theorem Sv:iu P 20 [66,69,70] ri:=i5 (n:=ei "replace_child") (q:=ei "replace_child") (E:=(eC (ei "emacs.windows") 227)) (T:=ez) (s:=209) (u:=(eS 16)) JQ rfl (by kernel_rfl) (by exact ij λa b d=>.a (by kernel_rfl)) (by kernel_rfl) V0 T' (by kernel_rfl) (by kernel_rfl)
theorem Sf:iu P 21 [66,53] vJ:=i5 (n:=ei "forget") (q:=ei "forget") (E:=(eC (ei "emacs.windows") 227)) (T:=ez) (s:=216) (u:=(eS 17)) JD rfl (by kernel_rfl) (by exact ij λa b=>.a (by kernel_rfl)) (by kernel_rfl) VL TU (by kernel_rfl) (by kernel_rfl)
theorem Sm:iu P 22 [66,53,56] vM:=rU (W:=[65]) (n:=ei "least_size") (q:=ei "least_size") (E:=(eC (ei "emacs.sizes") 490)) (T:=ez) (s:=221) (u:=(eS 19)) JK rfl (by kernel_rfl) (by exact ij λa b d=>.a (by kernel_rfl)) (by kernel_rfl) (λk=>by kernel_rfl) VU T3 (by kernel_rfl) (by kernel_rfl)
theorem Sz:iu P 23 [74,75,76] sF:=rU (W:=[77,78,79]) (n:=ei "shares") (q:=ei "shares") (E:=(eC (ei "emacs.sizes") 490)) (T:=ez) (s:=226) (u:=(eS 20)) JT rfl (by kernel_rfl) (by exact ij λa b d=>.a (by kernel_rfl)) (by kernel_rfl) (λk=>by kernel_rfl) V3 Uc (by kernel_rfl) (by kernel_rfl)
theorem Sy:iu P 24 [66,53,56,57] vR:=rU (W:=[66,56]) (n:=ei "set_tree_size") (q:=ei "set_tree_size") (E:=(eC (ei "emacs.sizes") 490)) (T:=ez) (s:=231) (u:=(eS 21)) JS rfl (by kernel_rfl) (by exact ij λa b d e=>.a (by kernel_rfl)) (by kernel_rfl) (λk=>by kernel_rfl) V2 Ub (by kernel_rfl) (by kernel_rfl)
theorem Sx:iu P 25 [66] vQ:=i5 (n:=ei "set_places") (q:=ei "set_places") (E:=(eC (ei "emacs.sizes") 490)) (T:=ez) (s:=238) (u:=(eS 22)) JR rfl (by kernel_rfl) (by exact ij λa=>.a (by kernel_rfl)) (by kernel_rfl) V1 Ua (by kernel_rfl) (by kernel_rfl)
theorem SJ:iu P 27 [66,53] vX:=i5 (n:=ei "wrong_window") (q:=ei "wrong_window") (E:=(eC (ei "emacs.sizes") 490)) (T:=ez) (s:=252) (u:=(eS 24)) JX rfl (by kernel_rfl) (by exact ij λa b=>.a (by kernel_rfl)) (by kernel_rfl) V7 Ug (by kernel_rfl) (by kernel_rfl)
theorem SH:iu P 28 [66] vV:=i5 (n:=ei "tree_error") (q:=ei "tree_error") (E:=(eC (ei "emacs.sizes") 490)) (T:=ez) (s:=259) (u:=(eS 25)) JV rfl (by kernel_rfl) (by exact ij λa=>.a (by kernel_rfl)) (by kernel_rfl) V5 Ue (by kernel_rfl) (by kernel_rfl)
theorem Su:iu P 29 [66,53] vO:=rU (W:=[90]) (n:=ei "node_of") (q:=ei "node_of") (E:=(eC (ei "emacs.configuration") 556)) (T:=ez) (s:=264) (u:=(eS 27)) JP rfl (by kernel_rfl) (by exact ij λa b=>.a (by kernel_rfl)) (by kernel_rfl) (λk=>by kernel_rfl) VZ T9 (by kernel_rfl) (by kernel_rfl)
theorem Sc:iu P 30 [66] vH:=i5 (n:=ei "configuration") (q:=ei "configuration") (E:=(eC (ei "emacs.configuration") 556)) (T:=ez) (s:=271) (u:=(eS 28)) JA rfl (by kernel_rfl) (by exact ij λa=>.a (by kernel_rfl)) (by kernel_rfl) VI TP (by kernel_rfl) (by kernel_rfl)
theorem Sb:iu P 32 [66,53,56] rh:=i5 (n:=ei "combined") (q:=ei "combined") (E:=(eC (ei "emacs.splits") 572)) (T:=ez) (s:=285) (u:=(eS 31)) Jz rfl (by kernel_rfl) (by exact ij λa b d=>.a (by kernel_rfl)) (by kernel_rfl) VH TM (by kernel_rfl) (by kernel_rfl)
theorem Sg:iu P 34 [66,53] vK:=i5 (n:=ei "joined") (q:=ei "joined") (E:=(eC (ei "emacs.splits") 572)) (T:=ez) (s:=299) (u:=(eS 33)) JE rfl (by kernel_rfl) (by exact ij λa b=>.a (by kernel_rfl)) (by kernel_rfl) VM TV (by kernel_rfl) (by kernel_rfl)
theorem Sp:iu P 35 [66,53] sD:=i5 (n:=ei "lifted") (q:=ei "lifted") (E:=(eC (ei "emacs.splits") 572)) (T:=ez) (s:=306) (u:=(eS 34)) JN rfl (by kernel_rfl) (by exact ij λa b=>.a (by kernel_rfl)) (by kernel_rfl) VX T7 (by kernel_rfl) (by kernel_rfl)
theorem Sr:iu P 36 [66,95] vN:=i5 (n:=ei "most_recent") (q:=ei "most_recent") (E:=(eC (ei "emacs.splits") 572)) (T:=ez) (s:=313) (u:=(eS 35)) JO rfl (by kernel_rfl) (by exact ij λa b=>.a (by kernel_rfl)) (by kernel_rfl) VY T8 (by kernel_rfl) (by kernel_rfl)
theorem Se:iu P 37 [66,53] vI:=i5 (n:=ei "delete_window") (q:=ei "delete_window") (E:=(eC (ei "emacs.splits") 572)) (T:=ez) (s:=320) (u:=(eS 36)) JC rfl (by kernel_rfl) (by exact ij λa b=>.a (by kernel_rfl)) (by kernel_rfl) VK TR (by kernel_rfl) (by kernel_rfl)
theorem Sd:iu P 38 [66,53] yO:=i5 (n:=ei "delete_others") (q:=ei "delete_others") (E:=(eC (ei "emacs.splits") 572)) (T:=ez) (s:=327) (u:=(eS 37)) JB rfl (by kernel_rfl) (by exact ij λa b=>.a (by kernel_rfl)) (by kernel_rfl) VJ TQ (by kernel_rfl) (by kernel_rfl)
theorem Si:iu P 39 [98,99] sA:=i5 (n:=ei "_law_draw") (q:=ei "_law_draw") (E:=(eC (ei "law_ok0064_01") 676)) (T:=ez) (s:=334) (u:=(eS 39)) JG rfl (by kernel_rfl) (by exact ij λa b=>.a (by kernel_rfl)) (by kernel_rfl) VP TY (by kernel_rfl) (by kernel_rfl)
theorem Sl:iu P 40 [66,53,56] sC:=rU (W:=[66,56]) (n:=ei "_law_least") (q:=ei "_law_least") (E:=(eC (ei "law_ok0064_01") 676)) (T:=ez) (s:=339) (u:=(eS 40)) JJ rfl (by kernel_rfl) (by exact ij λa b d=>.a (by kernel_rfl)) (by kernel_rfl) (λk=>by kernel_rfl) VT T2 (by kernel_rfl) (by kernel_rfl)
theorem Sk:iu P 41 [66,53,56,100] vL:=rU (W:=[66,56,100,57]) (n:=ei "_law_is_shared") (q:=ei "_law_is_shared") (E:=(eC (ei "law_ok0064_01") 676)) (T:=ez) (s:=344) (u:=(eS 41)) JI rfl (by kernel_rfl) (by exact ij λa b d e=>.a (by kernel_rfl)) (by kernel_rfl) (λk=>by kernel_rfl) VS T0 (by kernel_rfl) (by kernel_rfl)
theorem Sj:iu P 43 [98,66,103] uc:=rU (W:=[66]) (n:=ei "_law_is_gone") (q:=ei "_law_is_gone") (E:=(eC (ei "law_ok0064_01") 676)) (T:=ez) (s:=356) (u:=(eS 43)) JH rfl (by kernel_rfl) (by exact ij λa b d=>.a (by kernel_rfl)) (by kernel_rfl) (λk=>by kernel_rfl) VQ TZ (by kernel_rfl) (by kernel_rfl)
theorem SG:iu P 31 [66,53,57,56] ud:=i5 (n:=ei "split_parts") (q:=ei "split_parts") (E:=(eC (ei "emacs.splits") 572)) (T:=ez) (s:=278) (u:=(eS 30)) Ae rfl (by kernel_rfl) (by exact ij λa b d e=>.a (by kernel_rfl)) (by kernel_rfl) Ki IP (by kernel_rfl) (by kernel_rfl)
theorem SD:iu P 33 [66,53,57,56,93] vU:=i5 (n:=ei "split") (q:=ei "split") (E:=(eC (ei "emacs.splits") 572)) (T:=ez) (s:=292) (u:=(eS 32)) Ac rfl (by kernel_rfl) (by exact ij λa b d e f=>.a (by kernel_rfl)) (by kernel_rfl) Kh IO (by kernel_rfl) (by kernel_rfl)
theorem Sw:iu P 26 [66,59,60] vP:=i5 (n:=ei "resize_frame") (q:=ei "resize_frame") (E:=(eC (ei "emacs.sizes") 490)) (T:=ez) (s:=245) (u:=(eS 23)) Ab rfl (by kernel_rfl) (by exact ij λa b d=>.a (by kernel_rfl)) (by kernel_rfl) Kg IN (by kernel_rfl) (by kernel_rfl)
noncomputable def yw(P:iE):List (Nat×List Nat×Ss)->Prop
 |[]=>True
 |p::r=>iu P p.1 p.2.1 p.2.2∧yw P r
theorem O0:yw P U7:=⟨SG,SD,Sw,R9,R5,R3,R8,R7,R2,RY,R1,R0,RZ,Sa,SC,So,Sn,SI,Sv,Sf,Sm,Sz,Sy,Sx,SJ,SH,Su,Sc,Sb,Sg,Sp,Sr,Se,Sd,Si,Sl,Sk,Sj,trivial⟩
theorem yw.a:∀{l:List (Nat×List Nat×Ss)} {g:Nat} {M:List Nat} {b:Ss},yw P l->l.lookup g=d9 (M,b)->iu P g M b:=by
 intro l
 induction l with
 |nil=>intro g M b U e;exact nS e
 |cons p l D=>
  obtain⟨o,K,c⟩ :=p;intro g M b q e;refine fe q λh S=>?_;rw[iw] at e;cases q:g==o with
  |true=>rw[q] at e;rw[beq_iff_eq.mp q];cases e;exact h
  |false=>rw[q] at e;exact D S e
def FB(P:iE):Prop:=∀{c:Cx},c.e=KK P->c.d->Lv c 4->c.b.handled=eh->∀{w t v O},zb w t=d9 (v,O)->∀{a V H A Q},Wd H a t->jd H a t w A->nI a t H v O Q->lM c (ec 119) A V H Q
theorem qh{i:Bool}(r:FB P):∀k,vj ⟨gF i k,i⟩ P k:=by
 intro u
 induction u with
 |zero=>
  exactλU U U U U U U U U U h=>nomatch h
 |succ k D=>
  refineλc F O e B g w t v j h a z x A Q n y N G=>?_;have h:(if g=1028 then(if i∧3≤k then zb w t else eh) else(B5 g).bind λ(M,b)=>if M.length=w.length then
   (b.c ⟨gF i k,i⟩ t (fh M (w.map eD.e))).bind λ(f,t,_)=>match f with
    |.b v=>d9 (v,t)
    |.a=>d9 (.b .e,t)
   else eh)=d9 (v,j):=h
  by_cases l:g=1028
  ·subst l
   rw[if_pos rfl] at h
   (refine gm h λL o=>?_;refine fe L λq W=>?_)
   exact r F O (e.f (by lia)) (B q) o n N G
  ·rw[if_neg l] at h
   refine hV h λM b K m=>?_;refine gm m λC R=>?_
   (refine fy R λT I s=>?_;obtain⟨f,S,H⟩ :=T)
   have Y:v=f.e∧S=j:=by
    cases f with
    |a=>(clear h G m R I;clear h;cases s);exact⟨rfl,rfl⟩
    |b v=>(clear I;cases s);exact⟨rfl,rfl⟩
   (refine fe Y λp d=>?_;(clear h m R s Y;clear h;obtain rfl:=p);obtain rfl:=d)
   exact O0.a K (D) F O e B I C.symm n y N G
end
section
variable{c:Cx}{V:eJ}{H M:AH}{P:iE}{d:ir}{D:Bool}{Y:gZ}{B:AH}{F:Fr}{a w:Ad}{t O I:eB}
theorem J'{x y:et}{o p:AO}(h:x≠y):eQ (eQ H x o) y p=eQ (eQ H y p) x o:=by
 funext z
 unfold eQ;by_cases K:z=y
 ·by_cases I:z=x
  ·exact absurd (I.symm.trans K) h
  ·rw[if_pos K,if_neg I,if_pos K]
 ·by_cases I:z=x
  ·rw[if_neg K,if_pos I,if_pos I]
  ·rw[if_neg K,if_neg I,if_neg I,if_neg K]
theorem Uk{x:String}{v:ed}:∀{y:List (String×ed)},x∉y.map (·.1)->kW x v y=y++[(x,v)]:=by
 intro N
 induction N with
 |nil=>
  intro U;exact rfl
 |cons p r D=>
  intro h;rw[zV];rw[if_neg λe=>h (by rw[←e];exact gL _),D λq=>h (gu _ q)];rfl
abbrev fz(A:List ed):List (String×ed):=(lO.take A.length).zip A
theorem zc{A:List ed}{u:ed}(h:A.length<16):kW (gf A.length) u (fz A)=fz (A++[u])∧(fz A).length<1000:=by
 have C:A.length<lO.length:=AQ h (by decide);have K:lO.take (A.length+1)=lO.take A.length++[gf A.length]:=by
  rw[List.take_add_one,jF C];unfold gf;rw[lE,jF C];rfl
 have I:(lO.take A.length).length=A.length:=by rw[xB];lia
 constructor
 ·rw(occs:=eO) [Uk]
  ·unfold fz
   rw[il,WI,K,List.zip_append I];rfl
  ·intro q
   unfold fz at q;rw[D0 (xG I)] at q;have G:(lO.take (A.length+1)).Nodup:=(qj.1).sublist (List.take_sublist_take_left (by lia));rw[K,qE] at G;exact G.2.2 _ q _ (gL _) rfl
 ·unfold fz;rw[kZ,I];lia
theorem mW{f:Nat}{e:eW}{s:fG}{o:List fG}{A:List ed}{x j:et}{u:ed}{Q:gr->eJ->AH->Prop}(F:c.e=KK P)(O:c.d)(z:c.a.kindOf (eE (nm 50))=d9 eu)(a:V (nm 50)=d9 (ec x))(Z:H x=d9 (.h 93 j))(Y:x≠j)(l:f=A.length)(C:f<16)(W:e.N=eh)
  (N:∀Q,Q u (eQ H j (.b (fz A)))->TE c (e.u (sE s)) V (eQ H j (.b (fz A))) Q) (h:TS c o V (eQ H j (.b (fz (A++[u])))) Q):TS c ((js.d (.a 50) f e).v s::o) V (eQ H j (.b (fz A))) Q:=by
 refine kJ (pY (N _ (lw O z a (ey x rfl (pZ O ((fw _ _ Y).trans Z) (gA _ _ _) (ue F C).2 (zc (u:=u) (l▸C)).2 ?_)) (ju 50))) (n6 W _ _ _ _));rw(occs:=eO) [An,l,(zc (l▸C)).1];exact h
theorem Ct{f:Nat}{s:fG}{o:List fG}{A:List ed}{x j:et}{Q:gr->eJ->AH->Prop}(F:c.e=KK P)(O:c.d)(z:c.a.kindOf (eE (nm 50))=d9 eu)(a:V (nm 50)=d9 (ec x))(Z:H x=d9 (.h 93 j))(Y:x≠j)(l:f=A.length)(C:f<16)
  (h:∀b,H b=eh->b≠j->b≠x->TS c o V (eQ (eQ H b (.a [])) j (.b (fz (A++[ec b])))) Q):TS c ((js.d (.a 50) f (.z .b)).v s::o) V (eQ H j (.b (fz A))) Q:=by
 refine kJ (pY (Bs (kC ⟨pL _,λb q=>?_⟩)) rfl);have K:b≠j:=λe=>by rw[e,gA] at q;exact iX q
 rw[fw _ _ K] at q;have I:b≠x:=λe=>by rw[e,Z] at q;exact iX q
 refine lw O z a (ey x rfl (pZ O (d:=j) ?_ ?_ (ue F C).2 (zc (u:=ez) (l▸C)).2 ?_)) (ju 50)
 ·rw[fw _ _ (gM I),fw _ _ Y];exact Z
 ·rw[fw _ _ (gM K)];exact gA _ _ _
 ·rw(occs:=eO) [J' (gM K),An,l,(zc (l▸C)).1]
  exact h b q K I
theorem mE{i:Int}{y:eP}(Q:ed->AH->Prop)(h:Q (vi i) H):TE c ((eW.d i).u y) V H Q:=yr h
theorem Pm{i:Bool}{y:eP}(Q:ed->AH->Prop)(h:Q (fF i) H):TE c ((eW.I i).u y) V H Q:=Fg h
theorem tj{i:Nat}{y:eP}{u:ed}(O:c.d)(z:c.a.kindOf (eE (nm i))=d9 eu)(g:V (nm i)=d9 u)(Q:ed->AH->Prop)(h:Q u H):TE c ((eW.a i).u y) V H Q:=lw O z g h (ju i)
set_option maxHeartbeats 4000000 in
theorem Qw{k:Nat}(F:c.e=KK P)(O:c.d)(R:Lv c (k+1)){x j:et}{n s p:Int}{Q:ed->AH->Prop}(Z:H x=d9 (.h 93 j))(Y:x≠j)
  (h:∀X q r,H X=eh->eQ H X (.a []) q=eh->eQ (eQ H X (.a [])) q (.a []) r=eh->X≠j->q≠j->r≠j->
   Q ez (eQ (eQ (eQ (eQ H X (.a [])) q (.a [])) r (.a [])) j (.b (fz [vi n,vi s,vi p,ec X,vi 0,vi 0,vi 0,vi 0,vi 0,vi 1,vi 1,vi 0,fF em,vi 0,ec q,ec r])))):
  lM c (ec 55) [ec x,vi n,vi s,vi p] V (eQ H j (.b (fz []))) Q:=by
 refine Bp (n:=Internal.ei "__init__") (q:=Internal.ei "Window.__init__") (E:=(eC (Internal.ei "emacs.windows") 227)) (T:=ez) (s:=54) (u:=fW 9 0) F O R ["self","number","sort","parent"] rfl (by kernel_rfl) (by exact ij λa B d e=>.a (by kernel_rfl)) (by kernel_rfl) rfl λg L m=>?_;generalize C:iM c g L (kS (Internal.ei "Window.__init__") (fD (fW 9 0)) L 55 (ec 54) [])=b at m;have K:b.e=KK P:=by rw[←C];exact F
 have I:∀i,(Aa).lookup i=d9 eu->b.a.kindOf (eE (nm i))=d9 eu:=λi D=>by
  rw[←C];show(fD (fW 9 0)).names.lookup _=_;rw[Tz];exact(mY (A:=Aa) (iC.mp (show(Aa.all λp=>eU (p.1<113))=eb from by decide) · · |> of_decide_eq_true)).trans D
 have A:=I 50 rfl;rw[←VA];refine mW K m A rfl Z Y rfl (by decide) rfl (tj m (I 53 rfl) rfl) ?_;refine mW K m A rfl Z Y rfl (by decide) rfl (tj m (I 54 rfl) rfl) ?_;refine mW K m A rfl Z Y rfl (by decide) rfl (tj m (I 55 rfl) rfl) ?_;refine Ct K m A rfl Z Y rfl (by decide) λX f y w=>?_;have J:=(fw H (.a []) w.symm).trans Z;refine mW K m A rfl J Y rfl (by decide) rfl mE ?_;refine mW K m A rfl J Y rfl (by decide) rfl mE ?_;refine mW K m A rfl J Y rfl (by decide) rfl mE ?_;refine mW K m A rfl J Y rfl (by decide) rfl mE ?_;refine mW K m A rfl J Y rfl (by decide) rfl mE ?_;refine mW K m A rfl J Y rfl (by decide) rfl mE ?_;refine mW K m A rfl J Y rfl (by decide) rfl mE ?_;refine mW K m A rfl J Y rfl (by decide) rfl mE ?_;refine mW K m A rfl J Y rfl (by decide) rfl Pm ?_;refine mW K m A rfl J Y rfl (by decide) rfl mE ?_;refine Ct K m A rfl J Y rfl (by decide) λq l u t=>?_;have o:=(fw (eQ H X (.a [])) (.a []) t.symm).trans J;refine Ct K m A rfl o Y rfl (by decide) λr N v z=>?_;exact qV (h X q r f l N y u v)
noncomputable def je(a:Ad)(n:Int)(x j X V r:et):Ad:={ a with b:=λm=>if m=n then x else a.b m,g:=λm=>if m=n then j else a.g m,a:=λm=>if m=n then X else a.a m,d:=λm=>if m=n then V else a.d m,h:=λm=>if m=n then r else a.h m }
def qk(t:eB)(s p:Int):eB:={ t.f (t.c+1) ⟨s,p,[],0,0,0,0,0,1,1,0,0⟩ with c:=t.c+1,b:=t.b++[t.c+1] }
structure BJ(H:AH)(a:Ad)(t:eB)(s p:Int)(x dx l1 l2 l3:et)(H':AH):Prop where
 c:H' a.i=d9 (.b (jv a { t with c:=t.c+1 }))
 d:H' a.c=d9 (.e ((t.b.map λn=>(n,ec (a.b n)))++[(t.c+1,ec x)]))
 k:H' x=d9 (.h 93 dx)
 j:H' dx=d9 (.b (fz [vi (t.c+1),vi s,vi p,ec l1,vi 0,vi 0,vi 0,vi 0,vi 0,vi 1,vi 1,vi 0,fF em,vi 0,ec l2,ec l3]))
 l:H' l1=d9 (.a [])
 q:H' l2=d9 (.a [])
 r:H' l3=d9 (.a [])
 b:∀y o,H y=d9 o->y≠a.i->y≠a.c->H' y=d9 o
 f:H x=eh
 e:H dx=eh
 h:H l1=eh
 g:H l2=eh
 i:H l3=eh
 u:l1≠l2
 m:l1≠l3
theorem BJ.v{s p:Int}{x j X V r:et}(N:BJ H a t s p x j X V r M)(w:Wd H a t)(J:5≤t.g):fk a t H (je a (t.c+1) x j X V r) (qk t s p) M:=by
 have D:=w.b J;have E:∀{m:Int},t.j m->m≠t.c+1:=λ{m} h e=>by have:=h.2;lia
 have S:∀{m:Int},(qk t s p).j m->t.j m∨m=t.c+1:=λ{m} h=>by
  by_cases e:m=t.c+1
  ·exact eI e
  ·have K:1≤m:=h.1
   have I:m≤t.c+1:=h.2;exact eH ⟨K,by lia⟩
 have C:∀{m:Int},t.j m->(qk t s p).j m:=λ{m} h=>⟨h.1,by show m≤t.c+1;have:=h.2;lia⟩;have Q:∀{y o},H y=d9 o->y≠x∧y≠j∧y≠X∧y≠V∧y≠r:=λ{y o} h=>
  have q:∀{z:et},H z=eh->y≠z:=λ{z} P e=>by rw[e,P] at h;exact nS h
  ⟨q N.f,q N.e,q N.h,q N.g,q N.i⟩
 have k:∀{y o},H y=d9 o->(∀q,o≠.b q∨y≠a.i)->(∀q,o≠.e q)->M y=d9 o:=λ{y o} h K I=>N.b y o h (λe=>(K (jv a t)).elim (λq=>q (by rw[e,D.d] at h;exact(eX h).symm)) λq=>q e) (λe=>I _ (by rw[e,D.c] at h;exact(eX h).symm));have F:∀{m},t.j m->yI M (je a (t.c+1) x j X V r) m ((qk t s p).a m):=λ{m} Y=>by
  have q:=D.b m Y;have e:=E Y;have R:(qk t s p).a m=t.a m:=yn e;have f:(je a (t.c+1) x j X V r).b m=a.b m:=if_neg e;have l:(je a (t.c+1) x j X V r).g m=a.g m:=if_neg e;have a3:(je a (t.c+1) x j X V r).a m=a.a m:=if_neg e;have G:(je a (t.c+1) x j X V r).d m=a.d m:=if_neg e;have i:(je a (t.c+1) x j X V r).h m=a.h m:=if_neg e;have a6:i0 (je a (t.c+1) x j X V r) m (t.a m)=i0 a m (t.a m):=by unfold i0 ng;rw[a3,G,i]
  rw[R];refine⟨by rw[f,l];exact k q.d (λU=>eH λe=>by cases e) (λU e=>by cases e),?_,by rw[a3];exact k q.b (λU=>eH λe=>by cases e) (λU e=>by cases e),by rw[G];exact k q.f (λU=>eH λe=>by cases e) (λU e=>by cases e),by rw[i];exact k q.e (λU=>eH λe=>by cases e) (λU e=>by cases e)⟩;rw[l,a6];exact k q.c (λU=>eI λe=>by have:=q.c;rw[e,D.d] at this;exact Ao (eX this).symm) (λU e=>by cases e)
 have b1:(je a (t.c+1) x j X V r).b (t.c+1)=x:=if_pos rfl;have u:(je a (t.c+1) x j X V r).g (t.c+1)=j:=if_pos rfl;have v:(je a (t.c+1) x j X V r).a (t.c+1)=X:=if_pos rfl;have d:(je a (t.c+1) x j X V r).d (t.c+1)=V:=if_pos rfl;have L:(je a (t.c+1) x j X V r).h (t.c+1)=r:=if_pos rfl;have c:In M (je a (t.c+1) x j X V r) (qk t s p):=by
  refine⟨k D.e (λU=>eH λe=>by cases e) (λU e=>by cases e),N.c,?_,D.h,?_,λn W=>?_,λm Y=>?_,λn m W Y=>?_,λn W=>?_⟩
  ·rw[show(je a (t.c+1) x j X V r).c=a.c from rfl,N.d]
   show _=d9 (AO.e ((t.b++[t.c+1]).map _));rw[lb]
   congr 3
   ·exact kh λn W=>by rw[show(je a (t.c+1) x j X V r).b n=a.b n from if_neg (E (D.f n W))]
   ·show[(t.c+1,ec x)]=[(t.c+1,ec ((je a (t.c+1) x j X V r).b (t.c+1)))]
    rw[b1]
  ·show(t.b++[t.c+1]).Nodup∧0≤t.c+1
   rw(occs:=eO) [qE];refine⟨⟨D.g.1,by simp,λn W m Y e=>E (D.f n W) (e.trans (gR.mp Y))⟩,?_⟩;have:=D.g.2;lia
  ·rcases lc.mp (show n∈t.b++[t.c+1] from W) with h|h
   ·exact C (D.f n h)
   ·rw[gR.mp h]
    exact⟨by have:=D.g.2;lia,ja _⟩
  ·rcases S Y with h|rfl
   ·exact F h
   ·refine⟨by rw[b1,u];exact N.k,?_,?_,by rw[d];exact N.q,by rw[L];exact N.r⟩
    ·rw[u,N.j,show(qk t s p).a (t.c+1)=_ from vd]
     unfold i0 ng;rw[v,d,L];rfl
    ·rw[v,N.l,show(qk t s p).a (t.c+1)=_ from vd];rfl
  ·have Z:∀{m},t.j m->(je a (t.c+1) x j X V r).a m=a.a m:=λ{m} h=>if_neg (E h)
   have B:∀{m},t.j m->(je a (t.c+1) x j X V r).d m=a.d m:=λ{m} h=>if_neg (E h);have b:∀{m},t.j m->(je a (t.c+1) x j X V r).h m=a.h m:=λ{m} h=>if_neg (E h);rcases S W with h|rfl<;>rcases S Y with g|rfl
   ·rw[Z h,Z g,B g,b g];exact D.j n m h g
   ·rw[Z h,v,d,L]
    have q:=Q (D.b n h).b;exact⟨λU=>q.2.2.1,q.2.2.2.1,q.2.2.2.2⟩
   ·rw[Z g,B g,b g,v]
    exact⟨λU=>(Q (D.b m g).b).2.2.1.symm,(Q (D.b m g).f).2.2.1.symm,(Q (D.b m g).e).2.2.1.symm⟩
   ·rw[v,d,L]
    exact⟨λq=>absurd rfl q,N.u,N.m⟩
  ·rcases S W with h|rfl
   ·rw[show(je a (t.c+1) x j X V r).a n=a.a n from if_neg (E h),show(je a (t.c+1) x j X V r).d n=a.d n from if_neg (E h),show(je a (t.c+1) x j X V r).h n=a.h n from if_neg (E h)]
    exact D.i n h
   ·rw[v,d,L]
    have q:=Q w.c;exact⟨q.2.2.1.symm,(Q w.d).2.2.1.symm,q.2.2.2.1.symm,q.2.2.2.2.symm⟩
 have A:∀y,jB (je a (t.c+1) x j X V r) (qk t s p) y->jB a t y∨H y=none:=by
  rintro y (h|⟨_,h|h|⟨m,Y,h⟩⟩)
  ·exact eH (eH h)
  ·exact eH (eI ⟨J,eH h⟩)
  ·exact eH (eI ⟨J,eI (eH h)⟩)
  ·rcases S Y with g|rfl
   ·rw[show(je a (t.c+1) x j X V r).g m=a.g m from if_neg (E g),show(je a (t.c+1) x j X V r).a m=a.a m from if_neg (E g)] at h
    exact eH (eI ⟨J,eI (eI (ey m g h))⟩)
   ·rw[u,v] at h
    exact eI (h.elim (λe=>e▸N.e) λe=>e▸N.h)
 refine⟨⟨k w.c (λU=>eH λe=>by cases e) (λU e=>by cases e),k w.d (λU=>eH λe=>by cases e) (λU e=>by cases e),w.e,λU=>c⟩,λy o h hf=>N.b y o h (λe=>hf (eI ⟨J,eH e⟩)) λe=>hf (eI ⟨J,eI (eH e)⟩),λy o h=>?_,A,?_,rfl,rfl,rfl,λU=>⟨J,rfl,rfl,by show t.c≤t.c+1;lia,λn W=>if_neg (E W),ig _,λU n W=>if_neg (E W)⟩⟩
 ·by_cases R:y=a.i
  ·exact⟨_,R▸N.c⟩
  ·by_cases O:y=a.c
   ·exact⟨_,O▸N.d⟩
   ·exact⟨o,N.b y o h R O⟩
 ·rintro y (h|h|⟨_,h|⟨m,Y,h⟩⟩)
  ·exact(A y h).imp eH id
  ·exact eH (eI (eH h))
  ·exact eH (eI (eI ⟨J,eH h⟩))
  ·rcases S Y with g|rfl
   ·rw[show(je a (t.c+1) x j X V r).b m=a.b m from if_neg (E g),show(je a (t.c+1) x j X V r).d m=a.d m from if_neg (E g),show(je a (t.c+1) x j X V r).h m=a.h m from if_neg (E g)] at h
    exact eH (eI (eI ⟨J,eI (ey m g h)⟩))
   ·rw[b1,d,L] at h
    exact eI (h.elim (λe=>e▸N.f) λh=>h.elim (λe=>e▸N.g) λe=>e▸N.i)
end
section
variable{c:Cx}{V:eJ}{H M:AH}{P:iE}{D:Bool}{Y:gZ}{B:AH}{F:Fr}{a w:Ad}{t O I:eB}
theorem HD(J:5≤t.g):(jv a t).lookup (gf 17)=d9 (vi t.c):=Au qj.2 (Ck (by decide) (by decide)) (by
 rw[AG (by lia)];rfl)
theorem QS(J:5≤t.g):kW (gf 17) (vi (t.c+1)) (jv a t)=jv a { t with c:=t.c+1 }:=by
 unfold jv;rw[Aw (x:=gf 17) (f:=1) qj.2 (Ck (f:=17) (by decide) (by decide)) (by rw[xB];show 1<min t.g 7;lia),←List.take_set];rfl
theorem Lv.h{k:Nat}(R:Lv c (k+1)){C:et}{i:List ed}:Lv (Internal.cA c C i) k:=by
 have K:Xk (uP "type.__call__" ⟨ec C::i,[]⟩)=1:=by kernel_rfl
 have I:KY (uP "type.__call__" ⟨ec C::i,[]⟩)≤10:=by
  have:KY (uP "type.__call__" ⟨ec C::i,[]⟩)=1:=by kernel_rfl
  lia
 refine⟨?_,?_⟩
 ·show c.b.depth+Xk (uP "type.__call__" ⟨ec C::i,[]⟩)+k≤900
  have:=R.b;lia
 ·show c.b.units+KY (uP "type.__call__" ⟨ec C::i,[]⟩)+10*k+1000≤9900
  have:=R.a;lia
theorem xo:makesIn (KK P) 93=eb∧rL (KK P) (ec 93) "__init__"=d9 (d9 (ec 55))∧typeIn (KK P) (ec 55)=d9 (eK "function")∧tG (KK P) (ec 93)=eb∧jg (KK P) j4 (eE (nm 46))=d9 (d9 (ec 93)):=⟨by kernel_rfl,by kernel_rfl,by kernel_rfl,by kernel_rfl,by kernel_rfl⟩
theorem ql:FB P:=by
 intro c hK ak lv hh aq t v O h a V H us Q w N hq;refine gm h λhl ae=>?_;refine oy hl.1 λv0 aJ e3 l=>?_;refine oy l λW r1 d l=>?_;refine oy l λv2 r2 e5 l=>?_;have e3:aq=[v0,W,v2]:=by rw[e3,d,e5,oN.mp l]
 have av:=hl.2;clear hl l d e5;clear h;subst e3;refine gm ae λh0 F=>?_;refine fy (o:=W.l) F λs R F=>?_;refine ie (o:=v2.l) F λp e2 F=>?_;rw[Al h0,jT R,jT e2] at N;clear h0 R e2;clear ae;cases F
 (refine fT N λu1 r1 R g2 K=>?_;refine fT K λu2 r2 e3 I g6=>?_;refine fT g6 λu3 r3 d h3 h4=>?_;(clear N;obtain rfl:=R);refine fe g2 λe7 J=>?_;(clear g2;obtain rfl:=e7);(clear K;obtain rfl:=e3);(clear g6;obtain rfl:=d))
 cases(show r3=[] from h4);rw[show u2=vi s from I,show u3=vi p from h3];have D:=w.b J;refine Fb (d:=⟨λU U U=>eh,eb⟩) (g:=1028) (M:=[50,54,55]) (w:=[.b .c,eD.a s,eD.a p]) (n:=Internal.ei "fresh") (q:=Internal.ei "WindowTree.fresh") (E:=(eC (Internal.ei "emacs.windows") 227)) (T:=ez) (s:=118) (u:=fW 10 1) Jn (k:=3)
  (λU U U U U U U U U U F=>nomatch F) hK ak lv (λU=>hh) rfl (by kernel_rfl) (by exact ij λa aG aH=>.a (by kernel_rfl)) (by kernel_rfl) Tt (by kernel_rfl) rfl (.a hh) (fS _ _ rfl ⟨rfl,J⟩ (fS _ _ rfl rfl (fS _ _ rfl rfl rfl))) λb S fr aD U=>?_
 have m:=S.a;have aA:=S.e 50 _ rfl;have aB:=S.e 54 _ rfl;have aC:=S.e 55 _ rfl;have ac:=S.e 65 _ rfl;have az:=S.e 46 _ rfl;have M:∀{V:eJ} {H:AH} {pp:fE} {Q:ed->AH->Prop},V (nm 50)=d9 (ec a.e)->Q (ec a.e) H->TE b (gk (eE (nm 50)) pp) V H Q:=λh1 I=>lw m aA h1 I (ju 50);rw[←Vu]
 --M.last=M.last+1
 refine kJ (pY (Ff (qR m (λU U U=>rfl) (M rfl ⟨_,164,_,_,_,rfl,D.e,D.d,(HD J),((qg S.b (by decide)).1),rfl,(yr (Fs (M rfl (ey _ rfl (pZ m D.e D.d (qg S.b (by decide)).2 ?_ ?_)))))⟩))) rfl)
 ·unfold jv;rw[kZ];exact AP (AS _ _) (by decide)
 rw[QS J];have nt:a.e≠a.i:=oB D.e D.d λe=>by cases e
 have E:eQ H a.i (.b (jv a { t with c:=t.c+1 })) a.e=d9 (.h 164 a.i):=(fw _ _ nt).trans D.e;have t2:=gA H a.i (.b (jv a { t with c:=t.c+1 }));have ll:∀{t:eB},5≤t.g->(jv a t).lookup (gf 17)=d9 (vi t.c):=HD
 --au=aF(M.last,aK,aI)
 refine kJ (tP (tT (f:=ec 93) m rfl (tU (v:=ec 93) S.b m az xo.2.2.2.2 ⟨rfl,rfl,λaL hu=>gX hu,vc (S.b▸xo.2.2.2.1),jk (qR m (λU U U=>rfl) (M rfl ⟨_,164,_,_,_,rfl,E,t2,(ll J),((qg S.b (by decide)).1),rfl,(jk (lw m aB (v:=vi s) rfl (jk (lw m aC (v:=vi p) rfl (kC ?_) (ju 55)) λU=>rfl) (ju 54)) λU=>rfl)⟩)) λU=>rfl⟩ (ju 46))) rfl);refine E7 m (S.b▸xo.1) (S.b▸xo.2.1) (S.b▸xo.2.2.1) λx j aE hx g Y=>?_;rw[J' (gM Y)];refine Qw (c:=cA b 93 aE) (k:=1) S.b m.l aD.h (gA _ _ _) Y λX l2 r f1 f2 f3 n1 f n3=>⟨rfl,oU m ac ?_⟩;have i:∀{H:AH} {y z:et} {o:AO},eQ H y o z=eh->z≠y∧H z=none:=λ{H y z o} F=>by
  by_cases e:z=y
  ·rw[e,gA] at F;exact iX F
  ·rw[fw _ _ e] at F;exact⟨e,F⟩
 refine fe (i f1) λm1 g1=>?_;refine fe (i f2) λm2 g2=>?_;refine fe (i g2) λm3 g2=>?_;refine fe (i f3) λm4 A=>?_;refine fe (i A) λm5 A=>?_;refine fe (i A) λm6 A=>?_;generalize aa:eQ H a.i (.b (jv a { t with c:=t.c+1 }))=Z at*;have k:∀y o,Z y=d9 o->eQ (eQ (eQ (eQ (eQ Z x (.h 93 j)) X (.a [])) l2 (.a [])) r (.a [])) j (.b (fz [vi (t.c+1),vi s,vi p,ec X,vi 0,vi 0,vi 0,vi 0,vi 0,vi 1,vi 1,vi 0,fF em,vi 0,ec l2,ec r])) y=d9 o:=λy o B=>by
  have q:∀{z:et},Z z=eh->y≠z:=λ{z} hz e=>by rw[e,hz] at B;exact nS B
  rw[fw _ _ (q g),fw _ _ (q A),fw _ _ (q g2),fw _ _ (q g1),fw _ _ (q hx)];exact B
 have d0:Z a.c=d9 (.e (t.b.map λn=>(n,ec (a.b n)))):=by rw[←aa,fw _ _ (oB D.c D.d λe=>by cases e)];exact D.c
 have o1:eQ (eQ (eQ (eQ (eQ Z x (.h 93 j)) X (.a [])) l2 (.a [])) r (.a [])) j (.b (fz [vi (t.c+1),vi s,vi p,ec X,vi 0,vi 0,vi 0,vi 0,vi 0,vi 1,vi 1,vi 0,fF em,vi 0,ec l2,ec r])) x=d9 (.h 93 j):=by
  rw[fw _ _ Y,fw _ _ (gM m6),fw _ _ (gM m3),fw _ _ (gM m1)];exact gA _ _ _
 have o2:eQ (eQ (eQ (eQ (eQ Z x (.h 93 j)) X (.a [])) l2 (.a [])) r (.a [])) j (.b (fz [vi (t.c+1),vi s,vi p,ec X,vi 0,vi 0,vi 0,vi 0,vi 0,vi 1,vi 1,vi 0,fF em,vi 0,ec l2,ec r])) X=d9 (.a []):=by
  rw[fw _ _ n1,fw _ _ (gM m5),fw _ _ (gM m2)];exact gA _ _ _
 have o3:eQ (eQ (eQ (eQ (eQ Z x (.h 93 j)) X (.a [])) l2 (.a [])) r (.a [])) j (.b (fz [vi (t.c+1),vi s,vi p,ec X,vi 0,vi 0,vi 0,vi 0,vi 0,vi 1,vi 1,vi 0,fF em,vi 0,ec l2,ec r])) l2=d9 (.a []):=by
  rw[fw _ _ f,fw _ _ (gM m4)];exact gA _ _ _
 have o4:eQ (eQ (eQ (eQ (eQ Z x (.h 93 j)) X (.a [])) l2 (.a [])) r (.a [])) j (.b (fz [vi (t.c+1),vi s,vi p,ec X,vi 0,vi 0,vi 0,vi 0,vi 0,vi 1,vi 1,vi 0,fF em,vi 0,ec l2,ec r])) r=d9 (.a []):=by
  rw[fw _ _ n3];exact gA _ _ _
 have o5:=gA (eQ (eQ (eQ (eQ Z x (.h 93 j)) X (.a [])) l2 (.a [])) r (.a [])) j (.b (fz [vi (t.c+1),vi s,vi p,ec X,vi 0,vi 0,vi 0,vi 0,vi 0,vi 1,vi 1,vi 0,fF em,vi 0,ec l2,ec r]));generalize eQ (eQ (eQ (eQ (eQ Z x (.h 93 j)) X (.a [])) l2 (.a [])) r (.a [])) j (.b (fz [vi (t.c+1),vi s,vi p,ec X,vi 0,vi 0,vi 0,vi 0,vi 0,vi 1,vi 1,vi 0,fF em,vi 0,ec l2,ec r]))=L at*;have af:ic (iR (pJ nm [50,54,55]) [ec a.e,vi s,vi p]) (nm 65) (ec x) (nm 50)=d9 (ec a.e):=rfl;have ag:ic (iR (pJ nm [50,54,55]) [ec a.e,vi s,vi p]) (nm 65) (ec x) (nm 65)=d9 (ec x):=wF;generalize ic (iR (pJ nm [50,54,55]) [ec a.e,vi s,vi p]) (nm 65) (ec x)=aM at*
 --M.windows[M.last]=au
 refine kJ (E1 (lw m ac ag (qR (a:="windows") m (λU U U=>rfl) (M af ⟨_,164,_,_,(ec a.c),rfl,(k _ _ E),(k _ _ t2),?_,((qg (f:=16) S.b (by decide)).1),rfl,(qR (a:=gf 17) m (λU U U=>rfl) (M af ⟨_,164,_,_,_,rfl,(k _ _ E),(k _ _ t2),(ll J),((qg S.b (by decide)).1),rfl,?_⟩))⟩)) (ju 65)) rfl)
 ·exact Au (f:=0) qj.2 rfl (by rw[AG (show 0<t.g by lia)];rfl)
 refine IR (k _ _ d0) (by rw[fC];exact av) ?_;have aw:qx (t.b.map λn=>(n,ec (a.b n))) (t.c+1) (ec x)=(t.b.map λn=>(n,ec (a.b n)))++[(t.c+1,ec x)]:=by
  unfold qx x9;rw(occs:=eO) [if_neg];rw(occs:=eO) [Wv,AF];rintro⟨n,hn,e⟩;have:=(D.f n hn).2;simp at e;lia
 rw[aw];refine kJ (yp (lw m ac ag ?_ (ju 65)));have C:∀{y:et},Z y=eh->H y=eh∧y≠a.i:=λ{y} F=>by
  rw[←aa] at F;exact(i F).symm
 have G:∀{y:et} {o:AO},L y=d9 o->Z y=eh->eQ L a.c (.e ((t.b.map λn=>(n,ec (a.b n)))++[(t.c+1,ec x)])) y=d9 o:=λ{y o} F u=>by
  rw[fw _ _ λe=>by rw[e,d0] at u;exact iX u];exact F
 have aj:BJ H a t s p x j X l2 r (eQ L a.c (.e ((t.b.map λn=>(n,ec (a.b n)))++[(t.c+1,ec x)]))):=by
  refine⟨?_,gA _ _ _,G o1 hx,G o5 g,G o2 g1,G o3 g2,G o4 A,λy o B R e2=>?_,(C hx).1,(C g).1,(C g1).1,(C g2).1,(C A).1,gM m2,gM m5⟩
  ·rw[fw _ _ (oB D.d D.c λe=>by cases e)];exact k _ _ t2
  ·rw[fw _ _ e2]
   exact k y o (by rw[←aa,fw _ _ R];exact B)
 have st:=aj.v w J;exact hq _ _ _ st ⟨congrArg ec (if_pos rfl).symm,J,by have:=D.g.2;lia,ja _⟩ nofun
end
section
variable{d:ir}{t E S C:eB}{F K H:Fr}{i j:Nat}{e R O:eW}{v u w:eD}
abbrev dd(Q:Bool)(k:Nat):ir:=⟨gF Q k,Q⟩
noncomputable def gP:Option (Fl×eB×Fr)->Option (eD×eB)
 |some (.b v,t,_)=>d9 (v,t)
 |some (.a,t,_)=>d9 (.b .e,t)
 |none=>eh
theorem iB{Q:Bool}{k g:Nat}{M:List Nat}{b:Ss}{w:List eD}(l:g≠1028)(j:B5 g=d9 (M,b))(C:M.length=w.length):
  gF Q (k+1) g w t=gP (b.c (dd Q k) t (fh M (w.map eD.e))):=by
 show(if g=1028 then _ else _)=_;rw[if_neg l,j];show(if M.length=w.length then _ else _)=_;rw[if_pos C];cases b.c (dd Q k) t (fh M (w.map eD.e)) with
 |none=>rfl
 |some r=>obtain⟨f,O,F⟩ :=r;cases f<;>rfl
noncomputable abbrev eF(X:List Int):List eT:=X.map .a
theorem nQ:∀X:List Int,l6 (eF X)=d9 X:=by
 intro N
 induction N with
 |nil=>
  exact rfl
 |cons n r D=>
  show(l6 (eF r)).map (n::·)=_;rw[D];rfl
theorem sN{o:Bool}{X:List Int}:jC t (.c o (eF X))=d9 X:=nQ X
abbrev Ev(d:ir)(t:eB)(F:Fr)(e:eW)(v:eD)(O:eB):Prop:=e.q d t F=d9 (v,O)
theorem fg(h:F i=d9 v):Ev d t F (.a i) v.e t:=by show(F i).map _=_;rw[h];rfl
theorem gv{f:Nat}(h:Ev d t F e v E)(g:qm E f v=d9 u):Ev d t F (.c e f) u E:=by
 show(e.q d t F).bind _=_;rw[h];show(qm E f v).map _=_;rw[g];rfl
theorem jh(K:Ev d t F R v E)(I:Ev d E F O u S)(g:m9 S v u=d9 w):Ev d t F (.n R O) w S:=by
 show(R.q d t F).bind _=_;rw[K];show(O.q d E F).bind _=_;rw[I];show(m9 S v u).map _=_;rw[g];rfl
theorem Bc{z:List eT}(h:Ev d t F e v E)(g:ia E v=d9 z)(C:z.length≤100000):Ev d t F (.H e) (.c eb z.reverse) E:=by
 show(e.q d t F).bind _=_;rw[h];show(ia E v).bind _=_;rw[g];show(if _ then _ else _)=_;rw[if_pos C]
theorem hZ{o:qI}(K:Ev d t F R v E)(I:Ev d E F O u S)(g:rl o v u=d9 w):Ev d t F (.p o R O) w S:=by
 show(R.q d t F).bind _=_;rw[K];show(O.q d E F).bind _=_;rw[I];show(rl o v u).map _=_;rw[g];rfl
theorem gG{o:oP}{b:Bool}(K:Ev d t F R v E)(I:Ev d E F O u S)(g:mU S o v u=d9 b):Ev d t F (.h o R O) (.d b) S:=by
 show(R.q d t F).bind _=_;rw[K];show(O.q d E F).bind _=_;rw[I];show(mU S o v u).map _=_;rw[g];rfl
theorem yf{b:Bool}(h:Ev d t F e (.d b) E):Ev d t F (.M e) (.d (!b)) E:=by
 show(e.q d t F).bind _=_;rw[h];rfl
theorem lU{q x y:eW}(h:Ev d t F q (.d eb) E)(g:Ev d E F x v S):Ev d t F (.C q x y) v S:=by
 show(q.q d t F).bind _=_;rw[h];exact g
theorem lT{q x y:eW}(h:Ev d t F q (.d em) E)(g:Ev d E F y v S):Ev d t F (.C q x y) v S:=by
 show(q.q d t F).bind _=_;rw[h];exact g
abbrev lW(d:ir)(t:eB)(F:Fr)(w:Es)(J:List eD)(O:eB):Prop:=w.d d t F=d9 (J,O)
theorem eV{w:Es}{J:List eD}(h:Ev d t F e v E)(g:lW d E F w J S):lW d t F (.a e w) (v::J) S:=by
 show(e.q d t F).bind _=_;rw[h];show(w.d d E F).map _=_;rw[g];rfl
theorem fJ:lW d t F .b [] t:=rfl
theorem qN{w:Es}{J:List eD}{as:List eT}(h:lW d t F w J E)(g:rf J=d9 as)(C:as.length≤100000):Ev d t F (.z w) (.c eb as) E:=by
 show(w.d d t F).bind _=_;rw[h];show(rf J).bind _=_;rw[g];show(if _ then _ else _)=_;rw[if_pos C]
theorem ki{w:Es}{J:List eD}{as:List eT}(h:lW d t F w J E)(g:rf J=d9 as)(C:as.length≤100000):Ev d t F (.A w) (.b (.f as)) E:=by
 show(w.d d t F).bind _=_;rw[h];show(rf J).bind _=_;rw[g];show(if _ then _ else _)=_;rw[if_pos C]
theorem gI{w:Es}{g:Nat}{J:List eD}(h:lW d t F w J E)(q:d.b g (J.map eD.e) E=d9 (v,S)):Ev d t F (.j g w) v S:=by
 show(w.d d t F).bind _=_;rw[h];exact q
theorem iL{w:Es}{m:Nat}{J:List eD}(h:Ev d t F e u E)(I:lW d E F w J S)(Y:zE m u=eb)(q:d.b (1000+m) (u::J.map eD.e) S=d9 (v,C)):Ev d t F (.v e m w) v C:=by
 show(e.q d t F).bind _=_;rw[h];show(w.d d E F).bind _=_;rw[I];show(if _ then _ else _)=_;rw[if_pos Y];exact q
theorem jN{g:Nat}(h:Ev d t F e v E)(q:o7 d.a E g v=d9 u):Ev d t F (.w g e) u E:=by
 show(e.q d t F).bind _=_;rw[h];show(o7 d.a E g v).map _=_;rw[q];rfl
abbrev Ex(d:ir)(t:eB)(F:Fr)(s:js)(f:Fl)(O:eB)(A:Fr):Prop:=s.G d t F=d9 (f,O,A)
abbrev f7(d:ir)(t:eB)(F:Fr)(s:Ss)(f:Fl)(O:eB)(A:Fr):Prop:=s.c d t F=d9 (f,O,A)
variable{s:js}{r:Ss}{f:Fl}
theorem eG(h:Ex d t F s .a E K)(g:f7 d E K r f S H):f7 d t F (.a s r) f S H:=by
 show(s.G d t F).bind _=_;rw[h];exact g
theorem iq(h:Ex d t F s (.b v) E K):f7 d t F (.a s r) (.b v) E K:=by
 show(s.G d t F).bind _=_;rw[h];rfl
theorem fp:f7 d t F .b .a t F:=rfl
theorem fO(h:Ev d t F e v E)(N:v.s=em):Ex d t F (.a i e) .a E (eL F i v):=by
 show(e.q d t F).map _=_;rw[h];show d9 (Fl.a,E,oJ F i v)=_;unfold oJ;rw[N];rfl
theorem i7(h:Ev d t F e v E)(N:zQ v=eb):Ex d t F (.g e) (.b v) E F:=by
 show(e.q d t F).bind _=_;rw[h];show(if _ then _ else _)=_;rw[if_pos N]
theorem yh(h:F i=d9 v)(N:zQ v=eb):Ex d t F (.r i) (.b v) t F:=by
 show(F i).bind _=_;rw[h];show(if _ then _ else _)=_;rw[if_pos N]
theorem j5(h:Ev d t F e v E):Ex d t F (.h e) .a E F:=by show(e.q d t F).map _=_;rw[h];rfl
theorem jj{q:eW}{x y:Ss}(h:Ev d t F q (.d eb) E)(g:f7 d E F x f S H):Ex d t F (.c q x y) f S H:=by
 show(q.q d t F).bind _=_;rw[h];exact g
theorem gU{q:eW}{x y:Ss}(h:Ev d t F q (.d em) E)(g:f7 d E F y f S H):Ex d t F (.c q x y) f S H:=by
 show(q.q d t F).bind _=_;rw[h];exact g
theorem qu{z:List eT}(h:F i=d9 (.c eb z)):jE F i=d9 z:=by unfold jE;rw[h];rfl
theorem qO{z:List eT}{y:eT}(h:Ev d t F e (.b y) E)(Z:F i=d9 (.c eb z))(C:z.length≤100000):Ex d t F (.m i e) .a E (eL F i (.c eb (z++[y]))):=by
 show(e.q d t F).bind _=_;rw[h];show(jE F i).bind _=_;rw[qu Z];show(if _ then _ else _)=_;rw[if_pos C]
theorem Bf{z l:List eT}(h:Ev d t F e v E)(Z:F i=d9 (.c eb z))(B:ia E v=d9 l)(C:z.length+l.length≤100000):Ex d t F (.u i e) .a E (eL F i (.c eb (z++l))):=by
 show(e.q d t F).bind _=_;rw[h];show(jE F i).bind _=_;rw[qu Z];show(ia E v).bind _=_;rw[B];show(if _ then _ else _)=_;rw[if_pos C]
theorem J4(h:F i=d9 (.b .c)):uD F i=true:=by unfold uD;rw[h];rfl
theorem Be{k:Nat}{X:List Int}{n:Int}(Z:F k=d9 (.c eb (eF (X++[n]))))(z:F j=d9 (.b .c))(W:n∈t.b)(C:X.length<100000):Ex d t F (.z i j k) .a t (eL (eL F k (.c eb (eF X))) i (.b (.d n))):=by
 have e:eF (X++[n])=eF X++[.a n]:=lb;show(jE F k).bind _=_;rw[qu Z,e];show((eF X++[eT.a n]).getLast?).bind _=_;rw[WG];show(if _ then _ else _)=_;rw[if_pos ⟨J4 z,W,by rw[il,fC];exact C⟩,Kt]
theorem Dw{j:eB->Fr->Option (eD×eB)}{B:eB->Fr->Option (Fl×eB×Fr)}{n:Nat}(h:j t F=d9 (.d em,E)):mj j B (n+1) t F=d9 (.a,E,F):=by
 show(j t F).bind _=_;rw[h];rfl
theorem Dx{j:eB->Fr->Option (eD×eB)}{B:eB->Fr->Option (Fl×eB×Fr)}{n:Nat}(h:j t F=d9 (.d eb,E))(g:B E F=d9 (.a,S,H)):mj j B (n+1) t F=mj j B n S H:=by
 show(j t F).bind _=_;rw[h];show(B E F).bind _=_;rw[g];rfl
end
section
variable{d:ir}{t I E S C O:eB}{F Y K H:Fr}{i j:Nat}{e P V X:eW}{v u w:eD}{T L:Int->Nat}{Q:Bool}{J:List eD}{z A D G y:Int->Int}{a b p q r g n c o x s:Int}{R:List Int}
structure Sh(t:eB)(rk:Int->Nat):Prop where
 d:∀n∈t.b,∀c∈(t.a n).a,c∈t.b∧rk c<rk n
noncomputable def ta(t:eB):Nat->Int->List Int
 |0,n=>[n]
 |k+1,n=>n::(t.a n).a.flatMap (ta t k)
def PP(t:eB)(a:Int->Nat)(n:Int):List Int:=ta t (a n+1) n
theorem GY{L j:Type}{l:List L}{f g:L->List j}(h:∀x∈l,f x=g x):l.flatMap f=l.flatMap g:=by
 induction l with
 |nil=>rfl
 |cons x r D=>rw[kY,kY,h x (gp ..),D λy B=>h y (gC _ B)]
theorem ST(h:Sh t T):∀k Z n,n∈t.b->T n<k->T n<Z->ta t k n=ta t Z n:=by
 intro k
 induction k with
 |zero=>intro Z n U q U;exact absurd q (pK _)
 |succ k D=>
  intro Z n W q L;cases Z with
  |zero=>exact absurd L (pK _)
  |succ Z=>
   show n::_=n::_;rw[GY λc X=>D Z c (h.d n W c X).1 (by have:=(h.d n W c X).2;lia) (by have:=(h.d n W c X).2;lia)]
theorem lx(h:Sh t T){n:Int}(W:n∈t.b):PP t T n=n::(t.a n).a.flatMap (PP t T):=by
 show n::_=n::_;rw[GY λc X=>ST h (T n) (T c+1) c (h.d n W c X).1 (h.d n W c X).2 (uK _)];rfl
theorem Sh.M(h:Sh t T){P:Int->Prop}(u:∀n∈t.b,(∀c∈(t.a n).a,P c)->P n){n:Int}(W:n∈t.b):P n:=by
 have:∀k n,n∈t.b->T n<k->P n:=by
  intro k
  induction k with
  |zero=>intro n _ q;exact absurd q (pK _)
  |succ k D=>exactλn W q=>u n W λc X=>D c (h.d n W c X).1 (by have:=(h.d n W c X).2;lia)
 exact this (T n+1) n W (uK _)
theorem lY(h:Sh t T){n:Int}(W:n∈t.b):n∈PP t T n:=by rw[lx h W];exact gp ..
theorem j7(h:Sh t T){n:Int}(W:n∈t.b):∀m∈PP t T n,m∈t.b:=by
 refine h.M (P:=λn=>∀m∈PP t T n,m∈t.b) ?_ W;intro n W D m Y;rw[lx h W] at Y;rcases gy.1 Y with e|Y
 ·rw[e];exact W
 ·refine rA Y λc X Y=>?_
  exact D c X m Y
theorem tZ(h:Sh t T){n:Int}(W:n∈t.b):∀m∈PP t T n,m=n∨T m<T n:=by
 refine h.M (P:=λn=>∀m∈PP t T n,m=n∨T m<T n) ?_ W;intro n W D m Y;rw[lx h W] at Y;rcases gy.1 Y with e|Y
 ·exact eH e
 ·refine rA Y λc X Y=>?_
  have:=(h.d n W c X).2;rcases D c X m Y with e|q
  ·exact eI (e▸this)
  ·exact eI (by lia)
theorem BL(h:Sh t T){n m:Int}(W:n∈t.b)(Y:m∈PP t T n):∀c∈PP t T m,c∈PP t T n:=by
 revert m;refine h.M (P:=λn=>∀{m},m∈PP t T n->∀c∈PP t T m,c∈PP t T n) ?_ W;intro n W D m Y c X;rw[lx h W] at Y;rcases gy.1 Y with e|Y
 ·rw[←e];exact X
 ·refine rA Y λb C Y=>?_
  rw[lx h W];exact gC _ (qD.2 (ey b C (D b C Y c X)))
theorem p8(h:Sh t T){n m c:Int}(W:n∈t.b)(Y:m∈PP t T n)(X:c∈(t.a m).a):c∈PP t T n:=by
 have O:=j7 h W m Y;refine BL h W Y c ?_;rw[lx h O];exact gC _ (qD.2 (ey c X (lY h (h.d m O c X).1)))
theorem FI(t:eB)(T)(n:Int):0<(PP t T n).length:=Nat.zero_lt_succ _
structure Un(t:eB)(rk:Int->Nat):Prop extends e:Sh t rk where
 k:∀n∈t.b,∀c∈(t.a n).a,(t.a c).c=n
 m:∀n∈t.b,(t.a n).a.Nodup
theorem vn(h:Un t T){n m:Int}(W:n∈t.b)(Y:m∈PP t T n):m=n∨((t.a m).c∈PP t T n∧m∈(t.a (t.a m).c).a):=by
 revert m;refine h.e.M (P:=λn=>∀{m},m∈PP t T n->m=n∨((t.a m).c∈PP t T n∧m∈(t.a (t.a m).c).a)) ?_ W;intro n W D m Y;have A:=Y;rw[lx h.e W] at Y;rcases gy.1 Y with e|Y
 ·exact eH e
 ·refine rA Y λc X Y=>?_
  refine eI ?_;rcases D c X Y with e|⟨q,L⟩
  ·rw[e,h.k n W c X];exact⟨lY h.e W,X⟩
  ·refine⟨?_,L⟩
   rw[lx h.e W];exact gC _ (qD.2 (ey c X q))
theorem OL(h:Un t T){a b m:Int}(M:a∈t.b)(j:b∈t.b)(L:m∈PP t T a)(N:m∈PP t T b):a∈PP t T b∨b∈PP t T a:=by
 --by induction w O R m c o
 have g:∀k m,m∈PP t T a->m∈PP t T b->(T a+T b)-T m<k->a∈PP t T b∨b∈PP t T a:=by
  intro k
  induction k with
  |zero=>intro _ _ _ q;exact absurd q (pK _)
  |succ k D=>
   intro m L N q;rcases vn h M L with e|⟨z,Y⟩
   ·exact eH (e▸N)
   rcases vn h j N with e|⟨C,_⟩
   ·exact eI (e▸L)
   have J:=j7 h.e M _ z;have l:=(h.d _ J m Y).2;refine D _ z C ?_;have Z:=tZ h.e M _ z;have:T (t.a m).c≤T a:=by
    rcases Z with e|Z
    ·rw[e];exact ig _
    ·lia
   lia
 exact g _ m L N (uK _)
theorem yE(h:Un t T){n a b:Int}(W:n∈t.b)(M:a∈(t.a n).a)(j:b∈(t.a n).a)(Z:a≠b):∀m,m∈PP t T a->m∉PP t T b:=by
 intro m L N;have J:=h.d n W a M;have C:=h.d n W b j;have g:∀a b,a∈(t.a n).a->b∈(t.a n).a->a≠b->a∉PP t T b:=by
  intro a b M j Z Y;have C:=h.d n W b j;rcases vn h C.1 Y with e|⟨q,_⟩
  ·exact Z e
  ·rw[h.k n W a M] at q
   rcases tZ h.e C.1 _ q with e|q
   ·rw[e] at C;exact absurd C.2 (lg _)
   ·lia
 rcases OL h J.1 C.1 L N with q|q
 ·exact g a b M j Z q
 ·exact g b a j M (gM Z) q
theorem BK(h:Un t T){n:Int}(W:n∈t.b):(PP t T n).Nodup:=by
 refine h.e.M (P:=λn=>(PP t T n).Nodup) ?_ W;intro n W D;rw(occs:=eO) [lx h.e W,kG];refine⟨?_,?_⟩
 ·intro Y
  refine rA Y λc X Y=>?_;have:=(h.d n W c X).2;rcases tZ h.e (h.d n W c X).1 _ Y with e|q
  ·rw[e] at this;exact absurd this (lg _)
  ·lia
 ·have G:=h.m n W
  have L:=λa M b j=>yE h (a:=a) (b:=b) W M j;revert G D L;generalize (t.a n).a=l;intro D G L
  induction l with
  |nil=>exact og
  |cons c r I=>
   rw(occs:=eO) [kY,qE];rw[kG] at G;refine⟨D c (gp ..),I (λx Z=>D x (gC _ Z)) G.2 (λa M b j=>L a (gC _ M) b (gC _ j)),?_⟩;intro a M b j e;refine rA j λx Z j=>?_;exact L c (gp ..) x (gC _ Z) (λe=>G.1 (e▸Z)) a M (e▸j)
theorem CW{l m:List Int}(C:l.Nodup)(h:∀x∈l,x∈m):l.length≤m.length:=by
 induction l generalizing m with
 |nil=>exact pL _
 |cons a r D=>
  rw[kG] at C;have M:=h a (gp ..);have:=D (m:=m.erase a) C.2 λx Z=>by
   refine(List.mem_erase_of_ne ?_).2 (h x (gC _ Z));intro e;exact C.1 (e▸Z)
  rw[List.length_erase_of_mem M] at this;have:0<m.length:=DX M;show r.length+1≤_;lia
theorem oW(h:Un t T){n:Int}(W:n∈t.b):(PP t T n).length≤t.b.length:=CW (BK h W) (j7 h.e W)
theorem CR{o:Bool}{X:List Int}:mU t gd (.c o (eF X)) (.c eb [])=d9 (!eU (X=[])):=by
 show(yY t (.c o (eF X)) (.c eb [])).map _=_;show(((jC t (.c o (eF X))).bind λa=>(jC t (.c eb [])).map λb=>eU (a=b))<|>_).map _=_;rw[sN];rfl
noncomputable abbrev tW:eW:=.h gd (.a 67) (.z .b)
theorem Jm{X:List Int}(h:F 67=d9 (.c eb (eF X))):Ev d t F tW (.d (!eU (X=[]))) t:=
 gG (fg h) rfl CR
theorem oM{a b:List Int}:eF a++eF b=eF (a++b):=lb.symm
theorem gB{a:List Int}:(eF a).length=a.length:=fC ..
theorem Dv{a:List Int}:(eF a).reverse=eF a.reverse:=nz.symm
theorem jL{n:Int}:ia t (.f n t.h)=d9 (eF (t.a n).a):=if_pos rfl
structure FW(F:Fr)(dn st:List Int):Prop where
 a:F 66=d9 (.b .c)
 c:F 65=d9 (.c eb (eF dn))
 b:F 67=d9 (.c eb (eF st))
theorem U3{X:List Int}{n:Int}(h:F 67=d9 (.c eb (eF (X++[n])))):Ev d t F tW (.d eb) t:=by
 have:=Jm (d:=d) (t:=t) h;rwa [decide_eq_false (by intro e;exact absurd (congrArg qB e) (by rw[il];exact KQ _))] at this
theorem ly(h:Un t T){n:Int}(W:n∈t.b):((t.a n).a).length≤t.b.length:=CW (h.m n W) λc X=>(h.d n W c X).1
noncomputable abbrev Gg:Ss:=.a (.z 68 66 67) (.a (.m 65 (.c (.a 68) 0)) (.a (.u 67 (.H (.c (.a 68) 3))) .b))
theorem GU{n:Int}(h:F i=d9 (.b (.d n)))(C:((t.a n).a).length≤100000):Ev d t F (.H (.c (.a i) 3)) (.c eb (eF (t.a n).a.reverse)) t:=
 Dv▸Bc (gv (fg h) rfl) jL (gB.symm▸C)
theorem Vp{v u:List Int}{n:Int}(W:n∈t.b)(f:FW F v (u++[n]))(K:v.length≤100000)(I:u.length+(t.a n).a.length<100000):
  ∃h,FW h (v++[n]) (u++(t.a n).a.reverse)∧Gg.c d t F=d9 (.a,t,h):=by
 refine(ey _ ?_ (eG (Be f.b f.a W (by lia)) (eG (qO (z:=eF v) rfl f.c (gB.symm▸K)) (eG
  (Bf (z:=eF u) (l:=eF (t.a n).a.reverse) (GU rfl (by lia)) rfl rfl (by rw[gB,gB,n9];lia)) fp))))
 exact⟨f.a,congrArg d9 (congrArg _ (oM (b:=[n]))),congrArg d9 (congrArg _ oM)⟩
noncomputable abbrev Ga:Ss:=.a (.z 68 66 67) (.a (.c (.h fZ (.c (.a 68) 1) (.x 10)) (.a (.m 65 (.c (.a 68) 0)) .b) (.a (.u 67 (.H (.c (.a 68) 3))) .b)) .b)
theorem my{n:Int}(h:F i=d9 (.b (.d n))):Ev d t F (.h fZ (.c (.a i) 1) (.x 10)) (.d (eU ((t.a n).b=0))) t:=
 gG (gv (fg h) rfl) rfl rfl
noncomputable def nR(t:eB)(n:Int):Bool:=eU ((t.a n).b=0)
theorem Ri{v u:List Int}{n:Int}(W:n∈t.b)(f:FW F v (u++[n]))(K:v.length≤100000)(I:u.length+(t.a n).a.length<100000)(z:(t.a n).b=0->(t.a n).a=[]):
  ∃h,FW h (v++[n].filter (nR t)) (u++(t.a n).a.reverse)∧Ga.c d t F=d9 (.a,t,h):=by
 by_cases q:(t.a n).b=0
 ·refine(ey _ ?_ (eG (Be f.b f.a W (by lia)) (eG (jj ((decide_eq_true q)▸my rfl) (eG (qO (z:=eF v) rfl f.c (gB.symm▸K)) fp)) fp)))
  rw[z q,xy (show nR t n=eb from decide_eq_true q),DM,D6,mL];exact⟨f.a,congrArg d9 (congrArg _ (oM (b:=[n]))),rfl⟩
 ·refine(ey _ ?_ (eG (Be f.b f.a W (by lia)) (eG (gU ((decide_eq_false q)▸my rfl) (eG
   (Bf (z:=eF u) (l:=eF (t.a n).a.reverse) (GU rfl (by lia)) rfl rfl (by rw[gB,gB,n9];lia)) fp)) fp)))
  rw[Kw (by rw[nR,decide_eq_false q];exact AB),DM,mL];exact⟨f.a,f.c,congrArg d9 (congrArg _ oM)⟩
theorem Vd(h:Un t T){B:Ss}{p:Int->Bool}(i:∀{n F m k},n∈t.b->FW F m (k++[n])->m.length≤100000->k.length+(t.a n).a.length<100000->
   ∃M,FW M (m++[n].filter p) (k++(t.a n).a.reverse)∧B.c d t F=d9 (.a,t,M)) {n:Int} (W:n∈t.b):
  ∀(N:Nat) F m k,FW F m (k++[n])->m.length+(PP t T n).length≤100000->k.length+(PP t T n).length≤100000->
   ∃M,FW M (m++(PP t T n).filter p) k∧mj (λt F=>tW.q d t F) (λt F=>B.c d t F) (N+(PP t T n).length) t F=mj (λt F=>tW.q d t F) (λt F=>B.c d t F) N t M:=by
 refine h.e.M (P:=λn=>∀(N:Nat) F m k,FW F m (k++[n])->m.length+(PP t T n).length≤100000->k.length+(PP t T n).length≤100000->
   ∃M,FW M (m++(PP t T n).filter p) k∧mj (λt F=>tW.q d t F) (λt F=>B.c d t F) (N+(PP t T n).length) t F=mj (λt F=>tW.q d t F) (λt F=>B.c d t F) N t M) ?_ W
 intro n W D N F m k f s I;have X:∀(l:List Int),l.length≤(l.flatMap (PP t T)).length:=by
  intro l
  induction l with
  |nil=>exact ig _
  |cons c r D=>
   have:=FI t T c;rw[kY,il,lG];lia
 have e:PP t T n=_:=lx h.e W;have b:(PP t T n).length=((t.a n).a.flatMap (PP t T)).length+1:=by rw[e];rfl
 have u:=X (t.a n).a;refine eR (i W f (by lia) (by lia)) λK j L=>?_;have g:∀(l:List Int),(∀c∈l,c∈(t.a n).a)->∀N F m k,FW F m (k++l.reverse)->m.length+(l.flatMap (PP t T)).length≤100000->k.length+(l.flatMap (PP t T)).length≤100000->
   ∃M,FW M (m++(l.flatMap (PP t T)).filter p) k∧mj (λt F=>tW.q d t F) (λt F=>B.c d t F) (N+(l.flatMap (PP t T)).length) t F=mj (λt F=>tW.q d t F) (λt F=>B.c d t F) N t M:=by
  intro l
  induction l with
  |nil=>intro _ N F m k f _ _;refine(ey F ?_ rfl);rw[D6,mL] at f;rw[DP,DM,mL];exact f
  |cons c r z=>
   intro C N F m k f Y o;rw[oh,←nq] at f;rw[kY,il] at Y o;have:=X r;refine eR (D c (C c (gp ..)) (N+(r.flatMap (PP t T)).length) F m (k++r.reverse) f (by lia) (by rw[il,n9];lia)) λK j L=>?_;refine eR (z (λx Z=>C x (gC _ Z)) N K _ k j (by rw[il];have:=qC p (PP t T c);lia) (by lia)) λH w a=>?_;refine(ey H ?_ ?_)
   ·rw(occs:=eO) [kY,WA,←nq];exact w
   ·rw(occs:=eO) [kY,il,KM (PP t T c).length,←xE,L,a]
 refine eR (g _ (λU q=>q) N K _ k j (by rw[il];have:=qC p [n];have:[n].length=1:=rfl;lia) (by lia)) λH w a=>?_;refine(ey H ?_ ?_)
 ·rw[e]
  rw(occs:=eO) [show(n::(t.a n).a.flatMap (PP t T))=[n]++(t.a n).a.flatMap (PP t T) from rfl,WA,←nq];exact w
 ·rw(occs:=eO) [b,←xE,Dx (U3 f.b) L,a]
theorem Qd{l:List Int}:l.filter (λU=>eb)=l:=by
 induction l with
 |nil=>rfl
 |cons a r D=>rw[xy rfl,D]
theorem Vm{B:Ss}{v:List Int}{N:Nat}(f:FW F v []):mj (λt F=>tW.q d t F) (λt F=>B.c d t F) (N+1) t F=d9 (.a,t,F):=Dw (Jm (X:=[]) f.b)
theorem J6(h:Un t T)(M:t.b.length≤1000){B:Ss}{p:Int->Bool}(i:∀{n F l m},n∈t.b->FW F l (m++[n])->l.length≤100000->m.length+(t.a n).a.length<100000->
   ∃k,FW k (l++[n].filter p) (m++(t.a n).a.reverse)∧B.c d t F=d9 (.a,t,k)) {n:Int} (W:n∈t.b):
  gP ((Ss.a (.a 65 (.z .b)) (.a (.a 67 (.z (.a (.a 53) .b))) (.a (.w tW B) (.a (.r 65) .b)))).c d t (fh [66,53] [.b .c,.a n]))=d9 (.c eb (eF ((PP t T n).filter p)),t):=by
 have C:=oW h W;obtain⟨N,O⟩ :∃N,10000=(N+1)+(PP t T n).length:=⟨9999-(PP t T n).length,by lia⟩;refine eR (Vd (d:=d) h i W (N+1) (eL (eL (fh [66,53] [.b .c,.a n]) 65 (.c eb [])) 67 (.c eb (eF [n]))) [] [] ⟨rfl,rfl,rfl⟩ (by show 0+_≤_;lia) (by show 0+_≤_;lia)) λk f g=>?_;rw[Vm f,←O] at g;have:f7 d t (fh [66,53] [.b .c,.a n]) (Ss.a (.a 65 (.z .b)) (.a (.a 67 (.z (.a (.a 53) .b))) (.a (.w tW B) (.a (.r 65) .b)))) (.b (.c eb (eF ((PP t T n).filter p)))) t k:=
  eG (fO rfl rfl) (eG (fO rfl rfl) (eG g (iq (yh f.c rfl))))
 rw[this];rfl
theorem xr(h:Un t T)(M:t.b.length≤1000){n:Int}(W:n∈t.b){k:Nat}:gF Q (k+1) 19 [.b .c,.a n] t=d9 (.c eb (eF (PP t T n)),t):=by
 rw[iB (M:=[66,53]) (b:=B3) (by decide) rfl rfl];have:=J6 (d:=dd Q k) (B:=Gg) (p:=λU=>eb) h M (λW f K I=>Vp W f K I) W;rw[Qd] at this;exact this
theorem zy(h:Un t T)(M:t.b.length≤1000)(z:∀n∈t.b,(t.a n).b=0->(t.a n).a=[]){n:Int}(W:n∈t.b){k:Nat}:gF Q (k+1) 17 [.b .c,.a n] t=d9 (.c eb (eF ((PP t T n).filter (nR t))),t):=by
 rw[iB (M:=[66,53]) (b:=B2) (by decide) rfl rfl];exact J6 (d:=dd Q k) (B:=Ga) (p:=nR t) h M (λW f K I=>Ri W f K I (z _ W)) W
noncomputable def r1{L:Type}(d:L)(g:Int->L):List eT->L
 |[.a c]=>g c
 |_=>d
noncomputable def r2{L:Type}(d:L)(g:Int->Int->L):List eT->L
 |[.a c,.a x]=>g c x
 |_=>d
theorem Jb:∀J:List eD,pE t t J=true:=λJ=>iC.2 λv U=>@decide_eq_true _ (zZ ..) (by(clear U;cases v)<;>first|exact⟨rfl,rfl⟩ |trivial)
def pD(t:eB)(k:Nat)(J:List eD):Option (List (List eT)):=(ou t J).bind (qy k)
theorem PF{u:eB->Bool}{e:List eT->Fr}{j:eB->Fr->Option (Bool×eB)}{a:eB->Fr->Option (eD×eB)}{p:List eT->Bool}{f:List eT->eT}(b:u t=eb):
  ∀(k:List (List eT)) h,(∀r∈k,j t (e r)=d9 (p r,t))->(∀r∈k,p r=eb->a t (e r)=d9 (.b (f r),t))->sM u e j a k t h=d9 (h++(k.filter p).map f,t):=by
 intro k
 induction k with
 |nil=>intro h U U;show(if _ then _ else _)=_;rw[if_pos b,DM,uI,mL]
 |cons r k D=>
  intro h K I;have q:=K r (gp ..);have D:=λh=>D h (λx Z=>K x (gC _ Z)) (λx Z=>I x (gC _ Z));show(if _ then _ else _)=_;rw[if_pos b,q];cases J:p r with
  |false=>rw[Kw (by rw[J];exact AB)];exact D h
  |true=>
   rw[xy J,gj];show(a t (e r)).bind _=_;rw[I r (gp ..) J];show sM u e j a k t (h++[f r])=_;rw(occs:=eO) [D,nq];rfl
theorem Ba{T:eW}{W:List Nat}{N:iF}{a:Es}{Y:List (Nat×fX)}{L:List (List eT)}(p:List eT->Bool)(f:List eT->eT)(h:N.c d t F=d9 (J,t))(g:pD t N.h J=d9 L)(C:L.length≤100000)
  (z:∀r∈L,a.g d t (iS Y F W r)=d9 (p r,t)) (n:∀r∈L,p r=eb->Ev d t (iS Y F W r) T (.b (f r)) t):
  Ev d t F (.B T W N a Y) (.c eb ((L.filter p).map f)) t:=by
 show(N.c d t F).bind _=_;rw[h];show(ou t J).bind _=_;unfold pD at g;cases q:ou t J with
 |none=>rw[q] at g;exact nS g
 |some M=>
  rw[q] at g;show(qy N.h M).bind _=_;rw[show qy N.h M=d9 L from g];show(if _ then _ else _)=_;rw[if_pos C,PF (p:=p) (f:=f) (Jb J) L [] z n];rfl
theorem pV{T:eW}{W:List Nat}{N:iF}{Y:List (Nat×fX)}{L:List (List eT)}(f:List eT->eT)(h:N.c d t F=d9 (J,t))(g:pD t N.h J=d9 L)(C:L.length≤100000)
  (n:∀r∈L,Ev d t (iS Y F W r) T (.b (f r)) t):Ev d t F (.B T W N .b Y) (.c eb (L.map f)) t:=by
 have:=Ba (d:=d) (a:=.b) (λU=>eb) f h g C (λU U=>rfl) (λr a U=>n r a);rwa [show L.filter (λU=>eb)=L from WB.2 λU U=>rfl] at this
theorem lL(h:Ev d t F e v E):(iF.a e).c d t F=d9 ([v],E):=by show(e.q d t F).map _=_;rw[h];rfl
theorem ym(l:d.a=eb)(h:Ev d t F P v E)(g:Ev d E F V u S):(iF.b P V).c d t F=d9 ([v,u],S):=by
 show(if _ then _ else _)=_;rw[if_pos l];show(P.q d t F).bind _=_;rw[h];show(V.q d E F).map _=_;rw[g];rfl
theorem kP{z:List eT}(h:ia t v=d9 z):pD t 0 [v]=d9 (z.map λx=>[x]):=by
 show(uM ((ia t v).bind _) _)=_;rw[h];rfl
theorem zR{z l:List eT}(h:ia t v=d9 z)(g:ia t u=d9 l)(C:z.length=l.length):pD t 1 [v,u]=d9 ((z.zip l).map λp=>[p.1,p.2]):=by
 show(uM ((ia t v).bind _) _)=_;rw[h];show(uM (kH _ ((ia t u).bind _)) _)=_;rw[g];show(if _ then _ else _)=_;rw[if_pos ⟨rfl,C⟩]
section
variable{M:eB->Fr->Bool}{W:List Nat}{B:eB->Fr->Option (Fl×eB×Fr)}{r:List eT}{m:List (List eT)}
theorem nP(h:M t F=eb):j9 M W B [] t F=d9 (.a,t,F):=if_pos h
theorem mB(h:M t F=eb)(g:B t (fV F W r)=d9 (.a,E,K)):j9 M W B (r::m) t F=j9 M W B m E K:=by
 show(if _ then _ else _)=_;rw[if_pos h,g];rfl
end
abbrev lR(N:iF)(J:List eD)(E:eB)(F:Fr):eB->Fr->Bool:=λO A=>pE E O J&&N.d.all λe=>m0 F A e
theorem mQ{N:iF}{W:List Nat}{b:Ss}{L:List (List eT)}{f:Fl}(h:N.c d t F=d9 (J,E))(g:pD E N.h J=d9 L)
  (a:N.d.all (λe=>e.P.all λi=>!((W++b.f).contains i))=eb) (c:(N.d.zip J).all (λp=>mK F p.1 p.2)=eb)
  (j:j9 (lR N J E F) W (λt F=>b.c d t F) L E F=d9 (f,S,H)):Ex d t F (.j W N b) f S H:=by
 show(N.c d t F).bind _=_;rw[h];show(ou E J).bind _=_;unfold pD at g;cases q:ou E J with
 |none=>rw[q] at g;exact nS g
 |some M=>
  rw[q] at g;show(qy N.h M).bind _=_;rw[show qy N.h M=d9 L from g];show(if _ then _ else _)=_;rw[if_pos ⟨a,c⟩];exact j
theorem va{x:Nat}{G:List (Int×eT)}{k:Int}{y:eT}(h:Ev d t F P (.b y) E)(g:Ev d E F V (.a k) S)(Z:F x=d9 (.g eb G))(C:G.length≤100000):
  Ex d t F (.n x V P) .a S (eL F x (.g eb (qw G k y))):=by
 show(P.q d t F).bind _=_;rw[h];show(V.q d E F).bind _=_;rw[g];show tb F S x (.a k) (.b y)=_;unfold tb;rw[Z];show((if _ then _ else _)<|>_)=_;rw[if_pos C];rfl
theorem Re(G:List (Int×eT))(k m:Int)(y:eT):(qw G k y).lookup m=if m=k then d9 y else G.lookup m:=by
 unfold qw;by_cases q:G.any (λp=>p.1=k)=eb
 ·rw[if_pos q]
  induction G with
  |nil=>exact nB q
  |cons a r D=>
   obtain⟨a,b⟩ :=a;rw[gj];by_cases M:a=k
   ·clear q
    subst M;rw[if_pos rfl];by_cases Y:m=a
    ·clear D
     subst Y;rw[if_pos rfl,iw,show(m==m)=eb from beq_self_eq_true m]
    ·rw[if_neg Y,iw,iw,show(m==a)=em from beq_false_of_ne Y]
     show DY m (r.map _)=DY m r;by_cases E:r.any (λp=>p.1=a)=eb
     ·rw[D E,if_neg Y]
     ·have:r.map (λp=>if p.1=a then(p.1,y) else p)=r:=by
       refine(kh λp J=>?_).trans (KD _);refine if_neg λe=>E (AF.2 (ey p J (decide_eq_true e)))
      rw[this]
   ·rw[if_neg M]
    have E:r.any (λp=>p.1=k)=true:=by
     rw[AE,decide_eq_false M,Wi] at q;exact q
    by_cases Y:m=a
    ·clear q
     subst Y;rw[if_neg M,iw,iw,show(m==m)=eb from beq_self_eq_true m]
    ·rw[iw,iw,show(m==a)=em from beq_false_of_ne Y];exact D E
 ·rw[if_neg q]
  induction G with
  |nil=>
   rw[AL,iw];by_cases Y:m=k
   ·rw[if_pos Y,Y,show(k==k)=eb from beq_self_eq_true k]
   ·rw[if_neg Y,show(m==k)=em from beq_false_of_ne Y]
  |cons a r D=>
   obtain⟨a,b⟩ :=a;rw[AE] at q;have M:a≠k:=λe=>q (by rw[decide_eq_true e];rfl);have E:¬r.any (λp=>p.1=k)=true:=λe=>q (by rw[e,pI]);rw[Ks,iw,iw,D E];by_cases Y:m=a
   ·clear q
    subst Y;rw[show(m==m)=eb from beq_self_eq_true m];exact(if_neg M).symm
   ·rw[show(m==a)=em from beq_false_of_ne Y]
theorem S4(G:List (Int×eT))(k:Int)(y:eT):(qw G k y).length≤G.length+1:=by
 unfold qw;split
 ·rw[fC];lia
 ·rw[il];exact ig _
theorem we(h:t.g=7):t.n=[.j,.a t.c,.a t.l,.a 3,.a 2,.a t.d,.a t.i]:=by unfold eB.n;rw[h];rfl
theorem ji{f:Nat}(h:F 66=d9 (.b .c))(l:([.j,.a t.c,.a t.l,.a 3,.a 2,.a t.d,.a t.i]:List eD)[f]? =d9 v)(G:t.g=7):Ev d t F (.c (.a 66) (16+f)) v t:=by
 refine gv (fg h) ?_;show(if 16≤16+f then t.n[16+f-16]? else eh)=_;rw[if_pos (xF ..),KN,we G,l]
theorem iG{n:Int}(G:t.g=7)(h:F 66=d9 (.b .c))(g:Ev d t F e (.a n) t)(W:n∈t.b):Ev d t F (.n (.c (.a 66) 16) e) (.b (.d n)) t:=
 jh (ji (f:=0) h rfl G) g (by show(if _ then _ else _)=_;exact if_pos W)
noncomputable def fA(s:Int):Int:=if s=2 then 0 else 1
noncomputable def kr(a:Int):Int:=if a=0 then 3 else 2
theorem ub{k:Nat}{s:Int}:gF Q (k+1) 15 [.a s] t=d9 (.a (fA s),t):=by
 rw[iB (M:=[54]) (b:=vG) (by decide) rfl rfl];by_cases q:s=2
 ·rw(occs:=eO) [fA,if_pos q,q];rfl
 ·have:f7 (dd Q k) t (fh [54] [.a s]) vG (.b (.a 1)) t (fh [54] [.a s]):=iq (i7 (lT (decide_eq_false q▸gG rfl rfl rfl) rfl) rfl)
  show gP (vG.c _ _ (fh [54] [.a s]))=_;rw(occs:=eO) [this,fA,if_neg q];rfl
theorem UA{k:Nat}{a:Int}:gF Q (k+1) 16 [.a a] t=d9 (.a (if a=0 then 2 else 1),t):=by
 rw[iB (M:=[56]) (b:=vS) (by decide) rfl rfl];by_cases q:a=0
 ·rw[if_pos q,q];rfl
 ·have:f7 (dd Q k) t (fh [56] [.a a]) vS (.b (.a 1)) t (fh [56] [.a a]):=iq (i7 (lT (decide_eq_false q▸gG rfl rfl rfl) rfl) rfl)
  show gP (vS.c _ _ (fh [56] [.a a]))=_;rw[this,if_neg q];rfl
theorem HJ{k:Nat}{a:Int}(G:t.g=7):gF Q (k+1) 1033 [.b .c,.a a] t=d9 (.a (kr a),t):=by
 rw[iB (M:=[50,56]) (b:=sq) (by decide) rfl rfl];have A:qm t 19 (.b .c)=d9 (.a 3):=by show t.n[3]? =_;rw[we G];rfl
 have E:qm t 20 (.b .c)=d9 (.a 2):=by show t.n[4]? =_;rw[we G];rfl
 by_cases q:a=0
 ·have:f7 (dd Q k) t (fh [50,56] [.b .c,.a a]) sq (.b (.a 3)) t _:=iq (i7 (lU (decide_eq_true q▸gG (fg rfl) rfl rfl) (gv rfl A)) rfl)
  show gP (sq.c _ _ (fh [50,56] [.b .c,.a a]))=_;rw(occs:=eO) [this,kr,if_pos q];rfl
 ·have:f7 (dd Q k) t (fh [50,56] [.b .c,.a a]) sq (.b (.a 2)) t _:=iq (i7 (lT (decide_eq_false q▸gG (fg rfl) rfl rfl) (gv rfl E)) rfl)
  show gP (sq.c _ _ (fh [50,56] [.b .c,.a a]))=_;rw(occs:=eO) [this,kr,if_neg q];rfl
structure Ok(t:eB)(rk:Int->Nat):Prop extends l:Un t rk where
 f:t.g=7
 j:t.b.length≤60
 i:∀n∈t.b,(t.a n).b=0↔(t.a n).a=[]
noncomputable def lf(t:eB)(a:Int):Nat->Int->Int
 |0,_=>0
 |k+1,n=>if(t.a n).b=0 then kr a else if fA (t.a n).b=a then((t.a n).a.map (lf t a k)).sum else kN ((t.a n).a.map (lf t a k))
def LL(t:eB)(b:Int->Nat)(a n:Int):Int:=lf t a (b n+1) n
theorem Q6{a:Int}(h:Sh t T):∀k Z n,n∈t.b->T n<k->T n<Z->lf t a k n=lf t a Z n:=by
 intro k
 induction k with
 |zero=>intro Z n U q U;exact absurd q (pK _)
 |succ k D=>
  intro Z n W q L;cases Z with
  |zero=>exact absurd L (pK _)
  |succ Z=>
   show(if _ then _ else if _ then KJ _ else kN _)=if _ then _ else if _ then KJ _ else kN _;rw[kh λc X=>D Z c (h.d n W c X).1 (by have:=(h.d n W c X).2;lia) (by have:=(h.d n W c X).2;lia)]
theorem lX{a:Int}(h:Sh t T){n:Int}(W:n∈t.b):LL t T a n=if(t.a n).b=0 then kr a else if fA (t.a n).b=a then((t.a n).a.map (LL t T a)).sum else kN ((t.a n).a.map (LL t T a)):=by
 show(if _ then _ else if _ then KJ _ else kN _)=_;rw[kh λc X=>Q6 h (T n) (T c+1) c (h.d n W c X).1 (h.d n W c X).2 (uK _)];rfl
noncomputable def Cl(t:eB):List Int->Prop
 |[]=>True
 |n::r=>(∀c∈(t.a n).a,c∈r)∧Cl t r
theorem Cl.f:∀{l m:List Int},Cl t l->Cl t m->Cl t (l++m)
 |[],_,_,h=>h
 |n::r,m,L,h=>fe L λa b=>⟨λc X=>D3 _ (a c X),b.f h⟩
theorem Lz{l:List Int}(h:∀c∈l,Cl t (PP t T c)):Cl t (l.flatMap (PP t T)):=by
 induction l with
 |nil=>trivial
 |cons c r D=>rw[kY];exact(h c (gp ..)).f (D λx Z=>h x (gC _ Z))
theorem FH(h:Sh t T){n:Int}(W:n∈t.b):Cl t (PP t T n):=by
 refine h.M (P:=λn=>Cl t (PP t T n)) ?_ W;intro n W D;rw[lx h W];exact⟨λc X=>qD.2 (ey c X (lY h (h.d n W c X).1)),Lz D⟩
structure DW(F:Fr)(o:Option eD)(x:Nat)(g:Int->eT)(l:List Int)(n:Int):Prop where
 b:F 66=d9 (.b .c)
 a:F 56=o
 c:F 53=d9 (.a n)
 d:∃kvs,F x=d9 (.g eb kvs)∧kvs.length≤l.length∧∀m∈l,kvs.lookup m=d9 (g m)
theorem GI{o:Option eD}{w:Int}{x:Nat}{g:Int->eT}{B:Ss}{N:iF}{J:List eD}{a:Fr}{W:Nat}(q:∀F,lR N J t a t F=eb)
  (i:∀{n l F},n∈t.b->(∀c∈(t.a n).a,c∈l)->l.length≤1000->DW F o x g l w->∃k,DW k o x g (n::l) w∧B.c d t (eL F W (.a n))=d9 (.a,t,k)):
  ∀(l:List Int),Cl t l->(∀m∈l,m∈t.b)->l.length≤1000->∀(f:List (List eT)) F,DW F o x g [] w->
   ∃k,DW k o x g l w∧j9 (lR N J t a) [W] (λt F=>B.c d t F) ((eF l.reverse).map (λy=>[y])++f) t F=j9 (lR N J t a) [W] (λt F=>B.c d t F) f t k:=by
 intro e
 induction e with
 |nil=>
  intro U U U f F h;exact(ey F h rfl)
 |cons n r D=>
  intro Z M C f F h;refine fe Z λc X=>?_;have C:r.length+1≤1000:=C;refine eR (D X (λm Y=>M m (gC _ Y)) (by lia) ([.a n]::f) F h) λK j L=>?_;refine eR (i (M n (gp ..)) c (by lia) j) λH b T=>?_;refine(ey H b ?_);rw(occs:=eO) [oh,←oM,lb,nq];show j9 _ _ _ (_++([.a n]::f)) t F=_;rw[L];exact mB (q K) T
noncomputable abbrev Cf:List (Nat×fX):=[(48,eu),(73,eu),(65,gb)]
abbrev Ch:eW:=.B (.n (.a 65) (.a 73)) [73] (.a (.c (.a 68) 3)) .b Cf
theorem Hs{l:List Int}{f:Int->Int}:l6 (l.map λc=>eT.a (f c))=d9 (l.map f):=by
 have:(l.map λc=>eT.a (f c))=eF (l.map f):=(gJ (g:=eT.a) (f:=f)).symm;rw[this,nQ]
theorem QJ{o:Option eD}{w n:Int}{l:List Int}{g:Int->eT}(D:DW F o 65 g l w)(K:F 68=d9 (.b (.d n)))(X:∀c∈(t.a n).a,c∈l)(C:(t.a n).a.length≤100000):
  Ev d t F Ch (.c eb ((t.a n).a.map g)) t:=by
 refine f5 D.d λG z p Y=>?_;have:=pV (d:=d) (t:=t) (F:=F) (T:=.n (.a 65) (.a 73)) (W:=[73]) (N:=.a (.c (.a 68) 3)) (Y:=Cf) (L:=(eF (t.a n).a).map λx=>[x])
  (r1 .e λc=>g c) (lL (gv (fg K) rfl)) (kP jL) (by rw[fC,gB];exact C) ?_
 ·rw[gJ,gJ] at this;exact this
 ·intro r E
  (refine fP E λy B P=>?_;(clear E;obtain rfl:=P))
  (refine fP B λc Z V=>?_;(clear B;obtain rfl:=V))
  have u:iS Cf F [73] [.a c] 65=d9 (.g em G):=congrArg (kH eD.e) z;refine jh (fg u) rfl ?_;show(G.lookup c).map eD.b=_;rw[Y c (X c Z)];rfl
theorem u7{o:Option eD}{w n:Int}{x:Nat}{l:List Int}{g:Int->eT}{G:List (Int×eT)}(U:F 66=d9 (.b .c))(J:F 56=o)(W:F 53=d9 (.a w))(Z:F x=d9 (.g eb (qw G n (g n))))
  (C:G.length≤l.length) (Y:∀m∈l,G.lookup m=d9 (g m)):DW F o x g (n::l) w:=
 ⟨U,J,W,_,Z,im (S4 ..) (D9 C),λm h=>by
  rw(occs:=eO) [Re];by_cases q:m=n
  ·rw(occs:=eO) [if_pos q,q]
  ·rw(occs:=eO) [if_neg q];rcases gy.1 h with e|h
   ·exact absurd e q
   ·exact Y m h⟩
abbrev FZ:Ss:=.a (.a 68 (.n (.c (.a 66) 16) (.a 72))) (.a (.c (.h fZ (.c (.a 68) 1) (.x 10)) (.a (.n 65 (.a 72) (.v (.a 66) 33 (.a (.a 56) .b))) .b) (.a (.c (.h fZ (.j 15 (.a (.c (.a 68) 1) .b)) (.a 56)) (.a (.n 65 (.a 72) (.w 1 Ch)) .b) (.a (.n 65 (.a 72) (.w 2 Ch)) .b)) .b)) .b)
theorem yJ{n a:Int}{k:Nat}(K:F 68=d9 (.b (.d n)))(J:F 56=d9 (.a a)):Ev (dd Q (k+1)) t F (.h fZ (.j 15 (.a (.c (.a 68) 1) .b)) (.a 56)) (.d (eU (fA (t.a n).b=a))) t:=
 gG (gI (eV (gv (fg K) rfl) fJ) ub) (fg J) rfl
theorem Rf{a w n:Int}{l:List Int}{k:Nat}(h:Ok t T)(W:n∈t.b)(X:∀c∈(t.a n).a,c∈l)(C:l.length≤1000)(D:DW F (d9 (.a a)) 65 (λm=>.a (LL t T a m)) l w):
  ∃f,DW f (d9 (.a a)) 65 (λm=>.a (LL t T a m)) (n::l) w∧FZ.c (dd eb (k+1)) t (eL F 72 (.a n))=d9 (.a,t,f):=by
 refine f5 D.d λG z p Y=>?_;have U:=ly h.l W;have:=h.j;have e:=lX (a:=a) h.e W;have I:Ex (dd eb (k+1)) t (eL F 72 (.a n)) (.a 68 (.n (.c (.a 66) 16) (.a 72))) .a t (eL (eL F 72 (.a n)) 68 (.b (.d n))):=fO (iG h.f D.b rfl W) rfl;have g:DW (eL (eL F 72 (.a n)) 68 (.b (.d n))) (d9 (.a a)) 65 (λm=>.a (LL t T a m)) l w:=⟨D.b,D.a,D.c,D.d⟩;have N:=QJ (d:=dd eb (k+1)) (t:=t) (n:=n) g rfl X (by lia);by_cases q:(t.a n).b=0
 ·rw[if_pos q] at e
  refine(ey _ ?_ (eG I (eG (jj (decide_eq_true q▸my rfl) (eG (va (y:=.a (kr a)) (iL (fg D.b) (eV (fg D.a) fJ) rfl (HJ h.f)) (fg (v:=.a n) rfl) z (by lia)) fp)) fp)));exact u7 D.b D.a D.c (by show d9 _=d9 _;rw[e]) p Y
 ·rw[if_neg q] at e
  have E:(t.a n).a≠[]:=λr=>q ((h.i n W).2 r);by_cases o:fA (t.a n).b=a
  ·rw[if_pos o] at e
   refine(ey _ ?_ (eG I (eG (gU (decide_eq_false q▸my rfl) (eG (jj (decide_eq_true o▸yJ rfl D.a) (eG (va (y:=.a (((t.a n).a.map (LL t T a)).sum)) (jN N ?_) (fg (v:=.a n) rfl) z (by lia)) fp)) fp)) fp)))
   ·exact u7 D.b D.a D.c (by show d9 _=d9 _;rw[e]) p Y
   ·show((l6 _).bind _)=_
    rw[Hs];rfl
  ·rw[if_neg o] at e
   refine(ey _ ?_ (eG I (eG (gU (decide_eq_false q▸my rfl) (eG (gU (decide_eq_false o▸yJ rfl D.a) (eG (va (y:=.a (kN ((t.a n).a.map (LL t T a)))) (jN N ?_) (fg (v:=.a n) rfl) z (by lia)) fp)) fp)) fp)))
   ·exact u7 D.b D.a D.c (by show d9 _=d9 _;rw[e]) p Y
   ·show((l6 _).bind _)=_
    rw[Hs];show(if _ then _ else _)=_;rw[if_pos ⟨rfl,λr=>E (ny.1 r)⟩]
theorem zx(h:Ok t T){n a:Int}(W:n∈t.b){k:Nat}:gF eb (k+2) 22 [.b .c,.a n,.a a] t=d9 (.a (LL t T a n),t):=by
 have C:=oW h.l W;have:=h.j;have Z:=xr (Q:=eb) h.l (by lia) W (k:=k);rw[iB (M:=[66,53,56]) (b:=vM) (by decide) rfl rfl];have j:(iF.a (.H (.j 19 (.a (.a 66) (.a (.a 53) .b))))).c (dd eb (k+1)) t (eL (fh [66,53,56] [.b .c,.a n,.a a]) 65 (.g eb []))=d9 ([.c eb (eF (PP t T n).reverse)],t):=
  lL (Dv▸Bc (gI rfl Z) rfl (by rw[gB];lia))
 refine eR (GI (d:=dd eb (k+1)) (t:=t) (o:=d9 (.a a)) (w:=n) (x:=65) (g:=λm=>.a (LL t T a m)) (B:=FZ) (N:=.a (.H (.j 19 (.a (.a 66) (.a (.a 53) .b))))) (J:=[.c eb (eF (PP t T n).reverse)])
  (a:=eL (fh [66,53,56] [.b .c,.a n,.a a]) 65 (.g eb [])) (W:=72) (λU=>rfl) (λW X C D=>Rf h W X C D) (PP t T n) (FH h.e W) (j7 h.e W) (by lia) []
  (eL (fh [66,53,56] [.b .c,.a n,.a a]) 65 (.g eb [])) ⟨rfl,rfl,rfl,[],rfl,ig _,λU h=>absurd h iI⟩) λA f g=>?_
 refine f5 f.d λG z U Y=>?_;rw[mL,nP rfl] at g;have:f7 (dd eb (k+1)) t (fh [66,53,56] [.b .c,.a n,.a a]) vM (.b (.a (LL t T a n))) t A:=
  eG (fO (v:=.g eb []) rfl rfl) (eG (mQ j (kP rfl) rfl rfl g) (iq (i7 (jh (fg z) (fg f.c) (by show(G.lookup n).map eD.b=_;rw[Y n (lY h.e W)];rfl)) rfl)))
 show gP (vM.c _ _ (fh [66,53,56] [.b .c,.a n,.a a]))=_;rw[this];rfl
noncomputable def jz(f M:List Int):List Int:=if f.sum=0 then iJ M.length 1 else f
noncomputable def mI(f M:List Int):Int:=if f.sum=0 then M.length else f.sum
def nX(m:Int)(f M:List Int):List Int:=((jz f M).zip M).map λp=>p.2+((m-M.sum)*p.1).fdiv (mI f M)
noncomputable def v5(r:Int)(l:List Int):List Int:=l.zipIdx.map λp=>p.1+(if(p.2:Int)<r then 1 else 0)
def kf(m:Int)(f M:List Int):List Int:=v5 (m-(nX m f M).sum) (nX m f M)
theorem oS{m:List Nat}{as:List eT}{Q:Bool}(l:d.a=eb)(h:Ev d t F e (.b (.f as)) E)(C:as.length=m.length):Ex d t F (.l Q m e) .a E (if Q then fV F m.reverse as.reverse else fV F m as):=by
 show(e.q d t F).bind _=_;rw[h];show(if _ then _ else _)=_;rw[if_pos ⟨l,C⟩]
theorem rj{o:Bool}{l:List Int}:o7 eb t 1 (.c o (eF l))=d9 (.a l.sum):=by
 show((jC t (.c o (eF l))).bind _)=_;rw[sN];rfl
theorem sG{v:eD}{z:List eT}(h:ia t v=d9 z)(X:zA t v=(ia t v).map qB)(C:z.length≤100000):o7 Q t 0 v=d9 (.a z.length):=by
 show((zA t v).bind _)=_;rw[X,h];show(if _ then _ else _)=_;rw[if_pos C]
theorem X2{x y:Int}:mU t fZ (.a x) (.a y)=d9 (eU (x=y)):=rfl
theorem To{z:List eT}(h:ia t v=d9 z):pD t 2 [v]=d9 (z.zipIdx.map λp=>[.a p.2,p.1]):=by
 show(uM ((ia t v).bind _) _)=_;rw[h];rfl
theorem M2(l:d.a=eb)(h:Ev d t F e v E):(iF.g e).c d t F=d9 ([v],E):=by
 show(if _ then _ else _)=_;rw[if_pos l];show(e.q d t F).map _=_;rw[h];rfl
theorem pH:∀(a b:List Int),(eF a).zip (eF b)=(a.zip b).map λp=>(eT.a p.1,eT.a p.2)
 |[],_=>rfl
 |_::_,[]=>rfl
 |a::r,b::s=>by show _::(eF r).zip (eF s)=_::_;rw[pH r s];rfl
theorem um{x y:Int}(Z:rE x)(B:rE y):rl jb (.a x) (.a y)=d9 (.a (x*y)):=by
 show(((if _ then _ else _:Option Int).map eD.a)<|>_)=_;rw[if_pos ⟨Z,B⟩];rfl
theorem yW{x y:Int}(B:y≠0)(L:iZ y):rl pP (.a x) (.a y)=d9 (.a (x.fdiv y)):=by
 show(((if _ then _ else _:Option Int).map eD.a)<|>_)=_;rw[if_pos ⟨B,L⟩];rfl
theorem Ah{x:Int}(h:iZ x):rE x:=by unfold iZ at h;unfold rE;lia
noncomputable abbrev y9:List (Nat×fX):=[(48,eu),(82,eu),(72,eu),(79,gb)]
noncomputable abbrev wa:List (Nat×fX):=[(48,eu),(81,eu),(80,eu),(77,gb),(78,gb)]
abbrev GJ:eW:=.B (.p io (.a 72) (.C (.h lj (.a 82) (.a 79)) (.d 1) (.d 0))) [82,72] (.g (.a 65)) .b y9
abbrev GK:eW:=.B (.p io (.a 80) (.p pP (.p jb (.a 77) (.a 81)) (.a 78))) [81,80] (.b (.a 75) (.a 76)) .b wa
theorem Kk:∀(l:List Int) (k:Nat),(eF l).zipIdx k=(l.zipIdx k).map λp=>(eT.a p.1,p.2):=by
 intro N
 induction N with
 |nil=>
  intro U;exact rfl
 |cons a r D=>
  intro k;show _::(eF r).zipIdx (k+1)=_::_;rw[D (k+1)]
theorem Pu{l:List Int}{r:Int}(a:d.a=eb)(J:F 65=d9 (.c eb (eF l)))(K:F 79=d9 (.a r))(C:l.length≤100000):Ev d t F GJ (.c eb (eF (v5 r l))) t:=by
 have:=pV (d:=d) (t:=t) (F:=F) (T:=.p io (.a 72) (.C (.h lj (.a 82) (.a 79)) (.d 1) (.d 0))) (W:=[82,72]) (N:=.g (.a 65)) (Y:=y9) (L:=(eF l).zipIdx.map λp=>[.a p.2,p.1])
  (r2 .e λk x=>.a (x+if k<r then 1 else 0)) (M2 a (fg J)) (To rfl) (by rw[fC,KB,gB];exact C) ?_
 ·rw[Kk,gJ,gJ] at this
  rw(occs:=eO) [v5,eF,gJ];exact this
 ·intro q G
  rw[Kk,gJ] at G
  (refine CN G λx k U P=>?_;(clear G;obtain rfl:=P))
  have O:iS y9 F [82,72] [.a k,.a x] 79=d9 (.a r):=congrArg (kH eD.e) K;show Ev d t (iS y9 F [82,72] [.a k,.a x]) _ (.b (.a (x+if(k:Int)<r then 1 else 0))) t;refine hZ (u:=.a (if(k:Int)<r then 1 else 0)) rfl ?_ rfl;by_cases c:(k:Int)<r
  ·rw[if_pos c];exact lU (decide_eq_true c▸gG (fg (v:=.a k) rfl) (fg O) rfl) rfl
  ·rw[if_neg c];exact lT (decide_eq_false c▸gG (fg (v:=.a k) rfl) (fg O) rfl) rfl
theorem Ql{f M:List Int}{m n:Int}{E B:Bool}(l:d.a=eb)(J:F 75=d9 (.c E (eF f)))(U:F 76=d9 (.c B (eF M)))(P:F 77=d9 (.a m))(K:F 78=d9 (.a n))(C:f.length=M.length)(j:M.length≤100000)
  (Y:iZ m) (W:iZ n) (w:n≠0) (g:∀x∈f,iZ x):Ev d t F GK (.c eb (eF ((f.zip M).map λp=>p.2+(m*p.1).fdiv n))) t:=by
 have:=pV (d:=d) (t:=t) (F:=F) (T:=.p io (.a 80) (.p pP (.p jb (.a 77) (.a 81)) (.a 78))) (W:=[81,80]) (N:=.b (.a 75) (.a 76)) (Y:=wa) (L:=((eF f).zip (eF M)).map λp=>[p.1,p.2])
  (r2 .e λx y=>.a (y+(m*x).fdiv n)) (ym l (fg J) (fg U)) (zR rfl rfl (by rw[gB,gB];exact C)) (by rw[fC,kZ,gB,gB];lia) ?_
 ·rw[pH,gJ,gJ] at this
  rw(occs:=eO) [eF,gJ];exact this
 ·intro q G
  rw[pH,gJ] at G
  (refine CN G λx y R V=>?_;(clear G;obtain rfl:=V))
  have Z:=g x (rI R).1;have o:iS wa F [81,80] [.a x,.a y] 77=d9 (.a m):=congrArg (kH eD.e) P;have I:iS wa F [81,80] [.a x,.a y] 78=d9 (.a n):=congrArg (kH eD.e) K;show Ev d t (iS wa F [81,80] [.a x,.a y]) _ (.b (.a (y+(m*x).fdiv n))) t;exact hZ (fg (v:=.a y) rfl) (hZ (hZ (fg o) rfl (um (Ah Y) (Ah Z))) (fg I) (yW w W)) rfl
theorem Uv{k:Nat}{m:Int}{f M:List Int}(C:f.length=M.length)(j:M.length≤100)(E:M≠[])(Y:iZ (m-M.sum))(S:iZ f.sum)(d:∀x∈f,iZ x):
  gF eb (k+1) 23 [.a m,.c em (eF f),.c em (eF M)] t=d9 (.c eb (eF (kf m f M)),t):=by
 rw[iB (M:=[74,75,76]) (b:=sF) (by decide) rfl rfl];have p:(M.length:Int)≠0:=λe=>E (oN.1 (Wp e));have B:∀F:Fr,F 76=d9 (.c em (eF M))->Ev (dd eb k) t F (.w 0 (.a 76)) (.a M.length) t:=λF h=>by
  have:=jN (d:=dd eb k) (t:=t) (fg h) (sG (Q:=eb) (z:=eF M) rfl rfl (by rw[gB];lia));rwa [gB] at this
 have I:Ex (dd eb k) t (fh [74,75,76] [.a m,.c em (eF f),.c em (eF M)]) (.l em [77,78] (.A (.a (.p gS (.a 74) (.w 1 (.a 76))) (.a (.w 1 (.a 75)) .b)))) .a t
   (eL (eL (fh [74,75,76] [.a m,.c em (eF f),.c em (eF M)]) 77 (.a (m-M.sum))) 78 (.a f.sum)):=
  oS (as:=[.a (m-M.sum),.a f.sum]) rfl (ki (eV (hZ (u:=.a M.sum) (fg rfl) (jN rfl rj) rfl) (eV (jN rfl rj) fJ)) rfl (iO rfl)) rfl
 have G:∀F:Fr,∀o,F 74=d9 (.a m)->F 75=d9 (.c o (eF (jz f M)))->F 76=d9 (.c em (eF M))->F 77=d9 (.a (m-M.sum))->F 78=d9 (.a (mI f M))->(jz f M).length=M.length->iZ (mI f M)->mI f M≠0->(∀x∈jz f M,iZ x)->
   ∃a,f7 (dd eb k) t F (.a (.a 65 GK) (.a (.a 79 (.p gS (.a 74) (.w 1 (.a 65)))) (.a (.g GJ) .b))) (.b (.c eb (eF (kf m f M)))) t a:=by
  intro F o O J U c K X l r L;refine⟨_,eG (fO (Ql rfl J U c K X (by lia) Y l r L) rfl) (eG (fO (v:=.a (m-(nX m f M).sum)) (hZ (u:=.a (nX m f M).sum) (fg O) (jN rfl rj) rfl) rfl) (iq (i7 (Pu rfl rfl rfl ?_) rfl)))⟩;rw(occs:=eO) [nX,fC,kZ];lia
 have b:∀F:Fr,F 78=d9 (.a f.sum)->Ev (dd eb k) t F (.h fZ (.a 78) (.d 0)) (.d (eU (f.sum=0))) t:=λF h=>gG (fg h) (v:=.a f.sum) rfl rfl;by_cases q:f.sum=0
 ·have P:jz f M=iJ M.length 1:=if_pos q
  have V:mI f M=M.length:=if_pos q;have i:eF (iJ M.length 1)=iJ M.length (eT.a 1):=WN;refine fL (G (eL (eL (eL (eL (fh [74,75,76] [.a m,.c em (eF f),.c em (eF M)]) 77 (.a (m-M.sum))) 78 (.a f.sum)) 75 (.c eb (eF (iJ M.length 1)))) 78 (.a M.length)) eb rfl
   (by rw[P];rfl) rfl rfl (by rw[V];rfl) (by rw[P,xA]) (by rw[V];unfold iZ;lia) (by rw[V];exact p) (by rw[P];intro x Z;rw[(KG.1 Z).2];decide)) λa g=>?_
  have y:Ev (dd eb k) t (eL (eL (fh [74,75,76] [.a m,.c em (eF f),.c em (eF M)]) 77 (.a (m-M.sum))) 78 (.a f.sum)) (.p jb (.z (.a (.d 1) .b)) (.w 0 (.a 76))) (.c eb (eF (iJ M.length 1))) t:=by
   refine hZ (v:=.c eb [.a 1]) rfl (B _ rfl) ?_;show(eh<|>(if _ then _ else _))=_;rw[if_pos ⟨rfl,by lia,by lia⟩,i];rfl
  have:f7 (dd eb k) t (fh [74,75,76] [.a m,.c em (eF f),.c em (eF M)]) sF (.b (.c eb (eF (kf m f M)))) t a:=
   eG I (eG (jj (decide_eq_true q▸b _ rfl) (eG (fO y rfl) (eG (fO (B _ rfl) rfl) fp))) g)
  show gP (sF.c _ _ (fh [74,75,76] [.a m,.c em (eF f),.c em (eF M)]))=_;rw[this];rfl
 ·have P:jz f M=f:=if_neg q
  have V:mI f M=f.sum:=if_neg q;refine fL (G (eL (eL (fh [74,75,76] [.a m,.c em (eF f),.c em (eF M)]) 77 (.a (m-M.sum))) 78 (.a f.sum)) em rfl
   (by rw[P];rfl) rfl rfl (by rw[V];rfl) (by rw[P];exact C) (by rw[V];exact S) (by rw[V];exact q) (by rw[P];exact d)) λa g=>?_
  have:f7 (dd eb k) t (fh [74,75,76] [.a m,.c em (eF f),.c em (eF M)]) sF (.b (.c eb (eF (kf m f M)))) t a:=
   eG I (eG (gU (decide_eq_false q▸b _ rfl) fp) g)
  show gP (sF.c _ _ (fh [74,75,76] [.a m,.c em (eF f),.c em (eF M)]))=_;rw[this];rfl
noncomputable def nM:Int->Nat->List Int
 |_,0=>[]
 |r,n+1=>(if 0<r then 1 else 0)::nM (r-1) n
theorem yS:∀(r:Int) n,(nM r n).length=n
 |_,0=>rfl
 |r,n+1=>congrArg Nat.succ (yS (r-1) n)
theorem Gs:∀(r:Int) n,r≤0->nM r n=iJ n 0
 |_,0,_=>rfl
 |r,n+1,h=>by
  show(if 0<r then 1 else 0)::nM (r-1) n=_;rw[if_neg (by lia),Gs (r-1) n (by lia)];rfl
theorem B6:∀(k n:Nat),k≤n->nM k n=iJ k 1++iJ (n-k) 0
 |0,n,_=>Gs 0 n (ja 0)
 |k+1,0,h=>absurd h (W' _)
 |k+1,n+1,h=>by
  show(if 0<((k+1:Nat):Int) then 1 else 0)::nM (((k+1:Nat):Int)-1) n=_;rw[if_pos (by lia),show((k+1:Nat):Int)-1=k by lia,B6 k n (by lia),Nat.succ_sub_succ];rfl
theorem xb:∀(k:Nat) (x:Int),(iJ k x).sum=k*x:=by
 intro N
 induction N with
 |zero=>
  intro x;exact(Wq x).symm
 |succ k D=>
  intro x;rw[KI,ky,D x,show((k+1:Nat):Int)=k+1 from rfl,xw,DI,Int.add_comm]
theorem w8(a b:List Int):(a++b).sum=a.sum+b.sum:=by
 induction a with
 |nil=>exact(Int.zero_add _).symm
 |cons x r D=>rw[Ks,ky,ky,D];lia
theorem Pr{k n:Nat}(h:k≤n):(nM k n).sum=k:=by rw[B6 k n h,w8,xb,xb];lia
theorem Pv:∀(l:List Int) (r:Int) (k:Nat),((l.zipIdx k).map λp=>p.1+(if(p.2:Int)<r then 1 else 0))=uJ (·+·) l (nM (r-k) l.length):=by
 intro N
 induction N with
 |nil=>
  intro U U;exact rfl
 |cons a l D=>
  intro r k;show(a+(if(k:Int)<r then 1 else 0))::((l.zipIdx (k+1)).map λp=>p.1+(if(p.2:Int)<r then 1 else 0))=(a+if 0<r-k then 1 else 0)::uJ (·+·) l (nM (r-k-1) l.length);rw[D r (k+1),show r-k-1=r-((k+1:Nat):Int) by lia];by_cases h:(k:Int)<r
  ·rw[if_pos h,if_pos (by lia)]
  ·rw[if_neg h,if_neg (by lia)]
theorem Pt(r:Int)(l:List Int):v5 r l=uJ (·+·) l (nM r l.length):=by
 have:=Pv l r 0;rwa [show r-((0:Nat):Int)=r by lia] at this
theorem Jg:∀(a b:List Int),a.length=b.length->(uJ (·+·) a b).sum=a.sum+b.sum
 |[],[],_=>rfl
 |[],_::_,h=>by exact nZ h
 |_::_,[],h=>by exact rB h
 |a::r,b::s,h=>by
  rw[List.zipWith_cons_cons,ky,ky,ky,Jg r s (nA h)];lia
theorem G5{R N:Int}(g:0≤R)(O:0<N):∀(W M:List Int),W.length=M.length->(∀x∈W,0≤x)->
  M.sum*N≤((W.zip M).map λp=>p.2+(R*p.1).fdiv N).sum*N∧((W.zip M).map λp=>p.2+(R*p.1).fdiv N).sum*N≤M.sum*N+R*W.sum∧M.sum*N+R*W.sum≤((W.zip M).map λp=>p.2+(R*p.1).fdiv N).sum*N+M.length*N
 |[],[],_,_=>by show(0:Int)*N≤0*N∧0*N≤0*N+R*0∧0*N+R*0≤0*N+((0:Nat):Int)*N;lia
 |[],_::_,h,_=>by exact nZ h
 |_::_,[],h,_=>by exact rB h
 |a::W,l::M,h,p=>by
  have D:=G5 g O W M (nA h) λx Z=>p x (gC _ Z);have b:=p a (gp ..);rw[xD,gj,ky,ky,ky];have e:(R*a).fdiv N=(R*a)/N:=Wl _ (xx O);have Y:(R*a)/N*N≤R*a:=Int.ediv_mul_le _ (Int.ne_of_gt O);have o:R*a<((R*a)/N+1)*N:=Int.lt_ediv_add_one_mul_self _ O;have k:0≤(R*a)/N*N:=DH (Wk (DH g b) (xx O)) (xx O);rw[e];generalize ((W.zip M).map λp=>p.2+(R*p.1).fdiv N).sum=S at D ⊢;generalize (R*a)/N=Q at Y o k ⊢;rw[xw,DI] at o;rw[show(((l::M).length:Nat):Int)=(M.length:Int)+1 from rfl];simp only[xw,Int.mul_add,DI];generalize S*N=s at D ⊢;generalize Q*N=q at Y o k ⊢;generalize R*a=A at Y o ⊢;generalize R*W.sum=rw at D ⊢;generalize M.sum*N=P at D ⊢;generalize (M.length:Int)*N=w at D ⊢;lia
theorem wZ{f M:List Int}(h:f.length=M.length):(jz f M).length=M.length:=by
 unfold jz;split
 ·exact xA
 ·exact h
theorem I0{f M:List Int}:(jz f M).sum=mI f M:=by
 unfold jz mI;split
 ·rw[xb];lia
 ·rfl
theorem w9:∀{l:List Int},(∀x∈l,0≤x)->0≤l.sum:=by
 intro N
 induction N with
 |nil=>
  intro U;exact ja 0
 |cons a r D=>
  intro h;have:=D λx Z=>h x (gC _ Z);have:=h a (gp ..);rw[ky];lia
theorem IZ{f M:List Int}(h:∀x∈f,0≤x):∀x∈jz f M,0≤x:=by
 unfold jz;split
 ·intro x Z;rw[(KG.1 Z).2];decide
 ·exact h
theorem De{f M:List Int}(h:∀x∈f,0≤x)(E:M≠[]):0<mI f M:=by
 have:=w9 h;have:0<M.length:=DV.2 E;unfold mI;split<;>lia
theorem Dd{m:Int}{f M:List Int}(h:f.length=M.length):(nX m f M).length=M.length:=by
 rw(occs:=eO) [nX,fC,kZ,wZ h,D8]
theorem Ti{m:Int}{f M:List Int}(h:f.length=M.length)(g:∀x∈f,0≤x)(E:M≠[])(a:M.sum≤m):∃k:Nat,m-(nX m f M).sum=k∧k≤M.length:=by
 have r:=De g E;refine gY (G5 (R:=m-M.sum) (by omega) r (jz f M) M (wZ h) (IZ g)) λU Y o=>?_;rw[I0,←xw] at Y o;have Y:=Wm Y r;rw[←xw] at o;have o:=Wm o r;refine(ey ((m-(nX m f M).sum).toNat) ?_ ?_)<;>unfold nX<;>omega
theorem Df{m:Int}{f M:List Int}(h:f.length=M.length)(g:∀x∈f,0≤x)(E:M≠[])(Y:M.sum≤m):
  ∃k:Nat,m-(nX m f M).sum=k∧k≤M.length∧kf m f M=uJ (·+·) (nX m f M) (nM k M.length):=by
 refine eR (Ti h g E Y) λk e l=>?_;refine(fQ k e l ?_);rw(occs:=eO) [kf,Pt,e,Dd h]
theorem Dg{m:Int}{f M:List Int}(h:f.length=M.length):(kf m f M).length=M.length:=by
 rw(occs:=eO) [kf,v5,fC,KB,Dd h]
theorem Dh{m:Int}{f M:List Int}(h:f.length=M.length)(a:∀x∈f,0≤x)(E:M≠[])(Y:M.sum≤m):(kf m f M).sum=m:=by
 refine f5 (Df h a E Y) λk e l g=>?_;rw[g,Jg _ _ (by rw[Dd h,yS]),Pr l];lia
theorem Gr:∀(r:Int) n,∀x∈nM r n,0≤x
 |_,0,x,h=>absurd h iI
 |r,n+1,x,h=>by
  rcases gy.1 h with e|h
  ·rw[e];split<;>decide
  ·exact Gr _ n x h
theorem Qn{R N:Int}(g:0≤R)(f:0<N):∀(W M b:List Int),W.length=M.length->b.length=M.length->(∀x∈W,0≤x)->(∀x∈b,0≤x)->
  ∀p∈M.zip (uJ (·+·) ((W.zip M).map λp=>p.2+(R*p.1).fdiv N) b),p.1≤p.2:=by
 intro W
 induction W with
 |nil=>intro M b U U U U p h;exact absurd h (by rw[List.zip_nil_left,uI,List.zipWith_nil_left,List.zip_nil_right];exact iI)
 |cons a W D=>
  intro M b K I d O;cases M with
  |nil=>exact rB K
  |cons l M=>
   cases b with
   |nil=>exact nZ I
   |cons c b=>
    intro p J;rcases gy.1 J with e|J
    ·have k:0≤(R*a).fdiv N:=by
      rw[Wl _ (xx f)];exact Wk (DH g (d a (gp ..))) (xx f)
     have:=O c (gp ..);rw[e];show l≤l+(R*a).fdiv N+c;omega
    ·exact D M b (nA K) (nA I) (λx Z=>d x (gC _ Z)) (λx Z=>O x (gC _ Z)) p J
theorem Uu{m:Int}{f M:List Int}(h:f.length=M.length)(a:∀x∈f,0≤x)(E:M≠[])(Y:M.sum≤m):∀p∈M.zip (kf m f M),p.1≤p.2:=by
 refine f5 (Df h a E Y) λk e l g=>?_;rw[g];exact Qn (by lia) (De a E) (jz f M) M _ (wZ h) (yS ..) (IZ a) (Gr _ _)
theorem Qc{R N:Int}:∀(W M b:List Int),W.length=M.length->b.length=M.length->
  ((uJ (·+·) ((W.zip M).map λp=>p.2+(R*p.1).fdiv N) b).zip (M.zip W)).map (λp=>p.1-p.2.1-(R*p.2.2).fdiv N)=b:=by
 intro W
 induction W with
 |nil=>
  intro M b K I;rw[oN.mp K.symm] at I ⊢;rw[oN.mp I];rfl
 |cons a W D=>
  intro M b K I;cases M with
  |nil=>exact rB K
  |cons l M=>
   cases b with
   |nil=>exact nZ I
   |cons c b=>
    show(l+(R*a).fdiv N+c-l-(R*a).fdiv N)::_=c::b
    congr 1
    ·lia
    ·exact D M b (nA K) (nA I)
theorem Ut{m:Int}{f M:List Int}(h:f.length=M.length)(a:∀x∈f,0≤x)(E:M≠[])(Y:M.sum≤m):
  ∃k:Nat,k≤M.length∧((kf m f M).zip (M.zip (jz f M))).map (λp=>p.1-p.2.1-((m-M.sum)*p.2.2).fdiv (mI f M))=iJ k 1++iJ (M.length-k) 0:=by
 refine f5 (Df h a E Y) λk e l g=>?_;refine(ey k l ?_);rw[g,←B6 k _ l];exact Qc (jz f M) M _ (wZ h) (yS ..)
abbrev tp(l:List Int):eT:=.f (eF l)
abbrev i9(l:List (List Int)):List eT:=l.map tp
theorem Iz:∀l:List Int,∃r,kO (eF l)=d9 r:=by
 intro N
 induction N with
 |nil=>
  exact⟨_,rfl⟩
 |cons a r D=>
  refine fL (D) λx h=>?_;exact⟨mo a::x,by show(kO (eF r)).map _=_;rw[h];rfl⟩
theorem Iy:∀l:List (List Int),∃r,kO (i9 l)=d9 r:=by
 intro N
 induction N with
 |nil=>
  exact⟨_,rfl⟩
 |cons a r D=>
  refine fL (D) λx h=>?_;refine fL (Iz a) λy g=>?_;exact⟨xT y::x,by show((kO (eF a)).map _).bind _=_;rw[g];show(kO (i9 r)).map _=_;rw[h];rfl⟩
theorem RD{o:Bool}:∀l:List (List Int),mU t gd (.c o (i9 l)) (.c eb [])=d9 (!eU (l=[])):=by
 intro N
 induction N with
 |nil=>
  exact rfl
 |cons a r D=>
  refine fL (Iy (a::r)) λx h=>?_;obtain⟨y,g⟩ :∃y,x=xT y::(x.tail):=by
   refine fL (Iy r) λz I=>?_;refine fL (Iz a) λy g=>?_;have:kO (i9 (a::r))=d9 (xT y::z):=by show((kO (eF a)).map _).bind _=_;rw[g];show(kO (i9 r)).map _=_;rw[I];rfl
   rw[h] at this;(clear h;obtain rfl:=eX this);exact⟨y,rfl⟩
  show((yZ (((d9 (i9 (a::r))).bind kO).map tF) (d9 (tF []))):Option Bool).map _=_;show((yZ ((kO (i9 (a::r))).map tF) (d9 (tF []))):Option Bool).map _=_;rw[h,g];show((if _ then _ else _:Option Bool)).map _=_;rw[if_pos (im (W9 _ _) (by decide))];rfl
theorem Dp{l:List (List Int)}(h:F 67=d9 (.c eb (i9 l))):Ev d t F tW (.d (!eU (l=[]))) t:=gG (fg h) rfl (RD l)
theorem Jl{l:List (List Int)}{x:List Int}(h:F 67=d9 (.c eb (i9 (l++[x])))):Ev d t F tW (.d eb) t:=by
 have:=Dp (d:=d) (t:=t) h;rwa [decide_eq_false (by intro e;exact absurd (congrArg qB e) (by rw[il];exact KQ _))] at this
theorem ET{m:List Nat}{x:Nat}{l:List (List Int)}{y:List Int}(a:d.a=eb)(h:F x=d9 (.c eb (i9 (l++[y]))))(C:y.length=m.length)(j:l.length<100000):
  Ex d t F (.y m x) .a t (fV (eL F x (.c eb (i9 l))) m (eF y)):=by
 have e:i9 (l++[y])=i9 l++[tp y]:=lb;show(jE F x).bind _=_;rw[qu h,e];show((i9 l++[tp y]).getLast?).bind _=_;rw[WG];show(if _ then _ else _)=_;rw[if_pos ⟨a,by rw[gB];exact C,by rw[il,fC];exact j⟩,Kt]
theorem G8{P:eB->Fr->Bool}{W:List Nat}{B:eB->Fr->Option (Fl×eB×Fr)}{I:Fr->List (List Int)->Prop}{f:List eT->List Int}(S:∀F,P t F=eb):
  ∀(m:List (List eT)) F l,I F l->l.length+m.length≤100000->(∀r∈m,∀F l,I F l->l.length≤100000->∃k,I k (l++[f r])∧B t (fV F W r)=d9 (.a,t,k))->
   ∃k,I k (l++m.map f)∧j9 P W B m t F=d9 (.a,t,k):=by
 intro N
 induction N with
 |nil=>
  intro F l h U U;exact(ey F (by rw[uI,mL];exact h) (nP (S F)))
 |cons r m D=>
  intro F l h C j;rw[lG] at C;refine eR (j r (gp ..) F l h (by lia)) λK c L=>?_;refine eR (D K _ c (by rw[il];show l.length+1+_≤_;lia) (λx Z=>j x (gC _ Z))) λH a b=>?_;refine(ey H ?_ ((mB (S F) L).trans b));rw[nq] at a;exact a
theorem zY{N:iF}{V:Fr}(h:N.d.all (λe=>e.P.isNone)=eb)(F:Fr):lR N J t V t F=true:=by
 show(pE t t J&&_)=eb;rw[Jb,Bool.true_and];refine iC.2 λe n=>?_;have:=iC.1 h e n;unfold m0;cases q:e.P with
 |none=>rfl
 |some i=>rw[q] at this;exact nB this
noncomputable def sz(t:eB)(a m:Int):Int:=if a=0 then(t.a m).d else(t.a m).e
noncomputable def hW(a s:Int)(w:gE):gE:=if a=0 then{ w with d:=s } else{ w with e:=s }
def f8(t:eB)(a:Int)(z:Int->Int):eB:={ t with a:=λm=>hW a (z m) (t.a m) }
theorem nW{a s:Int}{w:gE}:(hW a s w).a=w.a:=by unfold hW;split<;>rfl
theorem m7{a s:Int}{w:gE}:(hW a s w).b=w.b:=by unfold hW;split<;>rfl
theorem C9{a s:Int}{w:gE}:(hW a s w).c=w.c:=by unfold hW;split<;>rfl
theorem rF{a:Int}{z:Int->Int}{m:Int}:sz (f8 t a z) a m=z m:=by
 show(if a=0 then(hW a (z m) (t.a m)).d else(hW a (z m) (t.a m)).e)=_;unfold hW;by_cases h:a=0
 ·rw[if_pos h,if_pos h]
 ·rw[if_neg h,if_neg h]
theorem Tb{a:Int}:f8 t a (sz t a)=t:=by
 have:(λm=>hW a (sz t a m) (t.a m))=t.a:=by
  funext m;unfold hW sz;by_cases h:a=0
  ·rw[if_pos h,if_pos h]
  ·rw[if_neg h,if_neg h]
 show{ t with a:=λm=>hW a (sz t a m) (t.a m) }=t;rw[this]
noncomputable def kQ(z:Int->Int)(n s:Int):Int->Int:=λm=>if m=n then s else z m
theorem Ul{a s r:Int}{w:gE}:hW a s (hW a r w)=hW a s w:=by unfold hW;by_cases h:a=0<;>simp only[h,if_true,if_false]
theorem Tc{a n s:Int}{z:Int->Int}:(f8 t a z).f n (hW a s ((f8 t a z).a n))=f8 t a (kQ z n s):=by
 have:(λm=>if m=n then hW a s ((f8 t a z).a n) else(f8 t a z).a m)=λm=>hW a (kQ z n s m) (t.a m):=by
  funext m
  unfold kQ;by_cases h:m=n
  ·rw[if_pos h,if_pos h,h];exact Ul
  ·rw[if_neg h,if_neg h];rfl
 show{ f8 t a z with a:=λm=>if m=n then hW a s ((f8 t a z).a n) else(f8 t a z).a m }=_;rw[this];rfl
theorem Ok.ag{a:Int}{z:Int->Int}(h:Ok t T):Ok (f8 t a z) T where
 d n W c k:=h.d n W c (nW▸k)
 k n W c k:=C9.trans (h.k n W c (nW▸k))
 m n W:=by show((hW a (z n) (t.a n)).a).Nodup;rw[nW];exact h.m n W
 f:=h.f
 j:=h.j
 i n W:=by show(hW a (z n) (t.a n)).b=0↔(hW a (z n) (t.a n)).a=[];rw[nW,m7];exact h.i n W
theorem Q7{a b:Int}{z:Int->Int}:∀k n,lf (f8 t a z) b k n=lf t b k n:=by
 intro N
 induction N with
 |zero=>
  intro U;exact rfl
 |succ k D=>
  intro n;show(if(hW a (z n) (t.a n)).b=0 then _ else if fA (hW a (z n) (t.a n)).b=b then(pJ _ (hW a (z n) (t.a n)).a).sum else kN (pJ _ (hW a (z n) (t.a n)).a))=_;rw[nW,m7,funext (D)];rfl
theorem qY{a b:Int}{z:Int->Int}{n:Int}:LL (f8 t a z) T b n=LL t T b n:=Q7 _ _
theorem mJ{k:Nat}{n a:Int}:gF Q (k+1) 1023 [.b (.d n),.a a] t=d9 (.a (sz t a n),t):=by
 rw[iB (M:=[50,56]) (b:=sy) (by decide) rfl rfl];by_cases q:a=0
 ·have:f7 (dd Q k) t (fh [50,56] [.b (.d n),.a a]) sy (.b (.a (t.a n).d)) t _:=iq (i7 (lU (decide_eq_true q▸gG rfl rfl rfl) rfl) rfl)
  show gP (sy.c _ _ (fh [50,56] [.b (.d n),.a a]))=_;rw(occs:=eO) [this,sz,if_pos q];rfl
 ·have:f7 (dd Q k) t (fh [50,56] [.b (.d n),.a a]) sy (.b (.a (t.a n).e)) t _:=iq (i7 (lT (decide_eq_false q▸gG rfl rfl rfl) rfl) rfl)
  show gP (sy.c _ _ (fh [50,56] [.b (.d n),.a a]))=_;rw(occs:=eO) [this,sz,if_neg q];rfl
theorem nF{o:eW}{f:Nat}(h:Ev d t F e v E)(g:Ev d E F o u S)(q:Internal.wY S f u v=d9 C):Ex d t F (.d o f e) .a C F:=by
 show(e.q d t F).bind _=_;rw[h];show(o.q d E F).bind _=_;rw[g];show(Internal.wY S f u v).map _=_;rw[q];rfl
theorem Db{k:Nat}{n a s:Int}:gF Q (k+1) 1024 [.b (.d n),.a a,.a s] t=d9 (.b .e,t.f n (hW a s (t.a n))):=by
 rw[iB (M:=[50,56,57]) (b:=su) (by decide) rfl rfl];by_cases q:a=0
 ·have:f7 (dd Q k) t (fh [50,56,57] [.b (.d n),.a a,.a s]) su .a (t.f n { t.a n with d:=s }) _:=eG (jj (decide_eq_true q▸gG rfl rfl rfl) (eG (nF rfl rfl rfl) fp)) fp
  show gP (su.c _ _ (fh [50,56,57] [.b (.d n),.a a,.a s]))=_;rw(occs:=eO) [this,hW,if_pos q];rfl
 ·have:f7 (dd Q k) t (fh [50,56,57] [.b (.d n),.a a,.a s]) su .a (t.f n { t.a n with e:=s }) _:=eG (gU (decide_eq_false q▸gG rfl rfl rfl) (eG (nF rfl rfl rfl) fp)) fp
  show gP (su.c _ _ (fh [50,56,57] [.b (.d n),.a a,.a s]))=_;rw(occs:=eO) [this,hW,if_neg q];rfl
theorem CK:∀(l:List Int),(∀x∈l,0≤x)->0≤kN l∧∀x∈l,x≤kN l
 |[],_=>⟨ja 0,λU h=>absurd h iI⟩
 |[x],h=>⟨h x (gp ..),λy B=>by rw[gR.1 B];exact ja _⟩
 |x::y::r,h=>by
  have D:=CK (y::r) λz P=>h z (gC _ P);show 0≤max x (kN (y::r))∧∀z∈x::y::r,z≤max x (kN (y::r));refine⟨by lia,λz P=>?_⟩;rcases gy.1 P with e|P
  ·rw[e];lia
  ·have:=D.2 z P;lia
theorem zD{l:List Int}(h:∀x∈l,0≤x):∀x∈l,x≤l.sum:=by
 induction l with
 |nil=>exactλU h=>absurd h iI
 |cons a r D=>
  intro x Z;have:=h a (gp ..);have E:=λy B=>h y (gC _ B);have:=w9 E;rw[ky];rcases gy.1 Z with e|Z
  ·rw[e];lia
  ·have:=D E x Z;lia
theorem Jd{l:List Int}{B:Int}(h:∀x∈l,x≤B):l.sum≤l.length*B:=by
 induction l with
 |nil=>show(0:Int)≤((0:Nat):Int)*B;rw[show((0:Nat):Int)=0 from rfl,Wq];exact ja 0
 |cons a r D=>
  have:=h a (gp ..);have:=D λy b=>h y (gC _ b);rw(occs:=eO) [ky,lG,show((r.length+1:Nat):Int)=r.length+1 from rfl,xw,DI];lia
theorem qX{a n:Int}(h:Sh t T)(W:n∈t.b):0≤LL t T a n:=by
 refine h.M (P:=λn=>0≤LL t T a n) ?_ W;intro n W D;rw[lX h W];have z:∀x∈(t.a n).a.map (LL t T a),0≤x:=by intro x Z;(refine fP Z λc X P=>?_;(clear Z;obtain rfl:=P));exact D c X
 split
 ·unfold kr;split<;>decide
 ·split
  ·exact w9 z
  ·exact(CK _ z).1
theorem FC{a n c:Int}(h:Ok t T)(W:n∈t.b)(X:c∈(t.a n).a):LL t T a c≤LL t T a n:=by
 have z:∀x∈(t.a n).a.map (LL t T a),0≤x:=by intro x Z;(refine fP Z λc X V=>?_;(clear Z;obtain rfl:=V));exact qX h.e (h.d n W c X).1
 have Y:LL t T a c∈(t.a n).a.map (LL t T a):=jZ X;rw[lX (n:=n) h.e W,if_neg (λq=>by have:=(h.i n W).1 q;rw[this] at X;cases X)]
 split
 ·exact zD z _ Y
 ·exact(CK _ z).2 _ Y
def sU(t:eB)(b:Int->Nat)(a m s:Int):List (List Int):=
 if(t.a m).b=0 then[] else if fA (t.a m).b=a then((t.a m).a.zip (kf s ((t.a m).a.map λc=>sz t a c-LL t b a c) ((t.a m).a.map (LL t b a)))).map (λp=>[p.1,p.2]) else(t.a m).a.map λc=>[c,s]
structure FS(a:Int)(F:Fr)(l:List (List Int)):Prop where
 d:F 66=d9 (.b .c)
 c:F 56=d9 (.a a)
 f:F 67=d9 (.c eb (i9 l))
structure I5(a m s:Int)(F:Fr)(l:List (List Int)):Prop extends g:FS a F l where
 b:F 68=d9 (.b (.d m))
 e:F 83=d9 (.a s)
noncomputable abbrev Aj:List (Nat×fX):=[(48,eu),(73,eu),(22,eY),(56,gb),(66,gb)]
noncomputable abbrev Ak:List (Nat×fX):=[(48,eu),(73,eu),(80,eu),(56,gb),(66,gb)]
abbrev GM:eW:=.B (.j 22 (.a (.a 66) (.a (.a 73) (.a (.a 56) .b)))) [73] (.a (.c (.a 68) 3)) .b Aj
abbrev GP:eW:=.B (.p gS (.v (.n (.c (.a 66) 16) (.a 73)) 23 (.a (.a 56) .b)) (.a 80)) [73,80] (.b (.c (.a 68) 3) (.a 76)) .b Ak
noncomputable abbrev yN(j:Nat):Ss:=.a (.m 67 (.A (.a (.a 73) (.a (.a j) .b)))) .b
abbrev Tq:js:=.j [73,85] (.b (.c (.a 68) 3) (.j 23 (.a (.a 83) (.a (.a 84) (.a (.a 76) .b))))) (yN 85)
abbrev Tr:js:=.j [73] (.a (.c (.a 68) 3)) (yN 83)
abbrev IL:js:=.c (.h gd (.c (.a 68) 1) (.x 10)) (.a (.c (.h fZ (.j 15 (.a (.c (.a 68) 1) .b)) (.a 56)) (.a (.a 76 GM) (.a (.a 84 GP) (.a Tq .b))) (.a Tr .b)) .b) .b
abbrev Ge:Ss:=.a (.y [72,83] 67) (.a (.a 68 (.n (.c (.a 66) 16) (.a 72))) (.a IL (.a (.h (.v (.a 68) 24 (.a (.a 56) (.a (.a 83) .b)))) .b)))
theorem Dr{l:List (List Int)}{y:List Int}:i9 l++[tp y]=i9 (l++[y]):=by rw(occs:=eO) [i9,i9,lb];rfl
theorem QZ{a m s:Int}{l:List (List Int)}{k:Nat}(h:Ok t T)(Y:m∈t.b)(f:I5 a m s F l):Ev (dd eb (k+2)) t F GM (.c eb (eF ((t.a m).a.map (LL t T a)))) t:=by
 have U:=ly h.l Y;have:=h.j;have:=pV (d:=dd eb (k+2)) (t:=t) (F:=F) (T:=.j 22 (.a (.a 66) (.a (.a 73) (.a (.a 56) .b)))) (W:=[73]) (N:=.a (.c (.a 68) 3)) (Y:=Aj) (L:=(eF (t.a m).a).map λx=>[x])
  (r1 .e λc=>.a (LL t T a c)) (lL (gv (fg f.b) rfl)) (kP jL) (by rw[fC,gB];lia) ?_
 ·rw(occs:=eO) [gJ,gJ] at this;rw(occs:=eO) [eF,gJ];exact this
 ·intro r E
  (refine fP E λy B X=>?_;(clear E;obtain rfl:=X))
  (refine fP B λc b d=>?_;obtain rfl:=d)
  have J:iS Aj F [73] [.a c] 66=d9 (.b .c):=congrArg (kH eD.e) f.d;have K:iS Aj F [73] [.a c] 56=d9 (.a a):=congrArg (kH eD.e) f.c;exact gI (eV (fg J) (eV (fg (v:=.a c) rfl) (eV (fg K) fJ))) (zx h (h.d m Y c b).1)
theorem Av{L j:Type}{l:List L}{f:L->j}:l.zip (l.map f)=l.map λc=>(c,f c):=by
 induction l with
 |nil=>rfl
 |cons a r D=>rw[gj,xD,D];rfl
theorem UG{a m s:Int}{l:List (List Int)}{k:Nat}(h:Ok t T)(Y:m∈t.b)(f:I5 a m s F l)(W:F 76=d9 (.c eb (eF ((t.a m).a.map (LL t T a))))):
  Ev (dd eb (k+2)) t F GP (.c eb (eF ((t.a m).a.map λc=>sz t a c-LL t T a c))) t:=by
 have U:=ly h.l Y;have:=h.j;have:=pV (d:=dd eb (k+2)) (t:=t) (F:=F) (T:=.p gS (.v (.n (.c (.a 66) 16) (.a 73)) 23 (.a (.a 56) .b)) (.a 80)) (W:=[73,80]) (N:=.b (.c (.a 68) 3) (.a 76)) (Y:=Ak) (L:=((eF (t.a m).a).zip (eF ((t.a m).a.map (LL t T a)))).map λp=>[p.1,p.2])
  (r2 .e λc x=>.a (sz t a c-x)) (ym rfl (gv (fg f.b) rfl) (fg W)) (zR jL rfl (by rw[gB,gB,fC])) (by rw[fC,kZ,gB];lia) ?_
 ·rw(occs:=eO) [pH,Av,gJ,gJ,gJ] at this;rw(occs:=eO) [eF,gJ];exact this
 ·intro r E
  rw[pH,Av,gJ,gJ] at E
  (refine fP E λc X Z=>?_;(clear E;obtain rfl:=Z))
  have J:iS Ak F [73,80] [.a c,.a (LL t T a c)] 66=d9 (.b .c):=congrArg (kH eD.e) f.d;have K:iS Ak F [73,80] [.a c,.a (LL t T a c)] 56=d9 (.a a):=congrArg (kH eD.e) f.c;exact hZ (iL (iG h.f J (fg (v:=.a c) rfl) (h.d m Y c X).1) (eV (fg K) fJ) rfl mJ) (fg (v:=.a (LL t T a c)) rfl) rfl
theorem UO{a m s:Int}{l:List (List Int)}{k:Nat}(h:Ok t T)(Y:m∈t.b)(f:I5 a m s F l)(C:l.length≤1000)(d:LL t T a m≤s)(S:s≤8000)(P:∀c∈(t.a m).a,LL t T a c≤sz t a c∧sz t a c≤8000):
  ∃B,I5 a m s B (l++sU t T a m s)∧Ex (dd eb (k+2)) t F IL .a t B:=by
 have z:=ly h.l Y;have:=h.j;have A:=qX (a:=a) h.e Y;have j:Ev (dd eb (k+2)) t F (.h gd (.c (.a 68) 1) (.x 10)) (.d (!eU ((t.a m).b=0))) t:=gG (gv (fg f.b) rfl) rfl rfl;have J:(t.a m).b=0->Ev (dd eb (k+2)) t F (.h gd (.c (.a 68) 1) (.x 10)) (.d em) t:=λq=>by rw[decide_eq_true q] at j;exact j
 have L:¬(t.a m).b=0->Ev (dd eb (k+2)) t F (.h gd (.c (.a 68) 1) (.x 10)) (.d eb) t:=λq=>by rw[decide_eq_false q] at j;exact j
 have e:=lX (a:=a) h.e Y;by_cases q:(t.a m).b=0
 ·refine(ey F ?_ (gU (J q) fp))
  rw(occs:=eO) [sU,if_pos q,mL];exact f
 ·have y:(t.a m).a≠[]:=λr=>q ((h.i m Y).2 r)
  rw[if_neg q] at e;by_cases o:fA (t.a m).b=a
  ·rw[if_pos o] at e
   have v:=QZ (k:=k) h Y f;have V:=UG (k:=k) (F:=eL F 76 (.c eb (eF ((t.a m).a.map (LL t T a))))) h Y ⟨⟨f.d,f.c,f.f⟩,f.b,f.e⟩ rfl;have R:=Dg (m:=s) (f:=(t.a m).a.map λc=>sz t a c-LL t T a c) (M:=(t.a m).a.map (LL t T a)) (by rw[fC,fC]);rw[fC] at R;have K:∀x∈(t.a m).a.map (λc=>sz t a c-LL t T a c),0≤x∧x≤8000:=by
    intro x Z;(refine fP Z λc X n=>?_;(clear Z;obtain rfl:=n));have:=P c X;have:=qX (a:=a) h.e (h.d m Y c X).1;lia
   have Q:=Jd λx Z=>(K x Z).2;have O:=w9 λx Z=>(K x Z).1;rw[fC] at Q;have w:=Uv (t:=t) (k:=k+1) (m:=s) (f:=(t.a m).a.map λc=>sz t a c-LL t T a c) (M:=(t.a m).a.map (LL t T a)) (by rw[fC,fC]) (by rw[fC];lia)
    (λr=>y (ny.1 r)) (by rw[←e];unfold iZ;lia) (by unfold iZ;lia) (λx Z=>by have:=K x Z;unfold iZ;lia)
   obtain⟨B,u,g⟩ :=G8 (t:=t) (P:=lR (.b (.c (.a 68) 3) (.j 23 (.a (.a 83) (.a (.a 84) (.a (.a 76) .b))))) [.f m t.h,.c eb (eF (kf s ((t.a m).a.map λc=>sz t a c-LL t T a c) ((t.a m).a.map (LL t T a))))] t
     (eL (eL F 76 (.c eb (eF ((t.a m).a.map (LL t T a))))) 84 (.c eb (eF ((t.a m).a.map λc=>sz t a c-LL t T a c)))))
    (W:=[73,85]) (B:=λt F=>(yN 85).c (dd eb (k+2)) t F) (I:=I5 a m s) (f:=r2 [] λc p=>[c,p]) (zY rfl)
    (((eF (t.a m).a).zip (eF (kf s ((t.a m).a.map λc=>sz t a c-LL t T a c) ((t.a m).a.map (LL t T a))))).map λp=>[p.1,p.2])
    (eL (eL F 76 (.c eb (eF ((t.a m).a.map (LL t T a))))) 84 (.c eb (eF ((t.a m).a.map λc=>sz t a c-LL t T a c)))) l ⟨⟨f.d,f.c,f.f⟩,f.b,f.e⟩
    (by rw[fC,kZ,gB];lia)
    (λr E F l f C=>by
     rw[pH,gJ] at E
     (refine CN E λc p U b=>?_;(clear E;obtain rfl:=b))
     exact(ey (eL (fV F [73,85] [.a c,.a p]) 67 (.c eb (i9 (l++[[c,p]])))) ⟨⟨f.d,f.c,rfl⟩,f.b,f.e⟩ (Dr▸eG (qO (y:=tp [c,p]) (ki (eV (fg (v:=.a c) rfl) (eV (fg (v:=.a p) rfl) fJ)) rfl (iO rfl)) f.f (by rw[fC];exact C)) fp)))
   refine(ey B ?_ (jj (L q) (eG (jj (decide_eq_true o▸yJ f.b f.c) (eG (fO v rfl) (eG (fO V rfl) (eG (mQ (ym rfl (gv (fg f.b) rfl)
    (gI (eV (fg f.e) (eV (fg rfl) (eV (fg rfl) fJ))) w)) (zR jL rfl (by rw[gB,gB,R])) rfl rfl g) fp)))) fp)))
   rw[pH,gJ,gJ] at u;rw(occs:=eO) [sU,if_neg q,if_pos o];exact u
  ·obtain⟨B,u,g⟩ :=G8 (t:=t) (P:=lR (.a (.c (.a 68) 3)) [.f m t.h] t F)
    (W:=[73]) (B:=λt F=>(yN 83).c (dd eb (k+2)) t F) (I:=I5 a m s) (f:=r1 [] λc=>[c,s]) (zY rfl)
    ((eF (t.a m).a).map λx=>[x]) F l f (by rw[fC,gB];lia)
    (λr E F l f C=>by
     rw[gJ] at E
     (refine fP E λc U i=>?_;(clear E;obtain rfl:=i))
     exact(ey (eL (fV F [73] [.a c]) 67 (.c eb (i9 (l++[[c,s]])))) ⟨⟨f.d,f.c,rfl⟩,f.b,f.e⟩ (Dr▸eG (qO (y:=tp [c,s]) (ki (eV (fg (v:=.a c) rfl) (eV (fg (v:=.a s) f.e) fJ)) rfl (iO rfl)) f.f (by rw[fC];exact C)) fp)))
   refine(ey B ?_ (jj (L q) (eG (gU (decide_eq_false o▸yJ f.b f.c) (eG (mQ (lL (gv (fg f.b) rfl)) (kP jL) rfl rfl g) fp)) fp)));rw[gJ,gJ] at u;rw(occs:=eO) [sU,if_neg q,if_neg o];exact u
theorem UP{a m s:Int}{l:List (List Int)}{k:Nat}(h:Ok t T)(Y:m∈t.b)(f:FS a F (l++[[m,s]]))(C:l.length≤1000)(d:LL t T a m≤s)(S:s≤8000)(P:∀c∈(t.a m).a,LL t T a c≤sz t a c∧sz t a c≤8000):
  ∃B,FS a B (l++sU t T a m s)∧Ge.c (dd eb (k+2)) t F=d9 (.a,t.f m (hW a s (t.a m)),B):=by
 refine eR (UO (k:=k) (F:=eL (fV (eL F 67 (.c eb (i9 l))) [72,83] [.a m,.a s]) 68 (.b (.d m))) (l:=l) h Y ⟨⟨f.d,f.c,rfl⟩,rfl,rfl⟩ C d S P) λB u g=>?_;exact(ey B u.g (eG (ET rfl f.f rfl (by lia)) (eG (fO (iG h.f f.d (fg (v:=.a m) rfl) Y) rfl) (eG g (eG (j5 (iL (fg u.b) (eV (fg u.c) (eV (fg u.e) fJ)) rfl Db)) fp)))))
def Dn(t:eB)(b:Int->Nat)(a:Int)(z V:Int->Int)(x:Int):Prop:=(t.a x).b≠0->
 if fA (t.a x).b=a then(t.a x).a.map V=kf (V x) ((t.a x).a.map λc=>z c-LL t b a c) ((t.a x).a.map (LL t b a)) else∀c∈(t.a x).a,V c=V x
theorem Dn.f{z V y L:Int->Int}{x:Int}(b:Dn t T a z V x)(K:∀c∈(t.a x).a,y c=z c)(I:∀c∈(t.a x).a,L c=V c)(W:L x=V x):Dn t T a y L x:=by
 intro S;have:=b S;by_cases q:fA (t.a x).b=a
 ·rw[if_pos q] at this ⊢
  rw[kh I,this,W,kh (f:=λc=>y c-LL t T a c) (g:=λc=>z c-LL t T a c) λc X=>by rw[K c X]]
 ·rw[if_neg q] at this ⊢
  intro c X;rw[I c X,this c X,W]
abbrev uB(k N:Nat)(t:eB)(F:Fr):=mj (λt F=>tW.q (dd eb (k+2)) t F) (λt F=>Ge.c (dd eb (k+2)) t F) N t F
structure yC(t:eB)(rk:Int->Nat)(a S:Int)(z z':Int->Int)(l:List Int):Prop where
 b:∀x,(∀c∈l,x∉PP t rk c)->z' x=z x
 d:∀c∈l,∀x∈PP t rk c,LL t rk a x≤z' x∧z' x≤S∧Dn t rk a z z' x
theorem zB(l:List Int):l.length≤(l.flatMap (PP t T)).length:=by
 induction l with
 |nil=>exact ig _
 |cons c r D=>have:=FI t T c;rw[kY,il,lG];lia
theorem QL{m s:Int}{z:Int->Int}(h:Ok t T)(Y:m∈t.b)(d:LL t T a m≤s)(b:∀c∈(t.a m).a,LL t T a c≤z c):
  ∃q:List (Int×Int),sU (f8 t a z) T a m s=q.map (λp=>[p.1,p.2])∧q.map kz=(t.a m).a∧(∀p∈q,LL t T a p.1≤p.2∧p.2≤s)∧
   ((t.a m).b≠0->if fA (t.a m).b=a then q.map Ea=kf s ((t.a m).a.map λc=>z c-LL t T a c) ((t.a m).a.map (LL t T a)) else∀p∈q,p.2=s):=by
 unfold sU;have P:((f8 t a z).a m).a=(t.a m).a:=nW;have V:((f8 t a z).a m).b=(t.a m).b:=m7;rw[P,V];have e:=lX (a:=a) h.e Y;by_cases q:(t.a m).b=0
 ·rw[if_pos q]
  refine(lP ([]) rfl (by rw[(h.i m Y).1 q];rfl) (λU h=>absurd h iI) (λr=>absurd q r))
 ·have E:(t.a m).a≠[]:=λr=>q ((h.i m Y).2 r)
  rw[if_neg q] at e ⊢;by_cases o:fA (t.a m).b=a
  ·rw[if_pos o] at e ⊢
   have y:((t.a m).a.map λc=>sz (f8 t a z) a c-LL (f8 t a z) T a c)=(t.a m).a.map λc=>z c-LL t T a c:=kh λc U=>by rw[rF,qY]
   have G:(t.a m).a.map (LL (f8 t a z) T a)=(t.a m).a.map (LL t T a):=kh λc U=>qY;rw[y,G];have k:((t.a m).a.map λc=>z c-LL t T a c).length=((t.a m).a.map (LL t T a)).length:=by rw[fC,fC]
   have K:∀x∈(t.a m).a.map (λc=>z c-LL t T a c),0≤x:=by
    intro x Z;(refine fP Z λc g P=>?_;(clear Z;obtain rfl:=P));have:=b c g;omega
   have C:(t.a m).a.map (LL t T a)≠[]:=λr=>E (ny.1 r);have A:=Uu (m:=s) k K C (by omega);have f:=Dh (m:=s) k K C (by omega);have w:=Dg (m:=s) k;rw[fC] at w;have I:∀x∈kf s ((t.a m).a.map λc=>z c-LL t T a c) ((t.a m).a.map (LL t T a)),0≤x:=by
    intro x Z;obtain⟨i,D,rfl⟩ :=KF.1 Z;have M:i<(t.a m).a.length:=by rw[←w];exact D
    have j:i<((t.a m).a.map (LL t T a)).length:=by rw[fC];exact M
    have b:i<(((t.a m).a.map (LL t T a)).zip (kf s ((t.a m).a.map λc=>z c-LL t T a c) ((t.a m).a.map (LL t T a)))).length:=by rw[kZ];omega
    have:=A _ (uH b);rw[DR] at this;have L:0≤((t.a m).a.map (LL t T a))[i]:=by rw[WF];exact qX h.e (h.d m Y _ (uH M)).1
    exact jY L this
   refine(lP ((t.a m).a.zip (kf s ((t.a m).a.map λc=>z c-LL t T a c) ((t.a m).a.map (LL t T a)))) rfl (D0 (by omega)) ?_ (λU=>by rw[if_pos o];exact List.map_snd_zip (by omega)));intro p J;obtain⟨i,D,rfl⟩ :=KF.1 J;rw[kZ] at D;have M:i<(t.a m).a.length:=by omega
   have j:i<((t.a m).a.map (LL t T a)).length:=by rw[fC];exact M
   have b:i<(((t.a m).a.map (LL t T a)).zip (kf s ((t.a m).a.map λc=>z c-LL t T a c) ((t.a m).a.map (LL t T a)))).length:=by rw[kZ];omega
   have:=A _ (uH b);rw[DR,WF] at this;rw[DR];have B:=zD I _ (uH (n:=i) (by omega));rw[f] at B;exact⟨this,B⟩
  ·rw[if_neg o]
   refine(lP ((t.a m).a.map λc=>(c,s)) (by rw[gJ];rfl) (by rw[gJ];exact KD _) ?_ (λU=>by rw[if_neg o];intro p J;(refine fP J λc U V=>?_;(clear J;obtain rfl:=V));rfl));intro p J
   (refine fP J λc g X=>?_;(clear J;obtain rfl:=X))
   have:=FC (a:=a) h Y g;exact⟨jY this d,ja _⟩
theorem UQ(h:Ok t T){k:Nat}{n:Int}(W:n∈t.b):∀(s:Int) (N:Nat) (z:Int->Int) F l,FS a F (l++[[n,s]])->l.length+(PP t T n).length≤1000->LL t T a n≤s->s≤8000->(∀x∈PP t T n,LL t T a x≤z x∧z x≤8000)->
  ∃A F',FS a F' l∧A n=s∧yC t T a s z A [n]∧uB k (N+(PP t T n).length) (f8 t a z) F=uB k N (f8 t a A) F':=by
 refine h.e.M (P:=λn=>∀(s:Int) (N:Nat) (z:Int->Int) F l,FS a F (l++[[n,s]])->l.length+(PP t T n).length≤1000->LL t T a n≤s->s≤8000->(∀x∈PP t T n,LL t T a x≤z x∧z x≤8000)->
  ∃A F',FS a F' l∧A n=s∧yC t T a s z A [n]∧uB k (N+(PP t T n).length) (f8 t a z) F=uB k N (f8 t a A) F') ?_ W
 intro n W ih s N z F l f hl d S O;have e:PP t T n=_:=lx h.e W;have el:(PP t T n).length=((t.a n).a.flatMap (PP t T)).length+1:=by rw[e];rfl
 have l0:=zB (t:=t) (T:=T) (t.a n).a;have hk:∀c∈(t.a n).a,c∈PP t T n:=λc X=>by rw[e];exact gC _ (qD.2 (ey c X (lY h.e (h.d n W c X).1)))
 refine eR (UP (k:=k) (t:=f8 t a z) h.ag W f (by lia) (by rw[qY];exact d) S (λc X=>by rw[qY,rF];exact O c (hk c (nW▸X)))) λK j L=>?_;rw[Tc] at L;refine nU (QL (z:=z) h W d (λc X=>(O c (hk c X)).1)) λq q1 o q3 q4=>?_;rw[q1] at j
 --ag aj,ag ak aq first
 have g:∀(r:List (Int×Int)),(r.map kz).Nodup->(∀p∈r,p.1∈(t.a n).a∧LL t T a p.1≤p.2∧p.2≤s)->∀(N:Nat) (z:Int->Int) F l,FS a F (l++(r.map λp=>[p.1,p.2]).reverse)->l.length+((r.map kz).flatMap (PP t T)).length≤1000->
   (∀p∈r,∀x∈PP t T p.1,LL t T a x≤z x∧z x≤8000)->
   ∃A F',FS a F' l∧(∀p∈r,A p.1=p.2)∧yC t T a s z A (r.map kz)∧uB k (N+((r.map kz).flatMap (PP t T)).length) (f8 t a z) F=uB k N (f8 t a A) F':=by
  intro r
  induction r with
  |nil=>intro _ _ N z F l f _ _;exact(kM z F (by rw[uI,D6,mL] at f;exact f) (λU h=>absurd h iI) ⟨λU U=>rfl,λU h=>absurd h iI⟩ rfl)
  |cons p r af=>
   intro nd J N z F l f hl O;rw[gj,kG] at nd;refine gY (J p (gp ..)) λM p1 p2=>?_;rw[gj,oh,←nq] at f;rw[gj,kY,il] at hl ⊢;have:=zB (t:=t) (T:=T) (r.map kz);rw[fC] at this;have ac:∀v∈r,∀x,x∈PP t T p.1->x∉PP t T v.1:=λv I=>yE h.l W M (J v (gC _ I)).1 (λe=>nd.1 (e▸jZ I));refine jD (ih p.1 M p.2 (N+((r.map kz).flatMap (PP t T)).length) z F (l++(r.map λp=>[p.1,p.2]).reverse) f (by rw[il,n9,fC];lia) p1 (by lia) (O p (gp ..))) λD K j P E L=>?_;have ae:∀v∈r,∀x∈PP t T v.1,D x=z x:=λv I x Z=>E.b x λc X=>by
    rw[gR.1 X];exactλR=>ac v I x R Z
   refine jD (af nd.2 (λv I=>J v (gC _ I)) N D K l j (by lia) (λv I x Z=>by rw[ae v I x Z];exact O v (gC _ I) x Z)) λG H w V B g2=>?_;have Q:∀x∈PP t T p.1,G x=D x:=λx Z=>B.b x λc X=>by
    (refine fP X λv I e4=>?_;(clear X;obtain rfl:=e4));exact ac v I x Z
   refine(kM G H w ?_ ⟨?_,?_⟩ ?_)
   ·intro v I
    rcases gy.1 I with e|I
    ·rw[e,Q _ (lY h.e (h.d n W _ M).1),P]
    ·exact V v I
   ·intro x Z
    rw[B.b x λc X=>Z c (gC _ X),E.b x λc X=>Z c (by rw[gR.1 X];exact gp ..)]
   ·intro c X x Z
    rcases gy.1 X with e|X
    ·clear X
     subst e;refine gY (E.d p.1 (gp ..) x Z) λy u b3=>?_;have b:=λc X=>p8 h.e (h.d n W _ M).1 Z (c:=c) X;rw[Q x Z];exact⟨y,by lia,b3.f (λU U=>rfl) (λc X=>Q c (b c X)) (Q x Z)⟩
    ·refine gY (B.d c X x Z) λy u b3=>?_
     (refine fP X λv I e5=>?_;(clear X;clear X;obtain rfl:=e5))
     have b:=λc X=>p8 h.e (h.d n W _ (J v (gC _ I)).1).1 Z (c:=c) X;exact⟨y,u,b3.f (λc X=>(ae v I c (b c X)).symm) (λU U=>rfl) rfl⟩
   ·rw(occs:=eO) [KM (PP t T p.1).length,←xE];exact L.trans g2
 have i:q.reverse.map kz=(t.a n).a.reverse:=by rw[nz,o]
 have Y:((t.a n).a.reverse.flatMap (PP t T)).length=((t.a n).a.flatMap (PP t T)).length:=by
  have:∀l:List Int,(l.reverse.flatMap (PP t T)).length=(l.flatMap (PP t T)).length:=by
   intro l;induction l with
   |nil=>rfl
   |cons c r ih=>rw[oh,WD,il,ih,kY,il,kY,DP,il];show _+(_+0)=_;lia
  exact this _
 have aa:∀c∈(t.a n).a,n∉PP t T c:=λc X hm=>by
  have:=(h.d n W c X).2;rcases tZ h.e (h.d n W c X).1 _ hm with e|q
  ·rw[e] at this;exact absurd this (lg _)
  ·lia
 refine jD (g q.reverse (by rw[i];exact(WU _).nodup_iff.2 (h.m n W)) (λp J=>by
   have J:=lI.1 J;exact⟨o▸jZ J,q3 p J⟩) N (kQ z n s) K l (by rw[nz,WV];exact j) (by rw[i,Y];lia) (λp J x Z=>by
   have M:p.1∈(t.a n).a:=o▸jZ (lI.1 J);have:x≠n:=λe=>aa p.1 M (e▸Z);rw(occs:=eO) [kQ,if_neg this];exact O x (by rw[e];exact gC _ (qD.2 (ey _ M Z))))) λG H w V B g2=>?_
 rw[i] at B g2;rw[Y] at g2;have m:G n=s:=by
  rw[B.b n λc X=>aa c (lI.1 X)];exact if_pos rfl
 have ek:∀c∈(t.a n).a,c≠n:=λc X e=>aa c X (e▸lY h.e (h.d n W c X).1);refine(kM G H w m ⟨?_,?_⟩ ?_)
 ·intro x Z
  have Z:=Z n (gp ..);rw[e] at Z;rw[B.b x λc X R=>Z (gC _ (qD.2 (ey c (lI.1 X) R)))];exact if_neg (show x≠n fromλe=>Z (e▸gp ..))
 ·intro c X x Z
  rw[gR.1 X,e] at Z;rcases gy.1 Z with e|Z
  ·clear W ih f hl O el l0 hk L q1 g i Y aa B g2 ek X Z
   subst e;refine⟨by rw[m];exact d,by rw[m];exact ja _,λS=>?_⟩;have:=q4 S;by_cases c:fA (t.a x).b=a
   ·rw[if_pos c] at this ⊢
    rw[m,←this,←o,gJ];exact kh λp J=>V p (lI.2 J)
   ·rw[if_neg c] at this ⊢
    intro c X;rw[←o] at X
    (refine fP X λp J e6=>?_;(clear X;obtain rfl:=e6))
    rw[V p (lI.2 J),this p J,m]
  ·refine rA Z λc' C Z=>?_
   refine gY (B.d c' (lI.2 C) x Z) λy u b3=>?_;exact⟨y,u,b3.f (λc X=>(if_neg (show c≠n fromλe=>aa c' C (e▸p8 h.e (h.d n W _ C).1 Z X))).symm) (λU U=>rfl) rfl⟩
 ·rw(occs:=eO) [el,←xE]
  exact(Dx (Jl f.f) L).trans g2
theorem IV(h:Ok t T){n s:Int}(W:n∈t.b)(d:LL t T a n≤s)(S:s≤8000)(P:∀x∈PP t T n,LL t T a x≤sz t a x∧sz t a x≤8000){k:Nat}:
  ∃A,gF eb (k+3) 24 [.b .c,.a n,.a a,.a s] t=d9 (.b .e,f8 t a A)∧A n=s∧yC t T a s (sz t a) A [n]:=by
 have C:=oW h.l W;have:=h.j;rw[iB (M:=[66,53,56,57]) (b:=vR) (by decide) rfl rfl];obtain⟨N,O⟩ :∃N,10000=(N+1)+(PP t T n).length:=⟨9999-(PP t T n).length,by lia⟩;refine jD (UQ (k:=k) h W s (N+1) (sz t a) (eL (fh [66,53,56,57] [.b .c,.a n,.a a,.a s]) 67 (.c eb (i9 [[n,s]]))) [] ⟨rfl,rfl,rfl⟩ (by show 0+_≤_;lia) d S P) λA b f m o g=>?_;rw[Tb,←O] at g;have g:=g.trans (Dw (Dp (l:=[]) f.f));have:f7 (dd eb (k+2)) t (fh [66,53,56,57] [.b .c,.a n,.a a,.a s]) vR .a (f8 t a A) b:=
  eG (fO (qN (eV (v:=.b (tp [n,s])) (ki (eV (fg (v:=.a n) rfl) (eV (fg (v:=.a s) rfl) fJ)) rfl (iO rfl)) fJ) rfl (iO rfl)) rfl) (eG g fp)
 refine(fQ A ?_ m o);show gP (vR.c _ _ (fh [66,53,56,57] [.b .c,.a n,.a a,.a s]))=_;rw[this];rfl
theorem u9{i:Nat}{y:List Nat}{as:List eT}{n:Int}(l:d.a=eb)(h:Ev d t F e (.b (.f as)) E)(g:F i=d9 (.b (.d n)))(q:rD E n y as=d9 S):Ex d t F (.s i y e) .a S F:=by
 show(e.q d t F).bind _=_;rw[h];show(qz F i).bind _=_;rw[show qz F i=d9 n by unfold qz;rw[g];rfl];show(if _ then _ else _)=_;rw[if_pos l,q];rfl
noncomputable def gz(t:eB)(P:Int->Int×Int):eB:={ t with a:=λm=>{ t.a m with g:=(P m).1,h:=(P m).2 } }
noncomputable def xm(P:Int->Int×Int)(n:Int)(l:Int×Int):Int->Int×Int:=λm=>if m=n then l else P m
theorem Ta{P:Int->Int×Int}{n:Int}{l:Int×Int}:(gz t P).f n { (gz t P).a n with g:=l.1,h:=l.2 }=gz t (xm P n l):=by
 have:(λm=>if m=n then{ (gz t P).a n with g:=l.1,h:=l.2 } else(gz t P).a m)=λm=>{ t.a m with g:=(xm P n l m).1,h:=(xm P n l m).2 }:=by
  funext m
  unfold xm;by_cases h:m=n
  ·rw[if_pos h,if_pos h,h];rfl
  ·rw[if_neg h,if_neg h];rfl
 show{ gz t P with a:=λm=>if m=n then{ (gz t P).a n with g:=l.1,h:=l.2 } else(gz t P).a m }=_;rw[this];rfl
theorem S':gz t (λm=>((t.a m).g,(t.a m).h))=t:=rfl
theorem Ok.ac{P:Int->Int×Int}(h:Ok t T):Ok (gz t P) T:=⟨⟨⟨h.d⟩,h.k,h.m⟩,h.f,h.j,h.i⟩
def nY(t:eB)(s:Int)(l:Int×Int)(c:Int):Int×Int:=if fA s=0 then(l.1+(t.a c).d,l.2) else(l.1,l.2+(t.a c).e)
noncomputable def l7(t:eB)(s:Int):Int×Int->List Int->List (Int×Int×Int)
 |_,[]=>[]
 |l,c::r=>(c,l)::l7 t s (nY t s l c) r
noncomputable abbrev wt(p:Int×Int×Int):List Int:=[p.1,p.2.1,p.2.2]
theorem Cy{s:Int}:∀(l:Int×Int) (W:List Int),(l7 t s l W).map kz=W
 |_,[]=>rfl
 |l,c::r=>by show c::_=_;rw[Cy _ r]
structure oX(F:Fr)(l:List (List Int)):Prop where
 a:F 66=d9 (.b .c)
 b:F 67=d9 (.c eb (i9 l))
structure vp(m:Int)(l2:Int×Int)(F:Fr)(l:List (List Int)):Prop extends f:oX F l where
 c:F 68=d9 (.b (.d m))
 e:F 86=d9 (.a l2.1)
 d:F 87=d9 (.a l2.2)
noncomputable abbrev BX:Ss:=.a (.m 67 (.A (.a (.a 73) (.a (.a 86) (.a (.a 87) .b))))) (.a (.c (.h fZ (.j 15 (.a (.c (.a 68) 1) .b)) (.x 13)) (.a (.a 86 (.p io (.a 86) (.c (.n (.c (.a 66) 16) (.a 73)) 6))) .b) (.a (.a 87 (.p io (.a 87) (.c (.n (.c (.a 66) 16) (.a 73)) 7))) .b)) .b)
abbrev Gd:Ss:=.a (.y [53,86,87] 67) (.a (.a 68 (.n (.c (.a 66) 16) (.a 53))) (.a (.s 68 [4,5] (.A (.a (.a 86) (.a (.a 87) .b)))) (.a (.j [73] (.a (.c (.a 68) 3)) BX) .b)))
theorem QI{m c:Int}{V:Int×Int}{l:List (List Int)}{k:Nat}(G:t.g=7)(X:c∈t.b)(f:vp m V F l)(C:l.length≤100000):
  ∃h,vp m (nY t (t.a m).b V c) h (l++[[c,V.1,V.2]])∧BX.c (dd eb (k+1)) t (fV F [73] [.a c])=d9 (.a,t,h):=by
 have o:Ex (dd eb (k+1)) t (fV F [73] [.a c]) (.m 67 (.A (.a (.a 73) (.a (.a 86) (.a (.a 87) .b))))) .a t (eL (fV F [73] [.a c]) 67 (.c eb (i9 (l++[[c,V.1,V.2]])))):=
  Dr▸qO (y:=tp [c,V.1,V.2]) (ki (eV (fg (v:=.a c) rfl) (eV (fg (v:=.a V.1) f.e) (eV (fg (v:=.a V.2) f.d) fJ))) rfl (iO rfl)) f.b (by rw[fC];exact C)
 have j:Ev (dd eb (k+1)) t (eL (fV F [73] [.a c]) 67 (.c eb (i9 (l++[[c,V.1,V.2]])))) (.h fZ (.j 15 (.a (.c (.a 68) 1) .b)) (.x 13)) (.d (eU (fA (t.a m).b=0))) t:=
  gG (gI (eV (gv (fg f.c) rfl) fJ) ub) rfl rfl
 by_cases q:fA (t.a m).b=0
 ·rw(occs:=eO) [decide_eq_true q] at j
  refine(ey _ ?_ (eG o (eG (jj j (eG (fO (v:=.a (V.1+(t.a c).d)) (hZ (fg f.e) (gv (iG G f.a (fg (v:=.a c) rfl) X) rfl) rfl) rfl) fp)) fp)));rw(occs:=eO) [nY,if_pos q];exact⟨⟨f.a,rfl⟩,f.c,rfl,f.d⟩
 ·rw(occs:=eO) [decide_eq_false q] at j
  refine(ey _ ?_ (eG o (eG (gU j (eG (fO (v:=.a (V.2+(t.a c).e)) (hZ (fg f.d) (gv (iG G f.a (fg (v:=.a c) rfl) X) rfl) rfl) rfl) fp)) fp)));rw(occs:=eO) [nY,if_neg q];exact⟨⟨f.a,rfl⟩,f.c,f.e,rfl⟩
theorem QM{m:Int}{k:Nat}{P:eB->Fr->Bool}(G:t.g=7)(S:∀F,P t F=eb):∀(W:List Int) (h:Int×Int) F l,(∀c∈W,c∈t.b)->vp m h F l->l.length+W.length≤100000->
  ∃F' B,vp m B F' (l++(l7 t (t.a m).b h W).map wt)∧j9 P [73] (λt F=>BX.c (dd eb (k+1)) t F) ((eF W).map λx=>[x]) t F=d9 (.a,t,F'):=by
 intro N
 induction N with
 |nil=>
  intro h F l U f U;exact(ib F h (by show vp m h F (l++[]);rw[mL];exact f) (nP (S F)))
 |cons c r D=>
  intro h F l M f C;rw[lG] at C;refine eR (QI (k:=k) G (M c (gp ..)) f (by lia)) λK j L=>?_;refine iH (D _ K _ (λx Z=>M x (gC _ Z)) j (by rw[il];show l.length+1+_≤_;lia)) λH B w a=>?_;refine(ib H B ?_ ((mB (S F) L).trans a));rw[nq] at w;exact w
theorem UE{m:Int}{V:Int×Int}{l:List (List Int)}{k:Nat}(h:Ok t T)(Y:m∈t.b)(f:oX F (l++[[m,V.1,V.2]]))(C:l.length≤1000):
  ∃B,oX B (l++(l7 t (t.a m).b V (t.a m).a).map wt)∧Gd.c (dd eb (k+1)) t F=d9 (.a,t.f m { t.a m with g:=V.1,h:=V.2 },B):=by
 have U:=ly h.l Y;have:=h.j;let E:=t.f m { t.a m with g:=V.1,h:=V.2 };have L:∀x,(E.a x).a=(t.a x).a∧(E.a x).b=(t.a x).b∧(E.a x).d=(t.a x).d∧(E.a x).e=(t.a x).e:=by
  intro x;show((if x=m then _ else _:gE).a)=_∧((if x=m then _ else _:gE).b)=_∧((if x=m then _ else _:gE).d)=_∧((if x=m then _ else _:gE).e)=_;by_cases e:x=m
  ·rw[if_pos e,e];exact⟨rfl,rfl,rfl,rfl⟩
  ·rw[if_neg e];exact⟨rfl,rfl,rfl,rfl⟩
 have N:∀(s:Int) (l:Int×Int) (a:List Int),l7 E s l a=l7 t s l a:=by
  intro s l a
  induction a generalizing l with
  |nil=>rfl
  |cons c r D=>show(c,l)::_=(c,l)::_;rw[D];unfold nY;rw[(L c).2.2.1,(L c).2.2.2]
 refine iH (QM (t:=E) (k:=k) (m:=m) (P:=lR (.a (.c (.a 68) 3)) [.f m E.h] E (eL (fV (eL F 67 (.c eb (i9 l))) [53,86,87] [.a m,.a V.1,.a V.2]) 68 (.b (.d m)))) h.f (zY rfl) (E.a m).a V
  (eL (fV (eL F 67 (.c eb (i9 l))) [53,86,87] [.a m,.a V.1,.a V.2]) 68 (.b (.d m))) l (λc X=>(h.d m Y c ((L m).1▸X)).1) ⟨⟨f.a,rfl⟩,rfl,rfl,rfl⟩ (by rw[(L m).1];lia)) λB b u g=>?_
 rw[N,(L m).1,(L m).2.1] at u;refine(ey B u.f (eG (ET rfl f.b rfl (by lia)) (eG (fO (iG h.f f.a (fg (v:=.a m) rfl) Y) rfl) (eG (E:=E) ?_ (eG (mQ (lL (gv (fg rfl) rfl)) (kP jL) rfl rfl g) fp)))));have d:Ev (dd eb (k+1)) t (eL (fV (eL F 67 (.c eb (i9 l))) [53,86,87] [.a m,.a V.1,.a V.2]) 68 (.b (.d m))) (.A (.a (.a 86) (.a (.a 87) .b))) (.b (tp [V.1,V.2])) t:=
  ki (eV (fg (v:=.a V.1) rfl) (eV (fg (v:=.a V.2) rfl) fJ)) rfl (iO rfl)
 refine u9 rfl d rfl ?_;have:rD t m [4,5] (eF [V.1,V.2])=d9 E:=by
  show d9 ((t.f m { t.a m with g:=V.1 }).f m { (t.f m { t.a m with g:=V.1 }).a m with h:=V.2 })=d9 E;have P:(t.f m { t.a m with g:=V.1 }).a m={ t.a m with g:=V.1 }:=if_pos rfl;rw[P];show d9 { t with a:=λx=>if x=m then _ else(if x=m then _ else t.a x) }=d9 { t with a:=λx=>if x=m then _ else t.a x }
  congr 2
  funext x
  by_cases e:x=m
  ·rw[if_pos e,if_pos e]
  ·rw[if_neg e,if_neg e,if_neg e]
 exact this
def yF(t:eB)(P:Int->Int×Int)(x:Int):Prop:=∀p∈l7 t (t.a x).b (P x) (t.a x).a,P p.1=p.2
structure yD(t:eB)(rk:Int->Nat)(P P':Int->Int×Int)(l:List Int):Prop where
 a:∀x,(∀c∈l,x∉PP t rk c)->P' x=P x
 b:∀c∈l,∀x∈PP t rk c,yF t P' x
abbrev uA(k N:Nat)(t:eB)(F:Fr):=mj (λt F=>tW.q (dd eb (k+1)) t F) (λt F=>Gd.c (dd eb (k+1)) t F) N t F
theorem Hz{s:Int}{p:Int×Int×Int}{l:Int×Int}{W:List Int}(h:p∈l7 t s l W):p.1∈W:=by
 have:=jZ (f:=kz) h;rwa [Cy] at this
theorem yF.f{P a:Int->Int×Int}{x:Int}(h:yF t P x)(K:a x=P x)(I:∀c∈(t.a x).a,a c=P c):yF t a x:=by
 intro p J;rw[K] at J;rw[I _ (Hz J)];exact h p J
theorem Qg(l:List Int):(l.reverse.flatMap (PP t T)).length=(l.flatMap (PP t T)).length:=by
 induction l with
 |nil=>rfl
 |cons c r D=>rw[oh,WD,il,D,kY,il,kY,DP,il];show _+(_+0)=_;lia
theorem zG(h:Un t T){n c:Int}(W:n∈t.b)(X:c∈(t.a n).a):n∉PP t T c:=λY=>by
 have:=(h.d n W c X).2;rcases tZ h.e (h.d n W c X).1 _ Y with e|q
 ·rw[e] at this;exact absurd this (lg _)
 ·lia
theorem HA{s:Int}{P:Int->Int×Int}:∀(l:Int×Int) (W:List Int),l7 (gz t P) s l W=l7 t s l W
 |_,[]=>rfl
 |l,c::r=>by show(c,l)::l7 (gz t P) s (nY t s l c) r=_;rw[HA];rfl
theorem UF(h:Ok t T){k:Nat}{n:Int}(W:n∈t.b):∀(l2:Int×Int) (N:Nat) (aa:Int->Int×Int) F l,oX F (l++[[n,l2.1,l2.2]])->l.length+(PP t T n).length≤1000->
  ∃P' F',oX F' l∧P' n=l2∧yD t T aa P' [n]∧uA k (N+(PP t T n).length) (gz t aa) F=uA k N (gz t P') F':=by
 refine h.e.M (P:=λn=>∀(l2:Int×Int) (N:Nat) (aa:Int->Int×Int) F l,oX F (l++[[n,l2.1,l2.2]])->l.length+(PP t T n).length≤1000->
  ∃P' F',oX F' l∧P' n=l2∧yD t T aa P' [n]∧uA k (N+(PP t T n).length) (gz t aa) F=uA k N (gz t P') F') ?_ W
 intro n W D l2 N aa F l f C;have e:PP t T n=_:=lx h.e W;have d:(PP t T n).length=((t.a n).a.flatMap (PP t T)).length+1:=by rw[e];rfl
 have A:=zB (t:=t) (T:=T) (t.a n).a;refine eR (UE (k:=k) (t:=gz t aa) h.ac W f (by lia)) λK j L=>?_;rw[Ta] at L;rw[HA] at j;have j:oX K (l++(l7 t (t.a n).b l2 (t.a n).a).map wt):=j;have o:=Cy (t:=t) (s:=(t.a n).b) l2 (t.a n).a;have g:∀(r:List (Int×Int×Int)),(r.map kz).Nodup->(∀p∈r,p.1∈(t.a n).a)->∀(N:Nat) (aa:Int->Int×Int) F l,oX F (l++(r.map wt).reverse)->l.length+((r.map kz).flatMap (PP t T)).length≤1000->
   ∃P' F',oX F' l∧(∀p∈r,P' p.1=p.2)∧yD t T aa P' (r.map kz)∧uA k (N+((r.map kz).flatMap (PP t T)).length) (gz t aa) F=uA k N (gz t P') F':=by
  intro r
  induction r with
  |nil=>intro _ _ N aa F l f _;exact(kM aa F (by rw[uI,D6,mL] at f;exact f) (λU h=>absurd h iI) ⟨λU U=>rfl,λU h=>absurd h iI⟩ rfl)
  |cons p r z=>
   intro G J N aa F l f C;rw[gj,kG] at G;have M:=J p (gp ..);rw[gj,oh,←nq] at f;rw[gj,kY,il] at C ⊢;have:=zB (t:=t) (T:=T) (r.map kz);rw[fC] at this;have S:∀v∈r,∀x,x∈PP t T p.1->x∉PP t T v.1:=λv I=>yE h.l W M (J v (gC _ I)) (λe=>G.1 (e▸jZ I));refine jD (D p.1 M p.2 (N+((r.map kz).flatMap (PP t T)).length) aa F (l++(r.map wt).reverse) f (by rw[il,n9,fC];lia)) λy K j P E L=>?_;refine jD (z G.2 (λv I=>J v (gC _ I)) N y K l j (by lia)) λq H w V B a=>?_;have Q:∀x∈PP t T p.1,q x=y x:=λx Z=>B.a x λc X=>by
    (refine fP X λv I P=>?_;(clear X;obtain rfl:=P));exact S v I x Z
   refine(kM q H w ?_ ⟨?_,?_⟩ ?_)
   ·intro v I
    rcases gy.1 I with e|I
    ·rw[e,Q _ (lY h.e (h.d n W _ M).1),P]
    ·exact V v I
   ·intro x Z
    rw[B.a x λc X=>Z c (gC _ X),E.a x λc X=>Z c (by rw[gR.1 X];exact gp ..)]
   ·intro c X x Z
    rcases gy.1 X with e|X
    ·clear X
     subst e;have u:=λc X=>p8 h.e (h.d n W _ M).1 Z (c:=c) X;exact(E.b p.1 (gp ..) x Z).f (Q x Z) (λc X=>Q c (u c X))
    ·exact B.b c X x Z
   ·rw(occs:=eO) [KM (PP t T p.1).length,←xE];exact L.trans a
 have i:(l7 t (t.a n).b l2 (t.a n).a).reverse.map kz=(t.a n).a.reverse:=by rw[nz,o]
 have Y:=Qg (t:=t) (T:=T) (t.a n).a;refine jD (g (l7 t (t.a n).b l2 (t.a n).a).reverse (by rw[i];exact(WU _).nodup_iff.2 (h.m n W)) (λp J=>Hz (lI.1 J)) N (xm aa n l2) K l
  (by rw[nz,WV];exact j) (by rw[i,Y];lia)) λq H w V B a=>?_
 rw[i] at B a;rw[Y] at a;have m:q n=l2:=by
  rw[B.a n λc X=>zG h.l W (lI.1 X)];exact if_pos rfl
 refine(kM q H w m ⟨?_,?_⟩ ?_)
 ·intro x Z
  have Z:=Z n (gp ..);rw[e] at Z;rw[B.a x λc X R=>Z (gC _ (qD.2 (ey c (lI.1 X) R)))];exact if_neg (show x≠n fromλe=>Z (e▸gp ..))
 ·intro c X x Z
  rw[gR.1 X,e] at Z;rcases gy.1 Z with e|Z
  ·clear W D f C d A j L o g i Y B a X Z;clear j
   rw[e];intro p J;rw[m] at J;exact V p (lI.2 J)
  ·refine rA Z λb s Z=>?_
   exact B.b b (lI.2 s) x Z
 ·rw(occs:=eO) [d,←xE]
  exact(Dx (Jl f.b) L).trans a
theorem Uo(h:Ok t T)(E:t.d∈t.b){k:Nat}:
  ∃l,gF eb (k+2) 25 [.b .c] t=d9 (.b .e,gz t l)∧l t.d=(0,0)∧yD t T (λm=>((t.a m).g,(t.a m).h)) l [t.d]:=by
 have C:=oW h.l E;have:=h.j;rw[iB (M:=[66]) (b:=vQ) (by decide) rfl rfl];obtain⟨N,O⟩ :∃N,10000=(N+1)+(PP t T t.d).length:=⟨9999-(PP t T t.d).length,by lia⟩;refine jD (UF (k:=k) h E (0,0) (N+1) (λm=>((t.a m).g,(t.a m).h)) (eL (fh [66] [.b .c]) 67 (.c eb (i9 [[t.d,0,0]]))) [] ⟨rfl,rfl⟩ (by show 0+_≤_;lia)) λa A f b o g=>?_;rw[S',←O] at g;have g:=g.trans (Dw (Dp (l:=[]) f.b));have:f7 (dd eb (k+1)) t (fh [66] [.b .c]) vQ .a (gz t a) A:=
  eG (fO (qN (eV (v:=.b (tp [t.d,0,0])) (ki (eV (ji (f:=5) (v:=.a t.d) rfl rfl h.f) (eV (v:=.a 0) rfl rfl)) rfl (iO rfl)) fJ) rfl (iO rfl)) rfl) (eG g fp)
 refine(fQ a ?_ b o);show gP (vQ.c _ _ (fh [66] [.b .c]))=_;rw[this];rfl
theorem P8{x y:Bool}:mU t fZ (.d x) (.d y)=d9 (x==y):=by cases x<;>cases y<;>rfl
theorem RB{x y:Bool}:mU t gd (.d x) (.d y)=d9 (!(x==y)):=by cases x<;>cases y<;>rfl
def BM(t:eB):Prop:=∀n∈t.b,(t.a n).b=0∨(t.a n).b=1∨(t.a n).b=2
theorem FO{s:Int}(S:s=1∨s=2)(M:a=0∨a=1):(eU (s=1)==eU (a=1))=eU (fA s=a):=by
 rcases S with rfl|rfl<;>rcases M with rfl|rfl<;>rfl
noncomputable abbrev Ai:List (Nat×fX):=[(48,eu),(73,eu),(40,eY),(56,gb),(66,gb)]
abbrev Ci:eW:=.B (.j 40 (.a (.a 66) (.a (.a 73) (.a (.a 56) .b)))) [73] (.a (.c (.a 72) 3)) .b Ai
noncomputable abbrev P5:eW:=.h fZ (.h fZ (.c (.a 72) 1) (.x 11)) (.h fZ (.a 56) (.x 14))
theorem HI{n:Int}{k:Nat}(h:Ok t T)(W:n∈t.b)(U:F 66=d9 (.b .c))(J:F 56=d9 (.a a))(d:F 72=d9 (.b (.d n)))(D:∀c∈(t.a n).a,gF eb k 40 [.b .c,.a c,.a a] t=d9 (.a (LL t T a c),t)):
  Ev (dd eb k) t F Ci (.c eb (eF ((t.a n).a.map (LL t T a)))) t:=by
 have e:=ly h.l W;have:=h.j;have:=pV (d:=dd eb k) (t:=t) (F:=F) (T:=.j 40 (.a (.a 66) (.a (.a 73) (.a (.a 56) .b)))) (W:=[73]) (N:=.a (.c (.a 72) 3)) (Y:=Ai) (L:=(eF (t.a n).a).map λx=>[x])
  (r1 .e λc=>.a (LL t T a c)) (lL (gv (fg d) rfl)) (kP jL) (by rw[fC,gB];lia) ?_
 ·rw(occs:=eO) [gJ,gJ] at this;rw(occs:=eO) [eF,gJ];exact this
 ·intro r E
  (refine fP E λy B P=>?_;(clear E;obtain rfl:=P))
  (refine fP B λc X V=>?_;(clear B;obtain rfl:=V))
  have b:iS Ai F [73] [.a c] 66=d9 (.b .c):=congrArg (kH eD.e) U;have K:iS Ai F [73] [.a c] 56=d9 (.a a):=congrArg (kH eD.e) J;exact gI (eV (fg b) (eV rfl (eV (fg K) fJ))) (D c X)
theorem HF(h:Ok t T)(S:BM t)(M:a=0∨a=1){n:Int}(W:n∈t.b):∀k,T n<k->gF eb k 40 [.b .c,.a n,.a a] t=d9 (.a (LL t T a n),t):=by
 refine h.e.M (P:=λn=>∀k,T n<k->gF eb k 40 [.b .c,.a n,.a a] t=d9 (.a (LL t T a n),t)) ?_ W;intro n W D k z;cases k with
 |zero=>exact absurd z (pK _)
 |succ k=>
  rw[iB (M:=[66,53,56]) (b:=sC) (by decide) rfl rfl];have I:Ex (dd eb k) t (fh [66,53,56] [.b .c,.a n,.a a]) (.a 72 (.n (.c (.a 66) 16) (.a 53))) .a t (eL (fh [66,53,56] [.b .c,.a n,.a a]) 72 (.b (.d n))):=fO (iG h.f rfl rfl W) rfl;have e:=lX (a:=a) h.e W;by_cases q:(t.a n).b=0
  ·rw[if_pos q] at e
   have:f7 (dd eb k) t (fh [66,53,56] [.b .c,.a n,.a a]) sC (.b (.a (kr a))) t _:=
    eG I (iq (jj (decide_eq_true q▸my rfl) (iq (i7 (jh (v:=.c eb [.a 3,.a 2]) (u:=.a a) rfl rfl (by(clear D I e;rcases M with rfl|rfl)<;>rfl)) rfl))))
   show gP (sC.c _ _ (fh [66,53,56] [.b .c,.a n,.a a]))=_;rw[this,e];rfl
  ·rw[if_neg q] at e
   have E:(t.a n).a≠[]:=λr=>q ((h.i n W).2 r);have L:=HI (k:=k) (F:=eL (fh [66,53,56] [.b .c,.a n,.a a]) 72 (.b (.d n))) h W rfl rfl rfl (λc X=>D c X k (by have:=(h.d n W c X).2;lia));have o:Ev (dd eb k) t (eL (eL (fh [66,53,56] [.b .c,.a n,.a a]) 72 (.b (.d n))) 65 (.c eb (eF ((t.a n).a.map (LL t T a))))) P5 (.d (eU (fA (t.a n).b=a))) t:=by
    rw[←FO ((S n W).resolve_left q) M];exact gG (v:=.d (eU ((t.a n).b=1))) (u:=.d (eU (a=1))) rfl rfl P8
   have:∃A,f7 (dd eb k) t (fh [66,53,56] [.b .c,.a n,.a a]) sC (.b (.a (LL t T a n))) t A:=by
    by_cases c:fA (t.a n).b=a
    ·rw[decide_eq_true c] at o
     rw[if_pos c] at e;exact⟨_,eG I (eG (gU (decide_eq_false q▸my rfl) fp) (eG (fO L rfl) (iq (i7 (lU o (jN rfl (e▸rj))) rfl))))⟩
    ·rw[decide_eq_false c] at o
     rw[if_neg c] at e;refine⟨_,eG I (eG (gU (decide_eq_false q▸my rfl) fp) (eG (fO L rfl) (iq (i7 (lT o (jN rfl ?_)) rfl))))⟩;show((jC t (.c em (eF ((t.a n).a.map (LL t T a))))).bind _)=_;rw[sN,e];show(if _ then _ else _)=_;rw[if_pos ⟨rfl,λr=>E (ny.1 r)⟩]
   refine fL this λA g=>?_;show gP (sC.c _ _ (fh [66,53,56] [.b .c,.a n,.a a]))=_;rw[g];rfl
noncomputable def pl(t:eB)(a m:Int):Int:=if a=0 then(t.a m).g else(t.a m).h
theorem wQ{k:Nat}{n a:Int}:gF Q (k+1) 1025 [.b (.d n),.a a] t=d9 (.a (pl t a n),t):=by
 rw[iB (M:=[50,56]) (b:=sr) (by decide) rfl rfl];by_cases q:a=0
 ·have:f7 (dd Q k) t (fh [50,56] [.b (.d n),.a a]) sr (.b (.a (t.a n).g)) t _:=iq (i7 (lU (decide_eq_true q▸gG (fg rfl) rfl rfl) (gv (fg rfl) rfl)) rfl)
  show gP (sr.c _ _ (fh [50,56] [.b (.d n),.a a]))=_;rw(occs:=eO) [this,pl,if_pos q];rfl
 ·have:f7 (dd Q k) t (fh [50,56] [.b (.d n),.a a]) sr (.b (.a (t.a n).h)) t _:=iq (i7 (lT (decide_eq_false q▸gG (fg rfl) rfl rfl) (gv (fg rfl) rfl)) rfl)
  show gP (sr.c _ _ (fh [50,56] [.b (.d n),.a a]))=_;rw(occs:=eO) [this,pl,if_neg q];rfl
noncomputable def Sq(t:eB)(a:Int):Int->List Int->Int->Prop
 |p,[],q=>p=q
 |p,c::r,q=>pl t a c=p∧Sq t a (p+sz t a c) r q
structure OH(t:eB)(n:Int):Prop where
 b:2≤(t.a n).a.length
 d:∀c∈(t.a n).a,c∈t.b∧(t.a c).c=n∧(t.a c).b≠(t.a n).b∧sz t (1-fA (t.a n).b) c=sz t (1-fA (t.a n).b) n∧pl t (1-fA (t.a n).b) c=pl t (1-fA (t.a n).b) n
 a:Sq t (fA (t.a n).b) (pl t (fA (t.a n).b) n) (t.a n).a (pl t (fA (t.a n).b) n+sz t (fA (t.a n).b) n)
structure BD(t:eB)(n:Int):Prop where
 a:(t.a n).b=0->(t.a n).a=[]∧3≤(t.a n).d∧2≤(t.a n).e
 b:(t.a n).b≠0->OH t n
theorem fu{n:Int}(h:F i=d9 (.a n)):Ev d t F (.a i) (.a n) t:=fg h
theorem i4{n:Int}(h:F i=d9 (.b (.d n))):Ev d t F (.a i) (.b (.d n)) t:=fg h
theorem pW{w:Es}(h:w.h d t F=d9 (em,E)):Ev d t F (.D jw w) (.d em) E:=by show(w.h d t F).map _=_;rw[h];rfl
theorem ES{w:Es}(h:w.h d t F=d9 (eb,E)):Ev d t F (.D jw w) (.d eb) E:=by show(w.h d t F).map _=_;rw[h];rfl
theorem jS{w:Es}{b:Bool}(h:Ev d t F e (.d em) E)(g:w.h d E F=d9 (b,S)):(Es.a e w).h d t F=d9 (b,S):=by show(e.q d t F).bind _=_;rw[h];exact g
theorem FQ{w:Es}(h:Ev d t F e (.d eb) E):(Es.a e w).h d t F=d9 (eb,E):=by show(e.q d t F).bind _=_;rw[h];rfl
theorem lV{x y:Int}(h:Ev d t F P (.a x) E)(g:Ev d E F V (.a y) S)(q:x=y):Ev d t F (.h gd P V) (.d em) S:=
 gG h g (by show d9 (!eU (x=y))=_;rw[decide_eq_true q];rfl)
theorem Bb{x y:Int}(h:Ev d t F P (.a x) E)(g:Ev d E F V (.a y) S)(q:¬x<y):Ev d t F (.h lj P V) (.d em) S:=
 gG h g (by show d9 (eU (x<y))=_;rw[decide_eq_false q])
theorem oq{x y:Int}(h:Ev d t F P (.a x) E)(g:Ev d E F V (.a y) S)(q:¬x=y):Ev d t F (.h fZ P V) (.d em) S:=
 gG h g (by show d9 (eU (x=y))=_;rw[decide_eq_false q])
theorem nE{x y:Int}(h:Ev d t F P (.a x) E)(g:Ev d E F V (.a y) S)(q:x=y):Ev d t F (.h fZ P V) (.d eb) S:=
 gG h g (by show d9 (eU (x=y))=_;rw[decide_eq_true q])
theorem EP{n:Int}(G:t.g=7)(h:F 66=d9 (.b .c))(g:Ev d t F e (.a n) t)(W:n∈t.b):Ev d t F (.L (.c (.a 66) 16) e) (.b (.d n)) t:=by
 show(eW.q d _ t F).bind _=_;rw[ji (f:=0) (v:=.j) h rfl G];show(e.q d t F).bind _=_;rw[g];show d9 (eD.b (if n∈t.b then .d n else .e),t)=_;rw[if_pos W]
structure WS(n a p:Int)(F:Fr):Prop where
 e:F 66=d9 (.b .c)
 c:F 68=d9 (.b (.d n))
 f:F 53=d9 (.a n)
 b:F 56=d9 (.a a)
 d:F 82=d9 (.a p)
noncomputable abbrev Gh:Ss:=.a (.a 72 (.L (.c (.a 66) 16) (.a 73))) (.a (.c (.D jw (.a (.h .Is (.a 72) (.F)) (.a (.h gd (.c (.a 72) 2) (.a 53)) (.a (.h fZ (.c (.a 72) 1) (.c (.a 68) 1)) .b)))) (.a (.g (.G "child")) .b) .b) (.a (.c (.D jw (.a (.h gd (.v (.a 72) 25 (.a (.a 56) .b)) (.a 82)) (.a (.h gd (.v (.a 72) 25 (.a (.p gS (.d 1) (.a 56)) .b)) (.v (.a 68) 25 (.a (.p gS (.d 1) (.a 56)) .b))) .b))) (.a (.g (.G "place")) .b) .b) (.a (.c (.h gd (.v (.a 72) 23 (.a (.p gS (.d 1) (.a 56)) .b)) (.v (.a 68) 23 (.a (.p gS (.d 1) (.a 56)) .b))) (.a (.g (.G "size")) .b) .b) (.a (.a 82 (.p io (.a 82) (.v (.a 72) 23 (.a (.a 56) .b)))) .b))))
theorem Vr{n a p c:Int}{k:Nat}(G:t.g=7)(f:WS n a p F)(X:c∈t.b)(K:(t.a c).c=n)(I:(t.a c).b≠(t.a n).b)(W:sz t (1-a) c=sz t (1-a) n)(O:pl t (1-a) c=pl t (1-a) n)(J:pl t a c=p):
  ∃l,WS n a (p+sz t a c) l∧Gh.c (dd eb (k+1)) t (fV F [73] [.a c])=d9 (.a,t,l):=by
 have L:∀F:Fr,F 56=d9 (.a a)->lW (dd eb (k+1)) t F (.a (.p gS (.d 1) (.a 56)) .b) [.a (1-a)] t:=λF h=>eV (hZ (v:=.a 1) (u:=.a a) rfl (fu h) rfl) fJ;refine(ey (eL (eL (fV F [73] [.a c]) 72 (.b (.d c))) 82 (.a (p+sz t a c))) ⟨f.e,f.c,f.f,f.b,rfl⟩ (eG (fO (EP G f.e (fg (v:=.a c) rfl) X) rfl)
  (eG (gU (pW (jS (gG (i4 (n:=c) rfl) (u:=.b .e) rfl rfl) (jS (lV (gv (i4 (n:=c) rfl) rfl) (fu f.f) K) (jS (oq (gv (i4 (n:=c) rfl) rfl) (gv (i4 f.c) rfl) I) rfl)))) fp)
  (eG (gU (pW (jS (lV (iL (i4 (n:=c) rfl) (eV (fu f.b) fJ) rfl wQ) (fu f.d) J)
   (jS (lV (iL (i4 (n:=c) rfl) (L _ f.b) rfl wQ) (iL (i4 f.c) (L _ f.b) rfl wQ) O) rfl))) fp)
  (eG (gU (lV (iL (i4 (n:=c) rfl) (L _ f.b) rfl mJ) (iL (i4 f.c) (L _ f.b) rfl mJ) W) fp)
  (eG (fO (hZ (v:=.a p) (u:=.a (sz t a c)) (fu f.d) (iL (i4 (n:=c) rfl) (eV (fu f.b) fJ) rfl mJ) rfl) rfl) fp))))))
theorem Vq{n a q:Int}{k:Nat}{P:eB->Fr->Bool}(G:t.g=7)(S:∀F,P t F=eb):∀(W:List Int) (p:Int) F,Sq t a p W q->WS n a p F->
  (∀c∈W,c∈t.b∧(t.a c).c=n∧(t.a c).b≠(t.a n).b∧sz t (1-a) c=sz t (1-a) n∧pl t (1-a) c=pl t (1-a) n)->
  ∃l,WS n a q l∧j9 P [73] (λt F=>Gh.c (dd eb (k+1)) t F) ((eF W).map λx=>[x]) t F=d9 (.a,t,l):=by
 intro N
 induction N with
 |nil=>
  intro p F s f U;exact(ey F ((show p=q from s)▸f) (nP (S F)))
 |cons c r D=>
  rintro p F ⟨i,Y⟩ f h;refine mf (h c (gp ..)) λd e I g O=>?_;refine eR (Vr (k:=k) G f d e I g O i) λK j L=>?_;refine eR (D _ K Y j λx Z=>h x (gC _ Z)) λH w b=>?_;exact(ey H w ((mB (S F) L).trans b))
theorem Vo{n:Int}{k:Nat}(G:t.g=7)(W:n∈t.b)(C:(t.a n).a.length≤1000)(g:BD t n):gF eb (k+2) 27 [.b .c,.a n] t=d9 (.b .e,t):=by
 rw[iB (M:=[66,53]) (b:=vX) (by decide) rfl rfl];have I:Ex (dd eb (k+1)) t (fh [66,53] [.b .c,.a n]) (.a 68 (.n (.c (.a 66) 16) (.a 53))) .a t (eL (fh [66,53] [.b .c,.a n]) 68 (.b (.d n))):=fO (iG G rfl (fg (v:=.a n) rfl) W) rfl;have:∃A,f7 (dd eb (k+1)) t (fh [66,53] [.b .c,.a n]) vX (.b (.b .e)) t A:=by
  by_cases q:(t.a n).b=0
  ·refine gY (g.a q) λL T c=>?_
   refine⟨_,eG I (iq (jj (decide_eq_true q▸my rfl) (eG (gU (gG (v:=.f n t.h) (u:=.c eb []) (gv (fg rfl) rfl) (qN fJ rfl (by decide)) ?_) fp) (eG (gU (pW (jS
    (Bb (gv (fg rfl) rfl) (ji (f:=3) (v:=.a 3) rfl rfl G) (by lia)) (jS (Bb (gv (fg rfl) rfl) (ji (f:=4) (v:=.a 2) rfl rfl G) (by lia)) rfl))) fp) (iq (i7 (v:=.b .e) rfl rfl))))))⟩
   show(((jC t (.f n t.h)).bind λa=>(jC t (.c eb [])).map λb=>eU (a=b))<|>_).map _=_;have:jC t (.f n t.h)=d9 (t.a n).a:=by show(ia t (.f n t.h)).bind _=_;rw[jL];exact nQ _
   rw[this,L];rfl
  ·have g:=g.b q
   refine eR (Vq (t:=t) (k:=k) (n:=n) (a:=fA (t.a n).b) (P:=lR (.a (.c (.a 68) 3)) [.f n t.h] t (eL (eL (eL (fh [66,53] [.b .c,.a n]) 68 (.b (.d n))) 82 (.a (pl t (fA (t.a n).b) n))) 56 (.a (fA (t.a n).b)))) G (zY rfl) _ _
    (eL (eL (eL (fh [66,53] [.b .c,.a n]) 68 (.b (.d n))) 82 (.a (pl t (fA (t.a n).b) n))) 56 (.a (fA (t.a n).b))) g.a ⟨rfl,rfl,rfl,rfl,rfl⟩ g.d) λA u r=>?_
   have i:∀F:Fr,F 68=d9 (.b (.d n))->Ev (dd eb (k+1)) t F (.j 15 (.a (.c (.a 68) 1) .b)) (.a (fA (t.a n).b)) t:=λF h=>gI (eV (gv (fg h) rfl) fJ) ub;have w:Ev (dd eb (k+1)) t (eL (fh [66,53] [.b .c,.a n]) 68 (.b (.d n))) (.w 0 (.c (.a 68) 3)) (.a ((t.a n).a.length:Nat)) t:=by
    have:=jN (d:=dd eb (k+1)) (t:=t) (F:=eL (fh [66,53] [.b .c,.a n]) 68 (.b (.d n))) (e:=.c (.a 68) 3) (v:=.f n t.h) (gv (fg rfl) rfl) (sG (Q:=eb) jL rfl (by rw[gB];lia));rwa [gB] at this
   have Y:=g.b;refine⟨A,eG I (eG (gU (decide_eq_false q▸my rfl) fp) (eG (gU (Bb w (y:=2) rfl (by lia)) fp) (eG (oS (as:=[.a (fA (t.a n).b),.a (pl t (fA (t.a n).b) n)]) rfl
    (ki (eV (i _ rfl) (eV (iL (fg rfl) (eV (i _ rfl) fJ) rfl wQ) fJ)) rfl (iO rfl)) rfl) (eG (mQ (lL (gv (fg rfl) rfl)) (kP jL) rfl rfl r)
    (iq (i7 (lU (nE (fu u.d) (hZ (v:=.a (pl t (fA (t.a n).b) n)) (u:=.a (sz t (fA (t.a n).b) n)) (iL (i4 u.c) (eV (fu u.b) fJ) rfl wQ) (iL (i4 u.c) (eV (fu u.b) fJ) rfl mJ) rfl) rfl) (v:=.b .e) rfl) rfl))))))⟩
 refine fL this λA r=>?_;show gP (vX.c _ _ (fh [66,53] [.b .c,.a n]))=_;rw[r];rfl
noncomputable abbrev uC(X:List Int):List Int:=X.mergeSort λa b=>eU (a≤b)
theorem Uz{l m:List Int}(C:l.Nodup)(Y:m.Nodup)(h:∀x,x∈l↔x∈m):uC l=uC m:=by
 have Z:∀l:List Int,(uC l).Pairwise (·≤·):=λl=>
  (WR (le:=λa b:Int=>eU (a≤b)) (λa b c K I=>by have K:=of_decide_eq_true K;have I:=of_decide_eq_true I;exact decide_eq_true (by lia))
   (λa b=>by show(eU (a≤b)||eU (b≤a))=eb;rw[Kn];exact(Wn a b).imp decide_eq_true decide_eq_true) l).imp λh=>of_decide_eq_true h
 exact Ws (le:=(·≤·)) (λa b U U=>Kr) (Z l) (Z m) ((AK l _).trans (((List.perm_ext_iff_of_nodup C Y).2 h).trans (AK m _).symm))
theorem ip(h:F i=d9 (.b .c)):Ev d t F (.a i) (.b .c) t:=fg h
theorem CQ{l m:List Int}{o X:Bool}(h:l=m):mU t gd (.c o (eF l)) (.c X (eF m))=d9 false:=by
 show(((jC t (.c o (eF l))).bind λa=>(jC t (.c X (eF m))).map λb=>eU (a=b))<|>_).map _=_;rw[sN,sN,h];show d9 (!eU (m=m))=_;rw[decide_eq_true rfl];rfl
theorem UB{o:Bool}{l:List Int}(h:l.length<64):o7 eb t 3 (.c o (eF l))=d9 (.c eb (eF (uC l))):=by
 show((jC t (.c o (eF l))).bind _)=_;rw[sN];exact if_pos h
theorem I2(h:t.b.length<64):o7 eb t 3 .j=d9 (.c eb (eF (uC t.b))):=if_pos h
structure yG(F:Fr)(l:List Int):Prop where
 a:F 66=d9 (.b .c)
 b:F 65=d9 (.c eb (eF l))
noncomputable abbrev Gf:Ss:=.a (.a 89 (.j 27 (.a (.a 66) (.a (.a 53) .b)))) (.a (.c (.h uO (.a 89) (.F)) (.a (.g (.A (.a (.a 53) (.a (.a 89) .b)))) .b) .b) .b)
theorem U8{l:List Int}{k:Nat}{P:eB->Fr->Bool}(S:∀F,yG F l->P t F=eb):∀(W:List Int) F,yG F l->(∀c∈W,gF eb (k+2) 27 [.b .c,.a c] t=d9 (.b .e,t))->
  ∃m,yG m l∧j9 P [53] (λt F=>Gf.c (dd eb (k+2)) t F) ((eF W).map λx=>[x]) t F=d9 (.a,t,m):=by
 intro N
 induction N with
 |nil=>
  intro F f U;exact(ey F f (nP (S F f)))
 |cons c r D=>
  intro F f h;refine eR (D (eL (fV F [53] [.a c]) 89 (.b .e)) ⟨f.a,f.b⟩ λx Z=>h x (gC _ Z)) λH w a=>?_;have I:f7 (dd eb (k+2)) t (fV F [53] [.a c]) Gf .a t (eL (fV F [53] [.a c]) 89 (.b .e)):=
   eG (fO (gI (eV (ip f.a) rfl) (h c (gp ..))) rfl) (eG (gU rfl fp) fp)
  exact(ey H w ((mB (S F f) I).trans a))
theorem Vc(h:Ok t T)(E:t.d∈t.b)(P:(t.a t.d).c=0)(L:(t.a t.d).g=0)(I:(t.a t.d).h=0)(j:∀n∈t.b,n∈PP t T t.d)(G:t.b.Nodup)(Y:∀n∈t.b,BD t n)
  (S:t.i∈t.b) (C:(t.a t.i).b=0) {k:Nat}:gF eb (k+3) 28 [.b .c] t=d9 (.b .e,t):=by
 have e:=oW h.l E;have:=h.j;have Z:=xr (Q:=eb) h.l (by lia) E (k:=k+1);have g:=zy (Q:=eb) h.l (by lia) (λn W=>(h.i n W).1) E (k:=k+1);rw[iB (M:=[66]) (b:=vV) (by decide) rfl rfl];have d:∀F:Fr,F 66=d9 (.b .c)->Ev (dd eb (k+2)) t F (.c (.a 66) 21) (.a t.d) t:=λF U=>ji (f:=5) (v:=.a t.d) U rfl h.f;let K:Fr:=eL (eL (fh [66] [.b .c]) 88 (.b (.d t.d))) 65 (.c eb (eF (PP t T t.d)));have w:∀F,yG F (PP t T t.d)->lR (.a (.a 65)) [.c em (eF (PP t T t.d))] t K t F=true:=λF f=>by
  have a:iY K 65=d9 (PP t T t.d):=by unfold iY;rw[qu (F:=K) (z:=eF (PP t T t.d)) rfl];exact nQ _
  have B:iY F 65=d9 (PP t T t.d):=by unfold iY;rw[qu f.b];exact nQ _
  show(_&&(m0 K F (.a 65)&&eb))=eb;have:m0 K F (.a 65)=true:=by
   show(!(iY K 65).isSome||eU (iY F 65=iY K 65))=eb;rw[a,B,decide_eq_true rfl,pI]
  rw[this];rfl
 refine eR (U8 (t:=t) (k:=k) (l:=PP t T t.d) w (PP t T t.d) K ⟨rfl,rfl⟩ λc X=>by
  have X:=j7 h.e E c X;have:=ly h.l X;exact Vo h.f X (by lia) (Y c X)) λA u r=>?_
 have b:((iF.a (.a 65)).d.zip [eD.c em (eF (PP t T t.d))]).all (λp=>mK K p.1 p.2)=true:=by
  show(mK K (.a 65) _&&eb)=eb;have a:iY K 65=d9 (PP t T t.d):=by unfold iY;rw[qu (F:=K) (z:=eF (PP t T t.d)) rfl];exact nQ _
  have:mK K (.a 65) (.c em (eF (PP t T t.d)))=true:=by
   show(!(jE K 65).isSome||(iY K 65).isSome)=eb;rw[a,show(d9 (PP t T t.d)).isSome=eb from rfl,pI]
  rw[this];rfl
 have:f7 (dd eb (k+2)) t (fh [66] [.b .c]) vV (.b (.b .e)) t A:=by
  refine eG (fO (EP h.f rfl (d _ rfl) E) rfl) (eG (gU (pW (jS rfl (jS (lV rfl (y:=0) rfl P) (jS (lV rfl (y:=0) rfl L)
   (jS (lV rfl (y:=0) rfl I) rfl))))) fp) (eG (fO (gI (eV rfl (eV (d _ rfl) fJ)) Z) rfl) (eG (mQ rfl (kP rfl) rfl b r)
   (eG (gU (gG (jN (fg u.b) (UB (by lia))) (jN (ji (f:=0) (v:=.j) u.a rfl h.f) (I2 (by lia))) (CQ (Uz (BK h.l E) G λx=>⟨λq=>j7 h.e E x q,j x⟩))) fp)
   (iq (i7 (lU (gG (ji (f:=6) (v:=.a t.i) u.a rfl h.f) (gI (eV (ip u.a) (eV (d _ u.a) fJ)) g) ?_) (v:=.b .e) rfl) rfl))))))
  show(jC t (.c eb (eF ((PP t T t.d).filter (nR t))))).map _=_;rw[sN];show d9 (eU (t.i∈(PP t T t.d).filter (nR t)))=d9 eb;rw[decide_eq_true (lH.2 ⟨j _ S,decide_eq_true C⟩)]
 show gP (vV.c _ _ (fh [66] [.b .c]))=_;rw[this];rfl
noncomputable def nd(t:eB):Nat->Int->eT
 |0,_=>.e
 |k+1,n=>if(t.a n).b=0 then .f [.a n,.a (t.a n).d,.a (t.a n).e,.f [.a (t.a n).i,.a (t.a n).j,.a (t.a n).k,.a (t.a n).l],.g em,.a (t.a n).f,.f [],.f []]
   else .f [.a n,.a (t.a n).b,.a (t.a n).d,.a (t.a n).e,.f ((t.a n).a.map (nd t k))]
def ND(t:eB)(a:Int->Nat)(n:Int):eT:=nd t (a n+1) n
theorem Rz(h:Sh t T):∀k Z n,n∈t.b->T n<k->T n<Z->nd t k n=nd t Z n:=by
 intro k
 induction k with
 |zero=>intro Z n U q U;exact absurd q (pK _)
 |succ k D=>
  intro Z n W q L;cases Z with
  |zero=>exact absurd L (pK _)
  |succ Z=>
   show(if _ then _ else eT.f [_,_,_,_,.f _])=if _ then _ else eT.f [_,_,_,_,.f _];rw[kh λc X=>D Z c (h.d n W c X).1 (by have:=(h.d n W c X).2;lia) (by have:=(h.d n W c X).2;lia)]
theorem FE(h:Sh t T){n:Int}(W:n∈t.b):ND t T n=if(t.a n).b=0 then .f [.a n,.a (t.a n).d,.a (t.a n).e,.f [.a (t.a n).i,.a (t.a n).j,.a (t.a n).k,.a (t.a n).l],.g em,.a (t.a n).f,.f [],.f []]
   else .f [.a n,.a (t.a n).b,.a (t.a n).d,.a (t.a n).e,.f ((t.a n).a.map (ND t T))]:=by
 show(if _ then _ else eT.f [_,_,_,_,.f _])=_;rw[kh λc X=>Rz h (T n) (T c+1) c (h.d n W c X).1 (h.d n W c X).2 (uK _)];rfl
noncomputable abbrev Cg:List (Nat×fX):=[(48,eu),(73,eu),(90,gb)]
abbrev GL:eW:=.B (.n (.a 90) (.a 73)) [73] (.a (.c (.a 68) 3)) .b Cg
theorem QK{o:Option eD}{w n:Int}{l:List Int}{g:Int->eT}(D:DW F o 90 g l w)(K:F 68=d9 (.b (.d n)))(X:∀c∈(t.a n).a,c∈l)(C:(t.a n).a.length≤100000):
  Ev d t F GL (.c eb ((t.a n).a.map g)) t:=by
 refine f5 D.d λG z p Y=>?_;have:=pV (d:=d) (t:=t) (F:=F) (T:=.n (.a 90) (.a 73)) (W:=[73]) (N:=.a (.c (.a 68) 3)) (Y:=Cg) (L:=(eF (t.a n).a).map λx=>[x])
  (r1 .e λc=>g c) (lL (gv (fg K) rfl)) (kP jL) (by rw[fC,gB];exact C) ?_
 ·rw[gJ,gJ] at this;exact this
 ·intro r E
  (refine fP E λy B P=>?_;(clear E;obtain rfl:=P))
  (refine fP B λc Z V=>?_;(clear B;obtain rfl:=V))
  have j:iS Cg F [73] [.a c] 90=d9 (.g em G):=congrArg (kH eD.e) z;refine jh (fg j) rfl ?_;show(G.lookup c).map eD.b=_;rw[Y c (X c Z)];rfl
theorem Pk{v:eD}{z:List eT}(h:ia t v=d9 z)(C:z.length≤100000):o7 Q t 5 v=d9 (.b (.f z)):=by
 show((ia t v).bind _)=_;rw[h];exact if_pos C
abbrev Gb:Ss:=.a (.a 68 (.n (.c (.a 66) 16) (.a 72))) (.a (.c (.h fZ (.c (.a 68) 1) (.x 10)) (.a (.n 90 (.a 72) (.A (.a (.a 72) (.a (.c (.a 68) 6) (.a (.c (.a 68) 7) (.a (.v (.a 68) 26 .b) (.a (.c (.a 68) 12) (.a (.c (.a 68) 13) (.a (.w 5 (.c (.a 68) 14)) (.a (.w 5 (.c (.a 68) 15)) .b)))))))))) .b) (.a (.a 91 (.w 5 GL)) (.a (.n 90 (.a 72) (.A (.a (.a 72) (.a (.c (.a 68) 1) (.a (.c (.a 68) 6) (.a (.c (.a 68) 7) (.a (.a 91) .b))))))) .b))) .b)
theorem RA{w n:Int}{l:List Int}{k:Nat}(h:Ok t T)(W:n∈t.b)(X:∀c∈(t.a n).a,c∈l)(C:l.length≤1000)(D:DW F eh 90 (ND t T) l w):
  ∃f,DW f eh 90 (ND t T) (n::l) w∧Gb.c (dd Q (k+1)) t (eL F 72 (.a n))=d9 (.a,t,f):=by
 refine f5 D.d λG z p Y=>?_;have U:=ly h.l W;have:=h.j;have e:=FE h.e W;have I:Ex (dd Q (k+1)) t (eL F 72 (.a n)) (.a 68 (.n (.c (.a 66) 16) (.a 72))) .a t (eL (eL F 72 (.a n)) 68 (.b (.d n))):=fO (iG h.f D.b rfl W) rfl;have g:DW (eL (eL F 72 (.a n)) 68 (.b (.d n))) eh 90 (ND t T) l w:=⟨D.b,D.a,D.c,D.d⟩;by_cases q:(t.a n).b=0
 ·rw[if_pos q] at e
  refine(ey _ ?_ (eG I (eG (jj (decide_eq_true q▸my rfl) (eG (va (y:=.f [.a n,.a (t.a n).d,.a (t.a n).e,.f [.a (t.a n).i,.a (t.a n).j,.a (t.a n).k,.a (t.a n).l],.g em,.a (t.a n).f,.f [],.f []])
   rfl rfl z (by lia)) fp)) fp)))
  exact u7 D.b D.a D.c (by show d9 _=d9 _;rw[e]) p Y
 ·rw[if_neg q] at e
  have N:=QK (d:=dd Q (k+1)) (t:=t) (n:=n) g rfl X (by lia);refine(ey _ ?_ (eG I (eG (gU (decide_eq_false q▸my rfl) (eG (fO (jN N (Pk rfl (by rw[fC];lia))) rfl) (eG (va (y:=.f [.a n,.a (t.a n).b,.a (t.a n).d,.a (t.a n).e,.f ((t.a n).a.map (ND t T))])
   (ki (eV (fu (n:=n) rfl) (eV (gv (i4 rfl) rfl) (eV (gv (i4 rfl) rfl) (eV (gv (i4 rfl) rfl) (eV (fg (v:=.b (.f ((t.a n).a.map (ND t T)))) rfl) fJ))))) rfl (iO rfl)) (fu (n:=n) rfl) z (by lia)) fp))) fp)))
  exact u7 D.b D.a D.c (by show d9 _=d9 _;rw[e]) p Y
theorem RI(h:Ok t T){n:Int}(W:n∈t.b){k:Nat}:gF Q (k+2) 29 [.b .c,.a n] t=d9 (.b (ND t T n),t):=by
 have C:=oW h.l W;have:=h.j;have Z:=xr (Q:=Q) h.l (by lia) W (k:=k);rw[iB (M:=[66,53]) (b:=vO) (by decide) rfl rfl];have j:(iF.a (.H (.j 19 (.a (.a 66) (.a (.a 53) .b))))).c (dd Q (k+1)) t (eL (fh [66,53] [.b .c,.a n]) 90 (.g eb []))=d9 ([.c eb (eF (PP t T n).reverse)],t):=
  lL (Dv▸Bc (gI rfl Z) rfl (by rw[gB];lia))
 refine eR (GI (d:=dd Q (k+1)) (t:=t) (o:=eh) (w:=n) (x:=90) (g:=ND t T) (B:=Gb) (N:=.a (.H (.j 19 (.a (.a 66) (.a (.a 53) .b))))) (J:=[.c eb (eF (PP t T n).reverse)])
  (a:=eL (fh [66,53] [.b .c,.a n]) 90 (.g eb [])) (W:=72) (λU=>rfl) (λW X C D=>RA h W X C D) (PP t T n) (FH h.e W) (j7 h.e W) (by lia) []
  (eL (fh [66,53] [.b .c,.a n]) 90 (.g eb [])) ⟨rfl,rfl,rfl,[],rfl,ig _,λU h=>absurd h iI⟩) λA f g=>?_
 refine f5 f.d λG z U Y=>?_;rw[mL,nP rfl] at g;have:f7 (dd Q (k+1)) t (fh [66,53] [.b .c,.a n]) vO (.b (.b (ND t T n))) t A:=
  eG (fO (v:=.g eb []) rfl rfl) (eG (mQ j (kP rfl) rfl rfl g) (iq (i7 (jh (fg z) (fu f.c) (by show(G.lookup n).map eD.b=_;rw[Y n (lY h.e W)];rfl)) rfl)))
 show gP (vO.c _ _ (fh [66,53] [.b .c,.a n]))=_;rw[this];rfl
def CF(t:eB)(a:Int->Nat):eT:=.f [.f [.a (t.a t.d).d,.a (t.a t.d).e],ND t a t.d,.a t.i]
theorem Ca(h:Ok t T)(E:t.d∈t.b){k:Nat}:gF Q (k+3) 30 [.b .c] t=d9 (.b (CF t T),t):=by
 rw[iB (M:=[66]) (b:=vH) (by decide) rfl rfl];have d:∀F:Fr,F 66=d9 (.b .c)->Ev (dd Q (k+2)) t F (.c (.a 66) 21) (.a t.d) t:=λF U=>ji (f:=5) (v:=.a t.d) U rfl h.f;have:f7 (dd Q (k+2)) t (fh [66] [.b .c]) vH (.b (.b (CF t T))) t _:=
  eG (fO (iG h.f rfl (d _ rfl) E) rfl) (iq (i7 (ki (eV (v:=.b (.f [.a (t.a t.d).d,.a (t.a t.d).e])) rfl
   (eV (gI (eV (ip rfl) (eV (d _ rfl) fJ)) (RI (Q:=Q) (k:=k) h E)) (eV (ji (f:=6) (v:=.a t.i) rfl rfl h.f) fJ))) rfl (iO rfl)) rfl))
 show gP (vH.c _ _ (fh [66] [.b .c]))=_;rw[this];rfl
theorem LK{x:Nat}{j:Int}(h:Ev d t F P (.a j) E)(g:Ev d E F V (.a 1) S)(Z:F x=d9 .h):Ex d t F (.n x V P) .a { S with e:=j } F:=by
 show(P.q d t F).bind _=_;rw[h];show(V.q d E F).bind _=_;rw[g];show tb F S x (.a 1) (.a j)=_;unfold tb;rw[Z];rfl
theorem HS{x y:Int}(B:y≠0):rl .Mod (.a x) (.a y)=d9 (.a (x.fmod y)):=by
 show(((if _ then _ else _:Option Int).map eD.a)<|>_)=_;rw[if_pos B];rfl
theorem P4{m:Int}{k:Nat}(Y:0<m)(d:0≤t.e)(K:t.e≤10000)(C:t.k.length≤100):∃r,gF eb (k+1) 39 [.h,.a m] t=d9 (.a r,{ t with e:=t.e+1 })∧0≤r∧r<m:=by
 rw[iB (M:=[98,99]) (b:=sA) (by decide) rfl rfl];let F:Fr:=fh [98,99] [.h,.a m];have c:∀t,Ev (dd eb k) t F (.a 98) .h t:=λt=>fg (v:=.h) rfl;have h:∀t,Ev (dd eb k) t F (.n (.a 98) (.d 1)) (.a t.e) t:=λt=>jh (u:=.a 1) (c t) rfl rfl;have l:∀t,Ev (dd eb k) t F (.n (.a 98) (.d 0)) .m t:=λt=>jh (u:=.a 0) (c t) rfl rfl;have b:∀t:eB,t.k.length≤100->Ev (dd eb k) t F (.w 0 (.n (.a 98) (.d 0))) (.a t.k.length) t:=λt z=>jN (l t) (by
  show((d9 t.k.length).bind λn=>if n≤100000 then d9 (eD.a n) else eh)=_;show(if _ then _ else _)=_;rw[if_pos (by lia)])
 have e:∀t,Ev (dd eb k) t F (.a 99) (.a m) t:=λt=>fu rfl;let E:eB:={ t with e:=t.e+1 };have I:Ex (dd eb k) t F (.n 98 (.d 1) (.p io (.n (.a 98) (.d 1)) (.d 1))) .a E F:=LK rfl rfl rfl;have o:∀x:Int,0≤x.fmod m∧x.fmod m<m:=λx=>⟨Int.fmod_nonneg_of_pos x Y,Int.fmod_lt_of_pos x Y⟩;by_cases q:t.e+1≤t.k.length
 ·have Z:t.e.toNat<t.k.length:=by lia
  have j:Ev (dd eb k) E F (.n (.n (.a 98) (.d 0)) (.p gS (.n (.a 98) (.d 1)) (.d 1))) (.a t.k[t.e.toNat]) E:=by
   refine jh (u:=.a (t.e+1-1)) (l E) rfl ?_;show(if _ then _ else _)=_;rw[if_pos (by lia),show t.e+1-1=t.e by lia];show(t.k[t.e.toNat]?).map eD.a=_;rw[jF Z];rfl
  have:f7 (dd eb k) t F sA (.b (.a ((t.k[t.e.toNat]).fmod m))) E F:=
   eG I (iq (jj (gG (v:=.a (t.e+1)) (u:=.a t.k.length) (h E) (b E C) (by show d9 (eU _)=_;rw[decide_eq_true q])) (iq (i7 (hZ j (e E) (HS (by lia))) rfl))))
  refine(ey ((t.k[t.e.toNat]).fmod m) ?_ (o _));show gP (sA.c _ _ F)=_;rw[this];rfl
 ·have f:∀x:Int,0≤x->x≤10001*10001->rE x:=λx U U=>by unfold rE;lia
  have a:0≤(t.e+1)*(t.e+1)∧(t.e+1)*(t.e+1)≤10001*10001:=⟨DH (by lia) (by lia),Int.mul_le_mul (by lia) (by lia) (by lia) (by lia)⟩;have:f7 (dd eb k) t F sA (.b (.a ((((t.e+1)*(t.e+1)*37+23*(t.e+1)+7*t.k.length).fdiv 5).fmod m))) E F:=
   eG I (eG (gU (gG (v:=.a (t.e+1)) (u:=.a t.k.length) (h E) (b E C) (by show d9 (eU _)=_;rw[decide_eq_false q])) fp) (iq (i7 (hZ (hZ (hZ (hZ
    (hZ (hZ (h E) (h E) (um (f _ (by show 0≤t.e+1;lia) (by show t.e+1≤_;lia)) (f _ (by show 0≤t.e+1;lia) (by show t.e+1≤_;lia)))) (u:=.a 37) rfl (um (f _ a.1 a.2) (f _ (by decide) (by decide))))
    (hZ (v:=.a 23) rfl (h E) (um (f _ (by decide) (by decide)) (f _ (by show 0≤t.e+1;lia) (by show t.e+1≤_;lia)))) rfl)
    (hZ (v:=.a 7) rfl (b E C) (um (f _ (by decide) (by decide)) (f _ (by lia) (by show(t.k.length:Int)≤_;lia)))) rfl) (u:=.a 5) rfl (yW (by decide) (by unfold iZ;decide))) (e E) (HS (by lia))) rfl)))
  refine(ey ((((t.e+1)*(t.e+1)*37+23*(t.e+1)+7*t.k.length).fdiv 5).fmod m) ?_ (o _));show gP (sA.c _ _ F)=_;rw[this];rfl
noncomputable def md(t:eB):Int->List Int->Int
 |f,[]=>f
 |f,n::r=>md t (if(t.a f).f<(t.a n).f then n else f) r
theorem HT{f n:Int}{r:List Int}:md t f (n::r)=md t (if(t.a f).f<(t.a n).f then n else f) r:=rfl
structure MR(F:Fr)(ns:List Int)(f:Int):Prop where
 a:F 66=d9 (.b .c)
 c:F 95=d9 (.c em (eF ns))
 b:F 65=d9 (.a f)
noncomputable abbrev BZ:Ss:=.a (.c (.h lh (.c (.n (.c (.a 66) 16) (.a 53)) 13) (.c (.n (.c (.a 66) 16) (.a 65)) 13)) (.a (.a 65 (.a 53)) .b) .b) .b
theorem Rw{X:List Int}{k:Nat}{P:eB->Fr->Bool}(G:t.g=7)(S:∀F f,MR F X f->P t F=eb):∀(W:List Int) F f,MR F X f->f∈t.b->(∀c∈W,c∈t.b)->
  ∃B,MR B X (md t f W)∧j9 P [53] (λt F=>BZ.c (dd Q k) t F) ((eF W).map λx=>[x]) t F=d9 (.a,t,B):=by
 intro N
 induction N with
 |nil=>
  intro F f m U U;exact(ey F m (nP (S F f m)))
 |cons c r D=>
  intro F f m l h;have b:=h c (gp ..);have E:=λx Z=>h x (gC _ Z);have j:Ev (dd Q k) t (fV F [53] [.a c]) (.h lh (.c (.n (.c (.a 66) 16) (.a 53)) 13) (.c (.n (.c (.a 66) 16) (.a 65)) 13)) (.d (eU ((t.a f).f<(t.a c).f))) t:=
   gG (v:=.a (t.a c).f) (u:=.a (t.a f).f) (gv (iG G m.a rfl b) rfl) (gv (iG G m.a (fu (n:=f) m.b) l) rfl) rfl
  by_cases q:(t.a f).f<(t.a c).f
  ·rw[decide_eq_true q] at j
   have I:f7 (dd Q k) t (fV F [53] [.a c]) BZ .a t (eL (fV F [53] [.a c]) 65 (.a c)):=eG (jj j (eG (fO rfl rfl) fp)) fp;obtain⟨H,w,a⟩ :=D (eL (fV F [53] [.a c]) 65 (.a c)) c ⟨m.a,m.c,rfl⟩ b E;exact(ey H (by rw(occs:=eO) [HT,if_pos q];exact w) ((mB (S F f m) I).trans a))
  ·rw[decide_eq_false q] at j
   have I:f7 (dd Q k) t (fV F [53] [.a c]) BZ .a t (fV F [53] [.a c]):=eG (gU j fp) fp;obtain⟨H,w,a⟩ :=D (fV F [53] [.a c]) f ⟨m.a,m.c,m.b⟩ l E;exact(ey H (by rw(occs:=eO) [HT,if_neg q];exact w) ((mB (S F f m) I).trans a))
theorem Rs{n:Int}{r:List Int}{k:Nat}(G:t.g=7)(h:∀c∈n::r,c∈t.b):gF Q (k+1) 36 [.b .c,.c em (eF (n::r))] t=d9 (.a (md t n (n::r)),t):=by
 rw[iB (M:=[66,95]) (b:=vN) (by decide) rfl rfl];let K:Fr:=eL (fh [66,95] [.b .c,.c em (eF (n::r))]) 65 (.a n);have w:∀F f,MR F (n::r) f->lR (.a (.a 95)) [.c em (eF (n::r))] t K t F=true:=λF f m=>rfl;refine eR (Rw (t:=t) (Q:=Q) (k:=k) (X:=n::r) G w (n::r) K n ⟨rfl,rfl,rfl⟩ (h n (gp ..)) h) λA u g=>?_;have:f7 (dd Q k) t (fh [66,95] [.b .c,.c em (eF (n::r))]) vN (.b (.a (md t n (n::r)))) t A:=
  eG (fO (v:=.a n) rfl rfl) (eG (mQ rfl (kP rfl) rfl rfl g) (iq (yh u.b rfl)))
 show gP (vN.c _ _ (fh [66,95] [.b .c,.c em (eF (n::r))]))=_;rw[this];rfl
theorem pX{o:eW}{f:Nat}{n x:Int}{C:gE}(h:Ev d t F e (.a x) E)(g:Ev d E F o (.b (.d n)) S)(q:(S.a n).m x f=d9 C):Ex d t F (.d o f e) .a (S.f n C) F:=
 nF h g (by
  show((((S.a n).m x f).map (S.f n))<|>_)=_;rw[q];rfl)
theorem EV{x:Int}(h:Ev d t F e (.a x) E)(g:F 66=d9 (.b .c))(G:E.g=7):Ex d t F (.d (.a 66) 21 e) .a { E with d:=x } F:=
 nF h (ip g) (by show d9 { E with d:=x,g:=max E.g 6 }=_;rw[G];show d9 _=d9 _;rw[show max 7 6=7 from rfl,←G])
theorem Hj{n k:Int}(z:k∈(t.a n).a)(C:(t.a n).a.length≤100000)(h:F i=d9 (.f n t.h))(g:F j=d9 (.a k)):Ev d t F (.J (.a i) (.a j)) (.a ((t.a n).a.idxOf k:Nat)) t:=by
 show(eW.q d (.a i) t F).bind _=_;rw[fg (v:=.f n t.h) h];show(ia t (.f n t.h)).bind _=_;rw[jL];show(eW.q d (.a j) t F).bind _=_;rw[fu g];show(jC t (.f n t.h)).bind _=_;have:jC t (.f n t.h)=d9 (t.a n).a:=by show(ia t (.f n t.h)).bind _=_;rw[jL];exact nQ _
 rw[this];show(if _ then _ else _)=_;rw[if_pos ⟨z,C⟩]
theorem LH{x:Nat}{n k y:Int}(h:Ev d t F P (.a y) E)(g:Ev d E F V (.a k) S)(Z:F x=d9 (.f n S.h))(z:0≤k∧k<((S.a n).a.length:Int)∧k<1000000):
  Ex d t F (.n x V P) .a (S.m n ((S.a n).a.set k.toNat y)) F:=by
 show(P.q d t F).bind _=_;rw[h];show(V.q d E F).bind _=_;rw[g];show tb F S x (.a k) (.a y)=_;unfold tb;rw[Z];show(((if S.h=S.h then d9 n else eh:Option Int).bind _)<|>_)=_;rw[if_pos rfl];show((if _ then _ else _)<|>_)=_;rw[if_pos z];rfl
theorem II{d X:Int}{k:Nat}(G:t.g=7)(y:d∈t.b)(W:X∈t.b)(J:(t.a d).c=0):
  gF Q (k+1) 20 [.b .c,.a d,.a X] t=d9 (.b .e,{ t.f X { t.a X with c:=0 } with d:=X }):=by
 rw[iB (M:=[66,69,70]) (b:=ri) (by decide) rfl rfl];let K:Fr:=eL (fh [66,69,70] [.b .c,.a d,.a X]) 55 (.a 0);have:f7 (dd Q k) t (fh [66,69,70] [.b .c,.a d,.a X]) ri .a { t.f X { t.a X with c:=0 } with d:=X } K:=
  eG (fO (v:=.a 0) (J▸gv (iG G rfl rfl y) rfl) rfl) (eG (pX (x:=0) (F:=K) (fu rfl) (iG G rfl rfl W) rfl) (eG (jj (nE (x:=0) (y:=0) rfl rfl rfl) (eG (EV (x:=X) (fu rfl) rfl G) fp)) fp))
 show gP (ri.c _ _ (fh [66,69,70] [.b .c,.a d,.a X]))=_;rw[this];rfl
theorem IH{d X p:Int}{k:Nat}(G:t.g=7)(y:d∈t.b)(a:X∈t.b)(J:(t.a d).c=p)(b:p≠0)(c:p∈t.b)(z:d∈(t.a p).a)(C:(t.a p).a.length≤1000):
  gF Q (k+1) 20 [.b .c,.a d,.a X] t=d9 (.b .e,(t.f X { t.a X with c:=p }).m p ((t.a p).a.set ((t.a p).a.idxOf d) X)):=by
 rw[iB (M:=[66,69,70]) (b:=ri) (by decide) rfl rfl];let K:Fr:=eL (fh [66,69,70] [.b .c,.a d,.a X]) 55 (.a p);let E:eB:=t.f X { t.a X with c:=p };have P:(E.a p).a=(t.a p).a:=by
  show(if p=X then _ else _:gE).a=_;by_cases q:p=X
  ·rw[if_pos q,q]
  ·rw[if_neg q]
 let H:Fr:=eL K 71 (.f p E.h);have l:(t.a p).a.idxOf d<(t.a p).a.length:=DT.2 z;have Y:Ev (dd Q k) E H (.J (.a 71) (.a 69)) (.a ((E.a p).a.idxOf d:Nat)) E:=Hj (n:=p) (k:=d) (P▸z) (by rw[P];lia) rfl rfl;have u:Ex (dd Q k) E H (.n 71 (.J (.a 71) (.a 69)) (.a 70)) .a (E.m p ((E.a p).a.set (((E.a p).a.idxOf d:Nat):Int).toNat X)) H:=
  LH (n:=p) rfl Y rfl (by rw[P];lia)
 have:f7 (dd Q k) t (fh [66,69,70] [.b .c,.a d,.a X]) ri .a (E.m p ((E.a p).a.set (((E.a p).a.idxOf d:Nat):Int).toNat X)) H:=
  eG (fO (v:=.a p) (J▸gv (iG G rfl rfl y) rfl) rfl) (eG (pX (x:=p) (F:=K) (fu rfl) (iG G rfl rfl a) rfl) (eG (gU (oq (x:=p) (y:=0) rfl rfl b)
   (eG (fO (v:=.f p E.h) (gv (iG (t:=E) (n:=p) G rfl rfl c) rfl) rfl) (eG u fp))) fp))
 show gP (ri.c _ _ (fh [66,69,70] [.b .c,.a d,.a X]))=_;rw[this,P];rfl
theorem yi{k:Int}(h:Ev d t F e (.a k) E)(g:F 66=d9 (.b .c))(z:k∈E.b)(C:E.b.length≤100000):Ex d t F (.q 66 e) .a { E with b:=E.b.filter λn=>eU (n≠k) } F:=by
 show(e.q d t F).bind _=_;rw[h];show(if _ then _ else _)=_;rw[if_pos ⟨J4 g,z,C⟩]
theorem LG{o:Nat}{n k:Int}(h:Ev d t F e (.a k) E)(g:F o=d9 (.b (.d n)))(N:E.h=t.h)(z:k∈(E.a n).a)(C:(E.a n).a.length≤100000):
  Ex d t F (.B o e) .a (E.m n ((E.a n).a.eraseIdx ((E.a n).a.idxOf k))) F:=by
 show(e.q d t F).bind _=_;rw[h];show(qz F o).bind _=_;rw[show qz F o=d9 n by unfold qz;rw[g];rfl];show(if _ then _ else _)=_;rw[if_pos ⟨N,z,C⟩]
theorem ye{w:Es}{b:Bool}(h:w.g d t F=d9 (b,E)):Ev d t F (.D oO w) (.d b) E:=by show(w.g d t F).map _=_;rw[h];rfl
theorem si{w:Es}(h:Ev d t F e (.d em) E):(Es.a e w).g d t F=d9 (em,E):=by show(e.q d t F).bind _=_;rw[h];rfl
theorem vz{w:Es}{b:Bool}(h:Ev d t F e (.d eb) E)(g:w.g d E F=d9 (b,S)):(Es.a e w).g d t F=d9 (b,S):=by show(e.q d t F).bind _=_;rw[h];exact g
theorem u8{x y:Int}(h:Ev d t F P (.a x) E)(g:Ev d E F V (.a y) S)(q:x≠y):Ev d t F (.h gd P V) (.d eb) S:=
 gG h g (by show d9 (!eU (x=y))=_;rw[decide_eq_false q];rfl)
theorem PA{n a:Int}{k:Nat}(G:t.g=7)(W:n∈t.b)(P:(t.a n).c≠0)(z:(t.a n).c∈t.b)(i:fA (t.a (t.a n).c).b=a):
  gF Q (k+2) 32 [.b .c,.a n,.a a] t=d9 (.a (t.a n).c,t):=by
 rw[iB (M:=[66,53,56]) (b:=rh) (by decide) rfl rfl];let K:Fr:=eL (fh [66,53,56] [.b .c,.a n,.a a]) 68 (.b (.d n));have I:Ev (dd Q (k+1)) t K (.c (.a 68) 2) (.a (t.a n).c) t:=gv (i4 (n:=n) rfl) rfl;have:f7 (dd Q (k+1)) t (fh [66,53,56] [.b .c,.a n,.a a]) rh (.b (.a (t.a n).c)) t K:=
  eG (fO (iG G rfl (fu (n:=n) rfl) W) rfl) (iq (jj (ye (vz (u8 (y:=0) I rfl P) (vz (nE (gI (eV (gv (iG G rfl I z) rfl) fJ) ub) (fu (n:=a) rfl) i) rfl))) (iq (i7 I rfl))))
 show gP (rh.c _ _ (fh [66,53,56] [.b .c,.a n,.a a]))=_;rw[this];rfl
def mG(t:eB)(s p:Int):eB:={ t.f (t.c+1) ⟨s,p,[],0,0,0,0,0,1,1,0,0⟩ with c:=t.c+1,b:=t.b++[t.c+1] }
theorem Cm{s p:Int}{k:Nat}(C:t.b.length≤100000):gF eb (k+4) 1028 [.b .c,.a s,.a p] t=d9 (.b (.d (t.c+1)),mG t s p):=by
 show(if 1028=1028 then(if eb=eb∧3≤k+3 then zb [.b .c,.a s,.a p] t else eh) else _)=_;rw[if_pos rfl,if_pos ⟨rfl,W1 ..⟩];exact if_pos ⟨rfl,C⟩
theorem EU{o:eW}{n:Int}{X:List Int}(h:Ev d t F e (.c eb (eF X)) E)(g:Ev d E F o (.b (.d n)) S):Ex d t F (.d o 3 e) .a { S.m n X with h:=S.h+1 } F:=
 nF h g (by
  show(eh<|>((l6 (eF X)).map λX=>{ S.m n X with h:=S.h+1 }))=_;rw[nQ];rfl)
noncomputable def ot(a:Int):Int:=if a=0 then 2 else 1
def sJ(t:eB)(n a:Int):gE:=⟨ot a,(t.a n).c,[],(t.a n).g,(t.a n).h,(t.a n).d,(t.a n).e,0,1,1,0,0⟩
def nO(t:eB)(n a:Int):eB:=(mG t (ot a) (t.a n).c).f (t.c+1) (sJ t n a)
def uf(t:eB)(n N:Int):eB:={ (t.f n { t.a n with c:=N }).m N [n] with h:=t.h+1 }
theorem PC{n a:Int}{k:Nat}(G:t.g=7)(d:t.b.length≤1000)(b:n∈t.b)(O:n≠t.c+1)
  (V:(t.a n).c=0∨((t.a n).c≠0∧(t.a n).c∈t.b∧fA (t.a (t.a n).c).b≠a))
  (c:gF eb (k+4) 20 [.b .c,.a n,.a (t.c+1)] (nO t n a)=d9 (.b .e,S)) (f:S.g=7) (l:S.b=t.b++[t.c+1]):
  gF eb (k+5) 32 [.b .c,.a n,.a a] t=d9 (.a (t.c+1),uf S n (t.c+1)):=by
 rw[iB (M:=[66,53,56]) (b:=rh) (by decide) rfl rfl];let K:Fr:=eL (fh [66,53,56] [.b .c,.a n,.a a]) 68 (.b (.d n));let H:Fr:=eL K 92 (.b (.d (t.c+1)));have I:Ev (dd eb (k+4)) t K (.c (.a 68) 2) (.a (t.a n).c) t:=gv rfl rfl;have s:Ev (dd eb (k+4)) t K (.D oO (.a (.h gd (.c (.a 68) 2) (.d 0)) (.a (.h fZ (.j 15 (.a (.c (.n (.c (.a 66) 16) (.c (.a 68) 2)) 1) .b)) (.a 56)) .b))) (.d em) t:=by
  rcases V with P|⟨P,z,i⟩
  ·exact ye (si (lV (y:=0) I rfl P))
  ·exact ye (vz (u8 (y:=0) I rfl P) (si (oq (gI (eV (gv (iG G rfl I z) rfl) fJ) ub) (fu (n:=a) rfl) i)))
 have Z:Ev (dd eb (k+4)) t K (.v (.a 66) 28 (.a (.j 16 (.a (.a 56) .b)) (.a (.c (.a 68) 2) .b))) (.b (.d (t.c+1))) (mG t (ot a) (t.a n).c):=
  iL rfl (eV (gI rfl (UA (k:=k+3))) rfl) rfl (Cm (k:=k) (by lia))
 let E:=mG t (ot a) (t.a n).c;have g:E.a n=t.a n:=if_neg O;have R:E.a (t.c+1)=⟨ot a,(t.a n).c,[],0,0,0,0,0,1,1,0,0⟩ :=if_pos rfl;have L:Ev (dd eb (k+4)) E H (.A (.a (.c (.a 68) 6) (.a (.c (.a 68) 7) (.a (.c (.a 68) 4) (.a (.c (.a 68) 5) .b))))) (.b (tp [(E.a n).d,(E.a n).e,(E.a n).g,(E.a n).h])) E:=
  ki (J:=[.a (E.a n).d,.a (E.a n).e,.a (E.a n).g,.a (E.a n).h]) rfl rfl (iO rfl)
 have B:∀(t:eB) (n:Int) (w C:gE),(t.f n w).f n C=t.f n C:=λt n w C=>by
  show{ t with a:=λx=>if x=n then C else(if x=n then w else t.a x) }={ t with a:=λx=>if x=n then C else t.a x }
  congr 1;funext x;by_cases e:x=n
  ·rw[if_pos e,if_pos e]
  ·rw[if_neg e,if_neg e,if_neg e]
 have Q:∀(t:eB) (n:Int) (w:gE),(t.f n w).a n=w:=λt n w=>if_pos rfl;have j:rD E (t.c+1) [6,7,4,5] (eF [(E.a n).d,(E.a n).e,(E.a n).g,(E.a n).h])=d9 (nO t n a):=by
  rw[g];show d9 ((((E.f (t.c+1) { E.a (t.c+1) with d:=(t.a n).d }).f (t.c+1) { ((E.f (t.c+1) { E.a (t.c+1) with d:=(t.a n).d }).a (t.c+1)) with e:=(t.a n).e }).f (t.c+1) _).f (t.c+1) _)=_;rw(occs:=eO) [Q,B,Q,B,Q,B,R];rfl
 have:f7 (dd eb (k+4)) t (fh [66,53,56] [.b .c,.a n,.a a]) rh (.b (.a (t.c+1))) (uf S n (t.c+1)) H:=
  eG (fO (iG G rfl rfl b) rfl) (eG (gU s fp) (eG (fO Z rfl) (eG (u9 (n:=t.c+1) rfl L rfl j)
   (eG (j5 (gI rfl c)) (eG (pX (n:=n) (x:=t.c+1) rfl rfl rfl)
   (eG (EU (n:=t.c+1) (X:=[n]) rfl rfl) (iq (i7 rfl rfl))))))))
 show gP (rh.c _ _ (fh [66,53,56] [.b .c,.a n,.a a]))=_;rw[this];rfl
noncomputable def wU(t:eB)(n:Int):eB:={ t with b:=t.b.filter λm=>eU (m≠n) }
theorem Qk(h:Un t T)(M:t.b.length≤1000){n:Int}(W:n∈t.b)(X:(t.a n).a=[]){k:Nat}:gF Q (k+2) 21 [.b .c,.a n] t=d9 (.b .e,wU t n):=by
 have Z:=xr (Q:=Q) h M W (k:=k);have e:PP t T n=[n]:=by rw[lx h.e W,X];rfl
 rw[e] at Z;rw[iB (M:=[66,53]) (b:=vJ) (by decide) rfl rfl];let Y:Fr:=fh [66,53] [.b .c,.a n];have y:f7 (dd Q (k+1)) t (fV Y [72] [.a n]) (.a (.q 66 (.a 72)) .b) .a (wU t n) (fV Y [72] [.a n]):=eG (yi (k:=n) rfl rfl W (by lia)) fp;have r:j9 (lR (.a (.j 19 (.a (.a 66) (.a (.a 53) .b)))) [.c eb (eF [n])] t Y) [72] (λt F=>(Ss.a (.q 66 (.a 72)) .b).c (dd Q (k+1)) t F) ((eF [n]).map λx=>[x]) t Y=d9 (.a,wU t n,fV Y [72] [.a n]):=
  (mB rfl y).trans (nP rfl)
 have:f7 (dd Q (k+1)) t Y vJ .a (wU t n) (fV Y [72] [.a n]):=
  eG (mQ (lL (gI rfl Z)) (kP rfl) rfl rfl r) fp
 show gP (vJ.c _ _ Y)=_;rw[this];rfl
theorem yg{f:Nat}(h:F i=d9 (.b .c))(l:([.j,.a t.c,.a t.l,.a 3,.a 2,.a t.d,.a t.i]:List eD)[f]? =d9 v)(G:t.g=7):Ev d t F (.c (.a i) (16+f)) v t:=by
 refine gv (ip h) ?_;show(if 16≤16+f then t.n[16+f-16]? else eh)=_;rw[if_pos (xF ..),KN,we G,l]
theorem LB{n:Int}(G:t.g=7)(h:F i=d9 (.b .c))(g:Ev d t F e (.a n) t)(W:n∈t.b):Ev d t F (.L (.c (.a i) 16) e) (.b (.d n)) t:=by
 show(eW.q d _ t F).bind _=_;rw[yg (f:=0) (v:=.j) h rfl G];show(e.q d t F).bind _=_;rw[g];show d9 (eD.b (if n∈t.b then .d n else .e),t)=_;rw[if_pos W]
theorem Dy{n:Int}{k:Nat}(G:t.g=7)(W:n∈t.b):gF Q (k+1) 1029 [.b .c,.a n] t=d9 (.b (.d n),t):=by
 rw[iB (M:=[50,53]) (b:=vE) (by decide) rfl rfl];have:f7 (dd Q k) t (fh [50,53] [.b .c,.a n]) vE (.b (.b (.d n))) t _:=
  eG (fO (LB G rfl (fu (n:=n) rfl) W) rfl) (eG (gU (gG (v:=.b (.d n)) (u:=.b .e) (i4 rfl) rfl rfl) fp) (iq (yh rfl rfl)))
 show gP (vE.c _ _ (fh [50,53] [.b .c,.a n]))=_;rw[this];rfl
theorem HH{n:Int}{k:Nat}(G:t.g=7)(W:n∈t.b)(S:(t.a n).b=0):gF Q (k+2) 1030 [.b .c,.a n] t=d9 (.b (.d n),t):=by
 rw[iB (M:=[50,53]) (b:=vB) (by decide) rfl rfl];have:f7 (dd Q (k+1)) t (fh [50,53] [.b .c,.a n]) vB (.b (.b (.d n))) t _:=
  eG (fO (iL (ip rfl) (eV (fu (n:=n) rfl) fJ) rfl (Dy (Q:=Q) (k:=k) G W)) rfl) (eG (gU (lV (y:=0) (gv (i4 (n:=n) rfl) rfl) rfl S) fp) (iq (yh rfl rfl)))
 show gP (vB.c _ _ (fh [50,53] [.b .c,.a n]))=_;rw[this];rfl
def kX(t:eB)(n:Int):eB:={ t.f n { t.a n with f:=t.l+1 } with l:=t.l+1 }
theorem J1{n:Int}{k:Nat}(G:t.g=7)(W:n∈t.b):gF Q (k+1) 1031 [.b .c,.a n] t=d9 (.b .e,kX t n):=by
 rw[iB (M:=[50,53]) (b:=vD) (by decide) rfl rfl];let F:Fr:=fh [50,53] [.b .c,.a n];let E:eB:={ t with l:=t.l+1 };have I:Ex (dd Q k) t F (.d (.a 50) 18 (.p io (.c (.a 50) 18) (.d 1))) .a E F:=nF (v:=.a (t.l+1)) (u:=.b .c) (hZ (v:=.a t.l) (u:=.a 1) (yg (f:=2) (v:=.a t.l) rfl rfl G) rfl rfl) rfl rfl;have Y:Ex (dd Q k) E F (.d (.n (.c (.a 50) 16) (.a 53)) 13 (.c (.a 50) 18)) .a (kX t n) F:=
  pX (x:=t.l+1) (n:=n) (yg (t:=E) (f:=2) (v:=.a (t.l+1)) rfl rfl G) (jh (u:=.a n) (yg (t:=E) (f:=0) (v:=.j) rfl rfl G) (fu rfl) (by show(if _ then _ else _)=_;exact if_pos W)) rfl
 have:f7 (dd Q k) t F vD .a (kX t n) F:=eG I (eG Y fp);show gP (vD.c _ _ F)=_;rw[this];rfl
theorem Da{x:Int}(G:t.g=7):Internal.wY t 22 (.b .c) (.a x)=d9 { t with i:=x }:=by
 show(if 6≤t.g then d9 { t with i:=x,g:=max t.g 7 } else eh)=_;rw[if_pos (by lia)];have:max t.g 7=t.g:=by rw[G];rfl
 rw[this]
theorem Uh{n:Int}{k:Nat}(G:t.g=7)(W:n∈t.b)(S:(t.a n).b=0):gF Q (k+3) 1032 [.b .c,.a n] t=d9 (.b .e,kX { t with i:=n } n):=by
 rw[iB (M:=[50,53]) (b:=vC) (by decide) rfl rfl];let F:Fr:=fh [50,53] [.b .c,.a n];let E:eB:={ t with i:=n };have I:Ex (dd Q (k+2)) t F (.d (.a 50) 22 (.c (.v (.a 50) 30 (.a (.a 53) .b)) 0)) .a E F:=
  nF (v:=.a n) (u:=.b .c) (gv (v:=.b (.d n)) (iL rfl rfl rfl (HH (Q:=Q) (k:=k) G W S)) rfl) rfl (Da G)
 have Y:Ex (dd Q (k+2)) E F (.h (.v (.a 50) 31 (.a (.a 53) .b))) .a (kX E n) F:=
  j5 (iL rfl rfl rfl (J1 (t:=E) (Q:=Q) (k:=k+1) G W))
 have:f7 (dd Q (k+2)) t F vC .a (kX E n) F:=eG I (eG Y fp);show gP (vC.c _ _ F)=_;rw[this];rfl
abbrev Ax(a:Int):Prop:=a=0∨a=1
def vm(t:eB)(a n:Int):Prop:=(t.a n).b≠0->if fA (t.a n).b=a then((t.a n).a.map (sz t a)).sum=sz t a n else∀c∈(t.a n).a,sz t a c=sz t a n
structure Gc(t:eB)(rk:Int->Nat)(q r:Int):Prop extends y:Ok t rk where
 h:t.d∈t.b
 o:(t.a t.d).c=0
 g:∀n∈t.b,1≤n∧n≤t.c
 C:t.b.Nodup
 D:∀n∈t.b,n≠t.d->(t.a n).c∈t.b∧n∈(t.a (t.a n).c).a
 B:BM t
 v:∀n∈t.b,(t.a n).b≠0->n≠q->2≤(t.a n).a.length
 A:∀n∈t.b,n≠r->∀c∈(t.a n).a,(t.a c).b≠(t.a n).b
 x:∀a,Ax a->∀n∈t.b,(t.a n).b=0->kr a≤sz t a n
 z:∀a,Ax a->sz t a t.d≤100
theorem Gc.N(h:Gc t T q r)(n:Int)(W:n∈t.b)(e:n≠t.d){G:Prop}(k:(t.a n).c∈t.b->n∈(t.a (t.a n).c).a->G):G:=fe (h.D n W e) k
structure Gx(t:eB)(rk:Int->Nat)(q r:Int):Prop extends O:Gc t rk q r where
 u:∀a,Ax a->∀n∈t.b,vm t a n
theorem Je{l:List Int}{f g:Int->Int}(h:∀c∈l,f c≤g c):(l.map f).sum≤(l.map g).sum:=by
 induction l with
 |nil=>exact ja _
 |cons c r D=>
  rw[gj,gj,ky,ky];exact Int.add_le_add (h c (gp ..)) (D λx Z=>h x (gC _ Z))
theorem CL{B:Int}:∀{l:List Int},l≠[]->(∀x∈l,x≤B)->kN l≤B
 |[],h,_=>absurd rfl h
 |[x],_,h=>h x (gp ..)
 |x::y::r,_,h=>Int.max_le.2 ⟨h x (gp ..),CL (l:=y::r) (List.cons_ne_nil _ _) λz P=>h z (gC _ P)⟩
theorem Gx.U(h:Gx t T q r)(M:Ax a){n:Int}(W:n∈t.b):LL t T a n≤sz t a n:=by
 refine h.e.M (P:=λn=>LL t T a n≤sz t a n) ?_ W;intro n W D;rw[lX h.e W];by_cases s:(t.a n).b=0
 ·rw[if_pos s];exact h.x a M n W s
 ·rw[if_neg s]
  have f:=h.u a M n W s;by_cases c:fA (t.a n).b=a
  ·rw[if_pos c] at f ⊢;rw[←f];exact Je D
  ·rw[if_neg c] at f ⊢
   refine CL (λe=>s ((h.i n W).2 (ny.1 e))) λx Z=>?_
   (refine fP Z λc X P=>?_;(clear Z;obtain rfl:=P))
   exact f c X▸D c X
theorem Gx.nn(h:Gx t T q r)(M:Ax a){n:Int}(W:n∈t.b):0≤sz t a n:=jY (qX h.e W) (h.U M W)
theorem Gx.am(h:Gx t T q r)(M:Ax a){n c:Int}(W:n∈t.b)(X:c∈(t.a n).a):sz t a c≤sz t a n:=by
 have f:=h.u a M n W λs=>by rw[(h.i n W).1 s] at X;cases X
 by_cases s:fA (t.a n).b=a
 ·rw[if_pos s] at f;rw[←f]
  exact zD (λx Z=>by(refine fP Z λy B V=>?_;(clear Z;obtain rfl:=V));exact h.nn M (h.d n W y B).1) _ (jZ X)
 ·rw[if_neg s] at f;exact AD (f c X)
theorem Tk(T:Int->Nat):∀l:List Int,∃B,∀n∈l,T n<B:=by
 intro N
 induction N with
 |nil=>
  exact⟨0,λU h=>absurd h iI⟩
 |cons n l D=>
  refine fL (D) λB h=>?_;refine⟨B+T n+1,λm Y=>?_⟩;rcases gy.1 Y with e|Y
  ·rw[e];lia
  ·have:=h m Y;lia
theorem Gx.ad(h:Gx t T q r){P:Int->Prop}(d:P t.d)(S:∀n∈t.b,∀c∈(t.a n).a,P n->P c){n:Int}(W:n∈t.b):P n:=by
 refine fL (Tk T t.b) λB i=>?_;have:∀k n,n∈t.b->B≤T n+k->P n:=by
  intro k
  induction k with
  |zero=>intro n W q;exact absurd (i n W) (KO.2 q)
  |succ k D=>
   intro n W q;by_cases e:n=t.d
   ·rw[e];exact d
   ·refine h.N n W e λu A=>?_
    exact S _ u n A (D _ u (by have:=(h.d _ u n A).2;lia))
 exact this B n W (W1 ..)
theorem Gx.W(h:Gx t T q r)(M:Ax a){n:Int}(W:n∈t.b):sz t a n≤100:=
 h.ad (P:=λn=>sz t a n≤100) (h.z a M) (λn W c X q=>jY (h.am M W X) q) W
theorem Gx.aa(h:Gx t T q r){n:Int}(W:n∈t.b):n∈PP t T t.d:=
 h.ad (P:=λn=>n∈PP t T t.d) (lY h.e h.h) (λn W c X q=>p8 h.e h.h q X) W
theorem Qf{l:List Int}{f:Int->List Int}{c:Int}(X:c∈l):(f c).length≤(l.flatMap f).length:=by
 induction l with
 |nil=>cases X
 |cons x r D=>
  rw[kY,il];rcases gy.1 X with e|X
  ·rw[e];lia
  ·have:=D X;lia
theorem Gx.ah(h:Gx t T q r):∃T,Gx t T q r∧∀n∈t.b,T n<61:=
 (ey (λn=>(PP t T n).length) ({ h with d:=λn W c X=>⟨(h.d n W c X).1,by
  show _<(PP t T n).length;rw[lx h.e W];exact W7 (Qf X)⟩ }) (λn W=>W7 (im (oW h.l W) h.j)))
theorem Gx.ai(h:Gx t T 0 0)(q r:Int):Gx t T q r:=
 { h with v:=λn W s U=>h.v n W s λe=>by have:=(h.g n W).1;lia,A:=λn W U=>h.A n W λe=>by have:=(h.g n W).1;lia }
structure Po(t:eB):Prop where
 c:(t.a t.d).g=0
 b:(t.a t.d).h=0
 a:∀n∈t.b,BD t n
theorem Gx.te(h:Gx t T 0 0)(p:Po t)(S:t.i∈t.b)(C:(t.a t.i).b=0){k:Nat}:gF eb (k+3) 28 [.b .c] t=d9 (.b .e,t):=
 Vc h.y h.h h.o p.c p.b (λn W=>h.aa W) h.C p.a S C
theorem C5{P:Int->Int×Int}:sz (gz t P) a=sz t a:=rfl
theorem Gx.Z{P:Int->Int×Int}(h:Gx t T q r):Gx (gz t P) T q r:=
 { y:=h.y.ac,h:=h.h,o:=h.o,g:=h.g,C:=h.C,D:=h.D,B:=h.B,v:=h.v,A:=h.A,u:=h.u,x:=h.x,z:=h.z }
theorem sj{s:Int}:Ax (fA s):=by
 unfold fA;by_cases h:s=2
 ·rw[if_pos h];exact eH rfl
 ·rw[if_neg h];exact eI rfl
theorem Ax.f(h:Ax a):Ax (1-a)∧a≠1-a:=by rcases h with rfl|rfl<;>exact⟨by decide,by decide⟩
theorem Ui{P:Int->Int×Int}{s b:Int}(j:fA s=b):∀(W:List Int) (l:Int×Int),(∀p∈l7 t s l W,P p.1=p.2)->
  Sq (gz t P) b (if b=0 then l.1 else l.2) W ((if b=0 then l.1 else l.2)+(W.map (sz t b)).sum)∧∀c∈W,pl (gz t P) (1-b) c=if b=0 then l.2 else l.1:=by
 intro W
 induction W with
 |nil=>intro l U;exact⟨(DG _).symm,λU h=>absurd h iI⟩
 |cons c r D=>
  intro l h;have e:=h (c,l) (gp ..);have D:=D (nY t s l c) λp J=>h p (gC _ J);have Z:Ax b:=j▸sj;have M:pl (gz t P) b c=(if b=0 then l.1 else l.2)∧pl (gz t P) (1-b) c=if b=0 then l.2 else l.1:=by
   show(if b=0 then(P c).1 else(P c).2)=_∧(if 1-b=0 then(P c).1 else(P c).2)=_;rw[show P c=l from e];clear j D;clear D;rcases Z with rfl|rfl<;>exact⟨rfl,rfl⟩
  have u:(if b=0 then(nY t s l c).1 else(nY t s l c).2)=(if b=0 then l.1 else l.2)+sz t b c∧(if b=0 then(nY t s l c).2 else(nY t s l c).1)=if b=0 then l.2 else l.1:=by
   unfold nY;rw[j];clear j D M;clear D;rcases Z with rfl|rfl<;>exact⟨rfl,rfl⟩
  rw[u.1,u.2] at D;refine⟨⟨M.1,?_⟩,λx Z=>?_⟩
  ·rw(occs:=eO) [gj,ky,←Int.add_assoc];exact D.1
  ·rcases gy.1 Z with e|Z
   ·rw[e];exact M.2
   ·exact D.2 x Z
theorem C4(h:Gx t T 0 0){k:Nat}:∃f,gF eb (k+2) 25 [.b .c] t=d9 (.b .e,gz t f)∧Po (gz t f):=by
 refine f5 (Uo (k:=k) h.y h.h) λf g P o=>?_;refine⟨f,g,congrArg kz P,congrArg Ea P,λn W=>⟨λs=>⟨(h.i n W).1 s,h.x 0 (eH rfl) n W s,h.x 1 (eI rfl) n W s⟩,λs=>?_⟩⟩;refine fe (Ui (t:=t) (P:=f) (b:=fA (t.a n).b) rfl (t.a n).a (f n) (o.b t.d (gp ..) n (h.aa W))) λI Y=>?_;have m:=sj (s:=(t.a n).b);have j:=h.u _ m n W s;rw[if_pos rfl] at j;refine⟨h.v n W s λe=>by have:=(h.g n W).1;lia,λc X=>⟨(h.d n W c X).1,h.k n W c X,h.A n W (λe=>by have:=(h.g n W).1;lia) c X,?_,?_⟩,?_⟩
 ·have w:=h.u _ m.f.1 n W s
  rw[if_neg m.f.2] at w;exact w c X
 ·refine(Y c X).trans ?_
  show _=if 1-fA (t.a n).b=0 then(f n).1 else(f n).2;rcases m with e|e<;>rw[e]<;>rfl
 ·show Sq (gz t f) (fA (t.a n).b) (if fA (t.a n).b=0 then(f n).1 else(f n).2) (t.a n).a ((if fA (t.a n).b=0 then(f n).1 else(f n).2)+sz t (fA (t.a n).b) n)
  rw[←j];exact I
noncomputable def mA(t:eB)(p c:Int):List Int:=if(t.a c).b=(t.a p).b then(t.a c).a else[c]
noncomputable def nV(t:eB)(p:Int):List Int->List Int->List Int
 |l,[]=>l
 |l,c::r=>nV t p (if(t.a c).b=(t.a p).b then l.filter (λn=>eU (n≠c)) else l) r
noncomputable def jq(t:eB)(l:List Int):eB:={ t with b:=l }
noncomputable def wP(t:eB)(p:Int)(l:List Int):eB:={ t with a:=λm=>if m∈l then{ t.a m with c:=p } else t.a m }
theorem SN{c:Int}{r:List Int}:wP (t.f c { t.a c with c:=p }) p r=wP t p (c::r):=by
 show{ t with a:=λm=>if m∈r then{ (if m=c then{ t.a c with c:=p } else t.a m) with c:=p } else if m=c then{ t.a c with c:=p } else t.a m }={ t with a:=_ }
 congr 1;funext m
 by_cases e:m=c
 ·rw[if_pos e,if_pos (show m∈c::r from e▸gp ..),e,ite_self]
 ·rw[if_neg e]
  by_cases q:m∈r
  ·rw[if_pos q,if_pos (gC _ q)]
  ·rw[if_neg q,if_neg λh=>(gy.1 h).elim e q]
theorem LI{o:eW}{x:Nat}{n:Int}{X:List Int}(h:F x=d9 (.c eb (eF X)))(g:Ev d t F o (.b (.d n)) E):Ex d t F (.D o x) .a { E.m n X with h:=E.h+1 } (λj=>if j=x then eh else F j):=by
 show(jE F x).bind _=_;rw[qu h];show(o.q d t F).bind _=_;rw[g];show((l6 (eF X)).map _)=_;rw[nQ];rfl
structure JF(p:Int)(F:Fr)(l:List Int):Prop where
 c:F 66=d9 (.b .c)
 d:F 53=d9 (.a p)
 b:F 68=d9 (.b (.d p))
 a:F 65=d9 (.c eb (eF l))
noncomputable abbrev BW:Ss:=.a (.a 72 (.n (.c (.a 66) 16) (.a 73))) (.a (.c (.h fZ (.c (.a 72) 1) (.c (.a 68) 1)) (.a (.u 65 (.c (.a 72) 3)) (.a (.q 66 (.a 73)) .b)) (.a (.m 65 (.a 73)) .b)) .b)
noncomputable abbrev FY:Ss:=.a (.d (.n (.c (.a 66) 16) (.a 73)) 2 (.a 53)) .b
theorem QF{k:Nat}(a:t.g=7)(i:∀c,c∈t.b->(t.a c).a.length≤60){P:eB->Fr->Bool}(S:∀l F,P (jq t l) F=eb):∀(W:List Int) (l h:List Int) F,JF p F h->W.Nodup->l.length≤60->(∀c∈W,c∈l∧c∈t.b)->h.length+60*W.length≤5000->
  ∃m,JF p m (h++W.flatMap (mA t p))∧j9 P [73] (λt F=>BW.c (dd Q k) t F) ((eF W).map λx=>[x]) (jq t l) F=d9 (.a,jq t (nV t p l W),m):=by
 intro N
 induction N with
 |nil=>
  intro l h F f U U U U;exact(ey F (by rw[DP,mL];exact f) (nP (S l F)))
 |cons c r D=>
  intro l h F f G C X j;rw[kG] at G;rw[lG] at j;have L:=X c (gp ..);have b:=i c L.2;have I:Ex (dd Q k) (jq t l) (fV F [73] [.a c]) (.a 72 (.n (.c (.a 66) 16) (.a 73))) .a (jq t l) (eL (fV F [73] [.a c]) 72 (.b (.d c))):=fO (iG a f.c rfl L.1) rfl;rw(occs:=eO) [kY,←nq];show∃m,_∧j9 P [73] _ ([.a c]::(eF r).map λx=>[x]) _ _=d9 (.a,jq t (nV t p (if(t.a c).b=(t.a p).b then l.filter (λn=>eU (n≠c)) else l) r),m);by_cases q:(t.a c).b=(t.a p).b
  ·rw[show mA t p c=(t.a c).a from if_pos q,if_pos q]
   have w:Ex (dd Q k) (jq t l) (eL (fV F [73] [.a c]) 72 (.b (.d c))) (.u 65 (.c (.a 72) 3)) .a (jq t l) (eL (eL (fV F [73] [.a c]) 72 (.b (.d c))) 65 (.c eb (eF (h++(t.a c).a)))):=by
    rw[←oM];exact Bf rfl f.a jL (by rw[gB,gB];show h.length+(t.a c).a.length≤_;lia)
   have Y:f7 (dd Q k) (jq t l) (fV F [73] [.a c]) BW .a (jq t (l.filter λn=>eU (n≠c))) (eL (eL (fV F [73] [.a c]) 72 (.b (.d c))) 65 (.c eb (eF (h++(t.a c).a)))):=
    eG I (eG (jj (nE (x:=(t.a c).b) (y:=(t.a p).b) (gv rfl rfl) (gv (i4 (n:=p) f.b) rfl) q) (eG w (eG (yi (fu (n:=c) rfl) f.c L.1 (im C (by decide))) fp))) fp)
   obtain⟨m,u,g⟩ :=D (l.filter λn=>eU (n≠c)) (h++(t.a c).a) (eL (eL (fV F [73] [.a c]) 72 (.b (.d c))) 65 (.c eb (eF (h++(t.a c).a)))) ⟨f.c,f.d,f.b,rfl⟩ G.2 (im (qC ..) C)
    (λx Z=>⟨lH.2 ⟨(X x (gC _ Z)).1,decide_eq_true λe=>G.1 (e▸Z)⟩,(X x (gC _ Z)).2⟩) (by rw[il];lia)
   exact(ey m u ((mB (S l F) Y).trans g))
  ·rw[show mA t p c=[c] from if_neg q,if_neg q]
   have o:Ex (dd Q k) (jq t l) (eL (fV F [73] [.a c]) 72 (.b (.d c))) (.m 65 (.a 73)) .a (jq t l) (eL (eL (fV F [73] [.a c]) 72 (.b (.d c))) 65 (.c eb (eF (h++[c])))):=by
    rw[←oM];exact qO (y:=.a c) rfl f.a (by rw[gB];lia)
   have Y:f7 (dd Q k) (jq t l) (fV F [73] [.a c]) BW .a (jq t l) (eL (eL (fV F [73] [.a c]) 72 (.b (.d c))) 65 (.c eb (eF (h++[c])))):=
    eG I (eG (gU (oq (x:=(t.a c).b) (y:=(t.a p).b) (gv rfl rfl) (gv (i4 (n:=p) f.b) rfl) q) (eG o fp)) fp)
   obtain⟨m,u,g⟩ :=D l (h++[c]) (eL (eL (fV F [73] [.a c]) 72 (.b (.d c))) 65 (.c eb (eF (h++[c])))) ⟨f.c,f.d,f.b,rfl⟩ G.2 C (λx Z=>X x (gC _ Z)) (by rw[il];show h.length+1+_≤_;lia);exact(ey m u ((mB (S l F) Y).trans g))
theorem QG{k:Nat}{l:List Int}{P:eB->Fr->Bool}(S:∀t F,JF p F l->P t F=eb):∀(W:List Int) (t:eB) F,t.g=7->JF p F l->(∀c∈W,c∈t.b)->
  ∃h,JF p h l∧j9 P [73] (λt F=>FY.c (dd Q k) t F) ((eF W).map λx=>[x]) t F=d9 (.a,wP t p W,h):=by
 intro N
 induction N with
 |nil=>
  intro t F G f U;exact(ey F f ((nP (S t F f)).trans (by rw[show wP t p []=t from congrArg (λw=>{ t with a:=w }) (funext λm=>if_neg iI)])))
 |cons c r D=>
  intro t F G f X;have I:f7 (dd Q k) t (fV F [73] [.a c]) FY .a (t.f c { t.a c with c:=p }) (fV F [73] [.a c]):=eG (pX (n:=c) (x:=p) (fu f.d) (iG G f.c rfl (X c (gp ..))) rfl) fp;obtain⟨h,u,g⟩ :=D (t.f c { t.a c with c:=p }) (fV F [73] [.a c]) G ⟨f.c,f.d,f.b,f.a⟩ λx Z=>X x (gC _ Z);rw[SN] at g;exact(ey h u ((mB (S t F f) I).trans g))
theorem SR{x:Int}:∀(W l:List Int),x∈nV t p l W↔x∈l∧¬(x∈W∧(t.a x).b=(t.a p).b):=by
 intro N
 induction N with
 |nil=>
  intro l;exact⟨λh=>⟨h,λq=>iI q.1⟩,And.left⟩
 |cons c r D=>
  intro l;show x∈nV t p (if _ then _ else _) r↔_;rw(occs:=eO) [D];by_cases q:(t.a c).b=(t.a p).b
  ·rw(occs:=eO) [if_pos q,lH]
   exact⟨λY=>fe Y λo d=>fe o λa b=>⟨a,λk=>fe k λh s=>(gy.1 h).elim (of_decide_eq_true (p:=x≠c) b) λh=>d ⟨h,s⟩⟩,λS=>fe S λa b=>⟨⟨a,by rw(occs:=eO) [decide_eq_true_iff];exactλe=>b ⟨e▸gp ..,e▸q⟩⟩,λh=>b ⟨gC _ h.1,h.2⟩⟩⟩
  ·rw(occs:=eO) [if_neg q]
   exact⟨λw=>fe w λa c=>⟨a,λA=>fe A λh s=>(gy.1 h).elim (λe=>q (e▸s)) λh=>c ⟨h,s⟩⟩,λj=>fe j λa b=>⟨a,λh=>b ⟨gC _ h.1,h.2⟩⟩⟩
theorem IA:∀(W l:List Int),(nV t p l W).Sublist l:=by
 intro N
 induction N with
 |nil=>
  intro l;exact Wt l
 |cons c r D=>
  intro l;show(nV t p (if _ then _ else _) r).Sublist l;by_cases q:(t.a c).b=(t.a p).b
  ·rw[if_pos q];exact(D _).trans WC
  ·rw[if_neg q];exact D _
def jm(t:eB)(p:Int):List Int:=(t.a p).a.flatMap (mA t p)
def kq(t:eB)(p:Int):eB:={ (wP (jq t (nV t p t.b (t.a p).a)) p (jm t p)).m p (jm t p) with h:=t.h+1 }
theorem Hy(h:Ok t T){p:Int}(J:p∈t.b)(z:∀c∈jm t p,c∈nV t p t.b (t.a p).a){k:Nat}:gF Q (k+1) 34 [.b .c,.a p] t=d9 (.b .e,kq t p):=by
 rw[iB (M:=[66,53]) (b:=vK) (by decide) rfl rfl];have U:∀c,c∈t.b->(t.a c).a.length≤60:=λc X=>im (ly h.l X) h.j;let K:Fr:=eL (eL (fh [66,53] [.b .c,.a p]) 68 (.b (.d p))) 65 (.c eb []);have Z:jq t t.b=t:=rfl;refine eR (QF (t:=t) (Q:=Q) (k:=k) (p:=p) (P:=lR (.a (.c (.a 68) 3)) [.f p t.h] t K) h.f U (λl F=>by
   have:pE t (jq t l) [.f p t.h]=true:=iC.2 λv N=>@decide_eq_true _ (zZ ..) (by rw[gR.1 N];exact⟨rfl,rfl⟩);show(pE t (jq t l) _&&_)=eb;rw[this];rfl) (t.a p).a t.b [] K ⟨rfl,rfl,rfl,rfl⟩ (h.m p J) h.j (λc X=>⟨(h.d p J c X).1,(h.d p J c X).1⟩) (by have:=U p J;show 0+_≤_;lia)) λH w b=>?_
 rw[AL] at w;have B:∀{F},JF p F (jm t p)->iY F 65=d9 (jm t p):=λf=>by unfold iY;rw[qu f.a];exact nQ _
 refine eR (QG (Q:=Q) (k:=k) (p:=p) (l:=jm t p) (P:=lR (.a (.a 65)) [.c em (eF (jm t p))] (jq t (nV t p t.b (t.a p).a)) H) (λt F f=>by
   show(_&&(m0 H F (.a 65)&&eb))=eb;have:m0 H F (.a 65)=true:=by
    show(!(iY H 65).isSome||eU (iY F 65=iY H 65))=eb;rw[B f,B w,decide_eq_true rfl,pI]
   rw[this];rfl) (jm t p) (jq t (nV t p t.b (t.a p).a)) H h.f w z) λD S A=>?_
 have a:((iF.a (.a 65)).d.zip [eD.c em (eF (jm t p))]).all (λp=>mK H p.1 p.2)=true:=by
  show(mK H (.a 65) _&&eb)=eb;have:mK H (.a 65) (.c em (eF (jm t p)))=true:=by
   show(!(jE H 65).isSome||(iY H 65).isSome)=eb;rw[B w];exact pI _
  rw[this];rfl
 have:f7 (dd Q k) t (fh [66,53] [.b .c,.a p]) vK .a (kq t p) (λj=>if j=65 then eh else D j):=
  eG (fO (iG h.f rfl rfl J) rfl) (eG (fO rfl rfl) (eG (mQ rfl (kP jL) rfl rfl b)
   (eG (mQ (lL (fg w.a)) (kP rfl) rfl a A) (eG (LI (n:=p) S.a (i4 S.b)) fp))))
 show gP (vK.c _ _ (fh [66,53] [.b .c,.a p]))=_;rw[this];rfl
structure Kp(g:Int)(t t':eB):Prop where
 e:∀x∈t.b,(t.a x).b=0->x≠g->x∈t'.b
 a:∀x∈t'.b,(x∈t.b∧(t'.a x).b=(t.a x).b∧(t'.a x).f=(t.a x).f)∨(t.c<x∧(t'.a x).f=0)
 h:t.c≤t'.c
 j:∀x∈t.b,x≤t.c
 i:t'.l=t.l
 b:t'.i=t.i
 d:t'.k=t.k
 c:t'.e=t.e
theorem Kp.f(h:Kp g t E)(k:Kp g E S):Kp g t S where
 e x Z s e:=by
  have K:=h.e x Z s e;rcases h.a x K with ⟨_,q,_⟩ |⟨l,_⟩
  ·exact k.e x K (q.trans s) e
  ·exact absurd (h.j x Z) (rH.2 l)
 a x Z:=by
  rcases k.a x Z with ⟨K,s,u⟩ |⟨l,u⟩
  ·rcases h.a x K with ⟨I,Y,A⟩ |⟨l,A⟩
   ·exact eH ⟨I,s.trans Y,u.trans A⟩
   ·exact eI ⟨l,u.trans A⟩
  ·exact eI ⟨Int.lt_of_le_of_lt h.h l,u⟩
 h:=jY h.h k.h
 j:=h.j
 i:=k.i.trans h.i
 b:=k.b.trans h.b
 d:=k.d.trans h.d
 c:=k.c.trans h.c
theorem sV{c:Int}:c∈jm t p↔∃b∈(t.a p).a,((t.a b).b=(t.a p).b∧c∈(t.a b).a)∨((t.a b).b≠(t.a p).b∧c=b):=by
 refine qD.trans ⟨λY=>eR Y λb j h=>⟨b,j,?_⟩,λo=>eR o λb j h=>⟨b,j,?_⟩⟩
 ·unfold mA at h
  by_cases s:(t.a b).b=(t.a p).b
  ·rw[if_pos s] at h;exact eH ⟨s,h⟩
  ·rw[if_neg s] at h;exact eI ⟨s,gR.1 h⟩
 ·unfold mA
  rcases h with ⟨s,h⟩ |⟨s,h⟩
  ·rw[if_pos s];exact h
  ·rw[if_neg s];exact gR.2 h
theorem UX{f:Int->List Int}{g:Int->Int}{l:List Int}(h:∀b∈l,((f b).map g).sum=g b):((l.flatMap f).map g).sum=(l.map g).sum:=by
 induction l with
 |nil=>rfl
 |cons b r D=>rw[kY,lb,w8,h b (gp ..),D λx Z=>h x (gC _ Z),gj,ky]
theorem G6{f:Int->List Int}{l:List Int}(h:∀b∈l,f b≠[]):l.length≤(l.flatMap f).length:=by
 induction l with
 |nil=>exact ig _
 |cons b r D=>
  have:=DV.2 (h b (gp ..));have:=D λx Z=>h x (gC _ Z);rw[kY,il,lG];lia
def pA(t:eB)(p m:Int):gE:=if m=p then{ t.a p with a:=jm t p } else if m∈jm t p then{ t.a m with c:=p } else t.a m
theorem QH(r:p∉jm t p)(m:Int):(kq t p).a m=pA t p m:=by
 show(if m=p then({ (if p∈jm t p then _ else _:gE) with a:=jm t p }:gE) else if m∈jm t p then _ else _)=_;rw[if_neg r];rfl
theorem zm(m:Int):(pA t p m).b=(t.a m).b∧(pA t p m).d=(t.a m).d∧(pA t p m).e=(t.a m).e∧(pA t p m).f=(t.a m).f:=by
 unfold pA;by_cases e:m=p
 ·rw[if_pos e,e];exact⟨rfl,rfl,rfl,rfl⟩
 ·rw[if_neg e]
  by_cases h:m∈jm t p
  ·rw[if_pos h];exact⟨rfl,rfl,rfl,rfl⟩
  ·rw[if_neg h];exact⟨rfl,rfl,rfl,rfl⟩
theorem Hw(h:Gx t T 0 p)(J:p∈t.b):Gx (kq t p) T 0 0∧Kp g t (kq t p)∧(∀c∈jm t p,c∈nV t p t.b (t.a p).a)∧(∀a x,sz (kq t p) a x=sz t a x)∧∀x,((kq t p).a x).b=(t.a x).b:=by
 have N:=h.d p J;have l:∀n∈t.b,∀c∈(t.a n).a,c≠n:=λn W c R e=>by have:=(h.d n W c R).2;rw[e] at this;exact absurd this (lg _)
 have F:∀n∈t.b,∀m∈t.b,∀c,c∈(t.a n).a->c∈(t.a m).a->n=m:=λn W m Y c h1 h2=>(h.k n W c h1).symm.trans (h.k m Y c h2);have Q:=(h.g p J).1;have r:p∉jm t p:=λY=>by
  obtain⟨b,j,⟨_,R⟩ |⟨_,e⟩⟩ :=sV.1 Y
  ·have:=(h.d b (N b j).1 p R).2;have:=(N b j).2;lia
  ·exact l p J b j e.symm
 have H:∀n∈t.b,t.d∉(t.a n).a:=λn W Y=>by have:=h.k n W _ Y;rw[h.o] at this;have:=(h.g n W).1;lia
 have B:t.d∉jm t p:=λY=>by
  obtain⟨b,j,⟨_,R⟩ |⟨_,e⟩⟩ :=sV.1 Y
  ·exact H b (N b j).1 R
  ·exact H p J (e▸j)
 have v:=QH (t:=t) r;have o:∀m,m≠p->((kq t p).a m).a=(t.a m).a:=λm e=>by
  rw(occs:=eO) [v,pA,if_neg e];by_cases c:m∈jm t p
  ·rw(occs:=eO) [if_pos c]
  ·rw(occs:=eO) [if_neg c]
 have G:((kq t p).a p).a=jm t p:=by rw(occs:=eO) [v,pA,if_pos rfl]
 have S:∀m∈jm t p,((kq t p).a m).c=p:=λm Y=>by rw(occs:=eO) [v,pA,if_neg (show m≠p fromλe=>r (e▸Y)),if_pos Y]
 have O:∀m,m∉jm t p->((kq t p).a m).c=(t.a m).c:=λm Y=>by
  rw(occs:=eO) [v,pA];by_cases e:m=p
  ·rw(occs:=eO) [if_pos e,e]
  ·rw(occs:=eO) [if_neg e,if_neg Y]
 have w:∀m,((kq t p).a m).b=(t.a m).b:=λm=>by rw[v];exact(zm m).1
 have K:∀a m,sz (kq t p) a m=sz t a m:=λa m=>by unfold sz;rw[v,(zm m).2.1,(zm m).2.2.1]
 have i:∀x,x∈(kq t p).b↔x∈t.b∧¬(x∈(t.a p).a∧(t.a x).b=(t.a p).b):=λx=>SR (t:=t) (p:=p) (t.a p).a t.b;have I:∀c∈jm t p,c∈t.b∧T c<T p∧c∈(kq t p).b∧(t.a c).b≠(t.a p).b:=λc R=>by
  obtain⟨b,j,⟨s,R⟩ |⟨s,e⟩⟩ :=sV.1 R
  ·have C:=h.d b (N b j).1 c R
   have L:=h.A b (N b j).1 (l p J b j) c R;exact⟨C.1,AQ C.2 (N b j).2,(i c).2 ⟨C.1,λq3=>fe q3 λU s'=>L (s'.trans s.symm)⟩,s▸L⟩
  ·exact e▸⟨(N b j).1,(N b j).2,(i b).2 ⟨(N b j).1,λq4=>fe q4 λU s'=>s s'⟩,s⟩
 have u:p∈(kq t p).b:=(i p).2 ⟨J,λq5=>fe q5 λY U=>l p J p Y rfl⟩;have aa:=IA (t:=t) (p:=p) (t.a p).a t.b;have jl:∀b∈(t.a p).a,(t.a p).b≠0->mA t p b≠[]:=λb j s e=>by
  unfold mA at e;by_cases q:(t.a b).b=(t.a p).b
  ·rw[if_pos q] at e;exact s (q▸(h.i b (N b j).1).2 e)
  ·rw[if_neg q] at e;exact wI e
 refine⟨{
      d:=λn W c R=>?_,k:=λn W c R=>?_,m:=λn W=>?_,f:=h.f,j:=im aa.length_le h.j,i:=λn W=>?_,h:=(i _).2 ⟨h.h,λq6=>fe q6 λY U=>H p J Y⟩,o:=(O _ B).trans h.o
      g:=λn W=>h.g n ((i n).1 W).1,C:=aa.nodup h.C,D:=λn W e=>?_,B:=λn W=>by rw[w];exact h.B n ((i n).1 W).1,v:=λn W s U=>?_,A:=λn W U c R=>?_,
      u:=λa M n W=>?_,x:=λa M n W s=>by rw[K];exact h.x a M n ((i n).1 W).1 (w n▸s),z:=λa M=>by rw[K];exact h.z a M },⟨λx Z s U=>(i x).2 ⟨Z,λq7=>fe q7 λR s'=>?_⟩,λx Z=>eH ⟨((i x).1 Z).1,w x,by rw[v];exact(zm x).2.2.2⟩,ja _,λx Z=>(h.g x Z).2,rfl,rfl,rfl,rfl⟩,λc R=>(I c R).2.2.1,K,w⟩
 ·by_cases e:n=p
  ·clear h J N Q r B v o S O w K i u aa jl W
   subst e;rw[G] at R;exact⟨(I c R).2.2.1,(I c R).2.1⟩
  ·rw[o n e] at R
   have k1:=h.d n ((i n).1 W).1 c R;exact⟨(i c).2 ⟨k1.1,λq8=>fe q8 λY U=>e (F n ((i n).1 W).1 p J c R Y)⟩,k1.2⟩
 ·by_cases e:n=p
  ·clear h J N Q r B v o O w K i I u aa jl W
   subst e;rw[G] at R;exact S c R
  ·rw(occs:=eO) [o n e] at R
   have D:=(i n).1 W;rw(occs:=eO) [O c λY=>?_]
   ·exact h.k n D.1 c R
   ·obtain⟨b,j,⟨s,af⟩ |⟨s,e'⟩⟩ :=sV.1 Y
    ·have:=F n D.1 b (N b j).1 c R af
     exact D.2 (this▸⟨j,s⟩)
    ·exact e (F n D.1 p J c R (e'▸j))
 ·by_cases e:n=p
  ·clear Q r B v o S O w K i I u aa jl W
   subst e;rw[G];refine List.pairwise_flatMap.2 ⟨λb j=>?_,(h.m n J).imp_of_mem λ{b k} j ac E x Z y hy e=>?_⟩
   ·unfold mA
    by_cases s:(t.a b).b=(t.a n).b
    ·rw[if_pos s];exact h.m b (N b j).1
    ·rw[if_neg s];exact xC _ b
   ·subst e
    have ae:∀b∈(t.a n).a,x∈mA t n b->(t.a x).c=b∨((t.a x).c=n∧x=b):=λb j Z=>by
     unfold mA at Z;by_cases s:(t.a b).b=(t.a n).b
     ·rw[if_pos s] at Z;exact eH (h.k b (N b j).1 x Z)
     ·rw[if_neg s] at Z;rw[gR.1 Z];exact eI ⟨h.k n J b j,rfl⟩
    rcases ae b j Z with P|⟨P,V⟩ <;>rcases ae k ac hy with X|⟨X,e4⟩
    ·exact E (P.symm.trans X)
    ·exact l n J b j (P.symm.trans X)
    ·exact l n J k ac (X.symm.trans P)
    ·exact E (V.symm.trans e4)
  ·rw[o n e];exact h.m n ((i n).1 W).1
 ·rw[w]
  by_cases e:n=p
  ·clear N Q r B v o S O w K i I u aa W
   subst e;rw[G];refine⟨λs=>?_,λs=>?_⟩
   ·unfold jm;rw[(h.i n J).1 s];rfl
   ·by_cases z:(t.a n).b=0
    ·exact z
    ·have l1:=G6 (f:=mA t n) (l:=(t.a n).a) λb j=>jl b j z
     have l2:=DV.2 λe=>z ((h.i n J).2 e);rw[show(t.a n).a.flatMap (mA t n)=[] from s] at l1;exact absurd (W5 l2 l1) (lg _)
  ·rw[o n e];exact h.i n ((i n).1 W).1
 ·have D:=(i n).1 W
  by_cases m:n∈jm t p
  ·rw[S n m,G];exact⟨u,m⟩
  ·refine h.N n D.1 e λu1 A=>?_
   rw[O n m];have bp:(t.a n).c≠p:=λP=>m (sV.2 (ey n (P▸A) (eI ⟨λs=>D.2 ⟨P▸A,s⟩,rfl⟩)));rw[o _ bp];exact⟨(i _).2 ⟨u1,λq9=>fe q9 λY s=>m (sV.2 (ey _ Y (eH ⟨s,A⟩)))⟩,A⟩
 ·rw[w] at s
  by_cases e:n=p
  ·clear N Q r B v o S O w K i I u aa W
   subst e;rw[G];exact im (h.v n J s (by lia)) (G6 λb j=>jl b j s)
  ·rw[o n e];exact h.v n ((i n).1 W).1 s (by have:=(h.g n ((i n).1 W).1).1;lia)
 ·rw[w,w]
  by_cases e:n=p
  ·clear h J N Q r B v o S O w K i u aa jl W
   subst e;rw[G] at R;exact(I c R).2.2.2
  ·rw[o n e] at R;exact h.A n ((i n).1 W).1 e c R
 ·have f:=h.u a M n ((i n).1 W).1
  intro s;rw[w] at s ⊢;have f:=f s;rw[funext (K a)];by_cases e:n=p
  ·clear J Q r B v o S O w K i I u aa jl W
   subst e;rw[G];by_cases c:fA (t.a n).b=a
   ·rw[if_pos c] at f ⊢
    rw[←f];refine UX λb j=>?_;unfold mA;by_cases s':(t.a b).b=(t.a n).b
    ·rw[if_pos s']
     have d:=h.u a M b (N b j).1 (s'▸s);rw[s',if_pos c] at d;exact d
    ·rw[if_neg s'];exact DG _
   ·rw[if_neg c] at f ⊢
    intro x Z;obtain⟨b,j,⟨s',R⟩ |⟨s',e⟩⟩ :=sV.1 Z
    ·have d:=h.u a M b (N b j).1 (s'▸s)
     rw[s',if_neg c] at d;exact(d x R).trans (f b j)
    ·exact e▸f b j
  ·rw[o n e];exact f
 ·have:=(h.i p J).1 (s'▸s)
  rw[this] at R;cases R
noncomputable def lD(n N c:Int):Int:=if c=n then N else c
theorem pF{N:Int}:lD n N n=N:=if_pos rfl
theorem n5{N c:Int}(h:c≠n):lD n N c=c:=if_neg h
theorem zC{N:Int}{l:List Int}(h:n∉l):l.map (lD n N)=l:=
 (kh (g:=id) λx Z=>n5 λ(e:x=n)=>h (e▸Z)).trans (KD l)
theorem IU{N:Int}:∀{l:List Int},l.Nodup->n∈l->l.set (l.idxOf n) N=l.map (lD n N):=by
 intro a
 induction a with
 |nil=>
  intro U h;cases h
 |cons c r D=>
  intro G h;rw[kG] at G;rw[List.idxOf_cons];by_cases e:c=n
  ·clear h
   clear D;subst e;rw[beq_self_eq_true,gj,pF];show N::r=_;rw[zC G.1]
  ·rw[beq_false_of_ne e,gj,n5 e]
   show c::r.set (r.idxOf n) N=_;rw[D G.2 ((gy.1 h).resolve_left (gM e))]
theorem Ij{N:Int}{l:List Int}(h:l.Nodup)(O:N∉l):(l.map (lD n N)).Nodup:=by
 refine List.pairwise_map.2 (h.imp_of_mem λ{x y} Z B E e=>?_);unfold lD at e;by_cases K:x=n
 ·rw[if_pos K] at e
  by_cases I:y=n
  ·exact E (K.trans I.symm)
  ·rw[if_neg I] at e;exact O (e▸B)
 ·rw[if_neg K] at e
  by_cases I:y=n
  ·rw[if_pos I] at e;exact O (e▸Z)
  ·rw[if_neg I] at e;exact E e
theorem FX(h:Ax a):fA (ot a)=a∧ot a≠0∧(ot a=1∨ot a=2):=by rcases h with rfl|rfl<;>exact⟨by decide,by decide,by decide⟩
structure yy(t:eB)(n a:Int)(t1:eB):Prop where
 c:∀m∈t.b,(t1.a m).b=(t.a m).b
 d:∀a,∀m∈t.b,sz t1 a m=sz t a m
 o:∀m∈t.b,(t1.a m).f=(t.a m).f
 b:∀m∈t.b,(t1.a m).a=(t.a m).a.map (lD n (t.c+1))
 g:∀m∈t.b,(t1.a m).c=if m=n then t.c+1 else(t.a m).c
 i:∃w,t1.a (t.c+1)=w∧w.a=[n]∧w.c=(t.a n).c∧w.b=ot a∧w.f=0
 h:∀a,Internal.sz t1 a (t.c+1)=Internal.sz t a n
 e:t1.b=t.b++[t.c+1]
 j:t1.c=t.c+1
 f:t1.d=if n=t.d then t.c+1 else t.d
 p:t1.g=7
 r:t1.l=t.l
 q:t1.i=t.i
 l:t1.k=t.k
 k:t1.e=t.e
theorem yy.B{E:eB}(c:yy t n a E)(h:Gx t T 0 0)(C:t.b.length≤50)(W:n∈t.b)(M:Ax a)(i:(t.a n).c=0∨fA (t.a (t.a n).c).b≠a):
  ∃aa,Gx E aa (t.c+1) (t.c+1)∧Kp g t E:=by
 have L:∀m,m∈E.b↔m∈t.b∨m=t.c+1:=λm=>by rw(occs:=eO) [c.e,lc,gR]
 have d:∀m∈t.b,m≠t.c+1:=λm Y e=>by have:=(h.g m Y).2;lia
 refine oC c.i λw r o K O v=>?_;subst r;have R:=FX M;have F:t.c+1∉t.b:=λY=>d _ Y rfl;have I:(t.a n).c=0->n=t.d:=λe=>Decidable.byContradiction λq=>by have:=(h.g _ (h.D n W q).1).1;lia
 have D:∀m∈t.b,m≠0:=λm Y e=>by have:=(h.g m Y).1;lia
 have S:∀m∈t.b,(if m=t.c+1 then 2*T n+1 else 2*T m)=2*T m:=λm Y=>if_neg (d m Y);have z:(if t.c+1=t.c+1 then 2*T n+1 else 2*T (t.c+1))=2*T n+1:=if_pos rfl;refine(ey (λm=>if m=t.c+1 then 2*T n+1 else 2*T m) ({ d:=λm Y x Z=>?_,k:=λm Y x Z=>?_,m:=λm Y=>?_,f:=c.p,j:=by rw[c.e,il];show _+1≤60;lia,i:=λm Y=>?_,h:=?_,o:=?_,g:=λm Y=>?_,C:=?_,D:=λm Y e=>?_,B:=λm Y=>?_,v:=λm Y s e=>?_,A:=λm Y e x Z=>?_,x:=λb j m Y s=>?_,z:=λb j=>?_,u:=λb j m Y=>?_ }) ?_)
 ·rcases(L m).1 Y with Y|rfl
  ·rw[c.b m Y] at Z
   (refine fP Z λy B P=>?_;(clear Z;obtain rfl:=P))
   have k:=h.d m Y y B;show _∧(if _ then _ else _)<(if _ then _ else _);rw[S m Y];by_cases e:y=n
   ·clear c W i o K I S
    subst e;rw[pF,z];exact⟨(L _).2 (eI rfl),by lia⟩
   ·rw[n5 e,S y k.1];exact⟨(L _).2 (eH k.1),by lia⟩
  ·rw[o,gR] at Z;(clear c i o K I;subst Z)
   show _∧(if _ then _ else _)<(if _ then _ else _);rw[z,S x W];exact⟨(L _).2 (eH W),by lia⟩
 ·rcases(L m).1 Y with Y|rfl
  ·rw[c.b m Y] at Z
   (refine fP Z λy B V=>?_;(clear Z;obtain rfl:=V))
   have k:=h.d m Y y B;by_cases e:y=n
   ·clear c W i o I S z
    subst e;rw[pF,K];exact h.k m Y y B
   ·rw[n5 e,c.g y k.1,if_neg e];exact h.k m Y y B
  ·rw[o,gR] at Z;(clear i o K I S z;subst Z)
   rw[c.g x W,if_pos rfl]
 ·rcases(L m).1 Y with Y|rfl
  ·rw[c.b m Y];exact Ij (h.m m Y) λq=>F (h.d m Y _ q).1
  ·rw[o];exact xC _ n
 ·rcases(L m).1 Y with Y|rfl
  ·rw(occs:=eO) [c.b m Y,c.c m Y,ny];exact h.i m Y
  ·rw[o,O];exact⟨λe=>absurd e R.2.1,λe=>by exact wI e⟩
 ·rw[c.f]
  by_cases e:n=t.d
  ·rw[if_pos e];exact(L _).2 (eI rfl)
  ·rw[if_neg e];exact(L _).2 (eH h.h)
 ·rw[c.f]
  by_cases e:n=t.d
  ·rw[if_pos e,K,e];exact h.o
  ·rw[if_neg e,c.g _ h.h,if_neg (gM e)];exact h.o
 ·rw[c.j]
  rcases(L m).1 Y with Y|rfl
  ·have:=h.g m Y;lia
  ·have:=h.g n W;lia
 ·rw[c.e];exact qE.2 ⟨h.C,xC _ _,λx Z y B=>by rw[gR.1 B];exact d x Z⟩
 ·rw[c.f] at e
  rcases(L m).1 Y with Y|rfl
  ·rw[c.g m Y]
   by_cases q:m=n
   ·rw[if_pos q,o,q];exact⟨(L _).2 (eI rfl),lS n⟩
   ·have Q:m≠t.d:=λG=>by
     by_cases s:n=t.d
     ·exact q (G.trans s.symm)
     ·rw[if_neg s] at e;exact e G
    refine h.N m Y Q λu A=>?_;rw[if_neg q,c.b _ u];exact⟨(L _).2 (eH u),mm.2 (ey m A (n5 q))⟩
  ·have H:n≠t.d:=λs=>by rw[if_pos s] at e;exact e rfl
   refine h.N n W H λu A=>?_;rw[K,c.b _ u];exact⟨(L _).2 (eH u),mm.2 (ey n A pF)⟩
 ·rcases(L m).1 Y with Y|rfl
  ·rw[c.c m Y];exact h.B m Y
  ·rw[O];exact eI R.2.2
 ·rcases(L m).1 Y with Y|rfl
  ·rw[c.c m Y] at s;rw[c.b m Y,fC];exact h.v m Y s (D m Y)
  ·exact absurd rfl e
 ·rcases(L m).1 Y with Y|rfl
  ·rw[c.b m Y] at Z
   (refine fP Z λy B X=>?_;(clear Z;obtain rfl:=X))
   have k:=h.d m Y y B;rw[c.c m Y];by_cases e:y=n
   ·clear c W o K I S z
    subst e;rw[pF,O];rcases i with p|p
    ·rw[h.k m Y y B] at p;exact absurd p (D m Y)
    ·rw[h.k m Y y B] at p;exactλe=>p (e▸R.1)
   ·rw[n5 e,c.c y k.1];exact h.A m Y (D m Y) y B
  ·exact absurd rfl e
 ·rcases(L m).1 Y with Y|rfl
  ·rw[c.d b m Y];exact h.x b j m Y (c.c m Y▸s)
  ·exact absurd (O.symm.trans s) R.2.1
 ·rw[c.f]
  by_cases e:n=t.d
  ·rw[if_pos e,c.h b,e];exact h.z b j
  ·rw[if_neg e,c.d b _ h.h];exact h.z b j
 ·have N:∀l:List Int,(∀y∈l,y∈t.b)->∀y∈l,(Internal.sz E b∘lD n (t.c+1)) y=Internal.sz t b y:=λl C y B=>by
   show Internal.sz E b (lD n (t.c+1) y)=_;by_cases e:y=n
   ·rw[e,pF];exact c.h b
   ·rw[n5 e];exact c.d b y (C y B)
  intro s;rcases(L m).1 Y with Y|rfl
  ·have J:=λy B=>(h.d m Y y B).1
   rw[c.c m Y] at s;have f:=h.u b j m Y s;rw[c.c m Y,c.b m Y,c.d b m Y,gJ,kh (N _ J)];by_cases q:fA (t.a m).b=b
   ·rw[if_pos q] at f ⊢;exact f
   ·rw[if_neg q] at f ⊢
    intro x Z
    (refine fP Z λy B e4=>?_;(clear Z;obtain rfl:=e4))
    exact(N _ J y B).trans (f y B)
  ·rw[O,o,c.h b]
   by_cases q:fA (ot a)=b
   ·rw[if_pos q];exact(DG _).trans (c.d b n W)
   ·rw[if_neg q];intro x Z;rw[gR.1 Z];exact c.d b n W
 ·refine⟨λx Z U U=>(L x).2 (eH Z),λx Z=>?_,by rw[c.j];lia,λx Z=>(h.g x Z).2,c.r,c.q,c.l,c.k⟩
  rcases(L x).1 Z with Z|rfl
  ·exact eH ⟨Z,c.c x Z,c.o x Z⟩
  ·exact eI ⟨by lia,v⟩
theorem Gy{N:Int}(h:Gx t T 0 0)(b:n∈t.b)(K:N=t.c+1)(g:∀m∈t.b,S.a m=if m=(t.a n).c then{ t.a m with a:=(t.a m).a.map (lD n N) } else t.a m)(O:S.a N=sJ t n a)
  (i:S.b=t.b++[N]) (R:S.c=N) (f:S.d=if n=t.d then N else t.d) (y:S.g=7) (B:S.l=t.l) (C:S.i=t.i) (L:S.k=t.k) (u:S.e=t.e):yy t n a (uf S n N):=by
 subst K;have d:∀m∈t.b,m≠t.c+1:=λm Y e=>by have:=(h.g m Y).2;lia
 have e:∀m∈t.b,(uf S n (t.c+1)).a m={ t.a m with a:=(t.a m).a.map (lD n (t.c+1)),c:=if m=n then t.c+1 else(t.a m).c }:=λm Y=>by
  show(if m=t.c+1 then _ else if m=n then({ S.a n with c:=t.c+1 }:gE) else S.a m)=_;rw[if_neg (d m Y)];have M:m≠(t.a n).c->(t.a m).a.map (lD n (t.c+1))=(t.a m).a:=λE=>zC λX=>E (h.k m Y n X).symm;by_cases q:m=n
  ·have r:m≠(t.a n).c:=λe=>by
    have:=h.D n b λG=>by rw[e,G,h.o] at Y;have:=(h.g 0 Y).1;lia
    rw[←e,q] at this;exact absurd (h.d n b n this.2).2 (lg _)
   rw[if_pos q,if_pos q,M r,←q,g m Y,if_neg r]
  ·rw[if_neg q,if_neg q,g m Y]
   by_cases c:m=(t.a n).c
   ·rw[if_pos c]
   ·rw[if_neg c,M c]
 have Z:(uf S n (t.c+1)).a (t.c+1)={ sJ t n a with a:=[n] }:=by
  show(if t.c+1=t.c+1 then({ (if t.c+1=n then _ else S.a (t.c+1):gE) with a:=[n] }:gE) else _)=_;rw[if_pos rfl,if_neg (d n b).symm,O]
 refine⟨λm Y=>by rw[e m Y],λa m Y=>?_,λm Y=>by rw[e m Y],λm Y=>by rw[e m Y],λm Y=>by rw[e m Y],(wg _ rfl (by rw[Z]) (by rw[Z];rfl) (by rw[Z];rfl) (by rw[Z];rfl)),λa=>?_,i,R,f,y,B,C,L,u⟩
 ·unfold sz;rw[e m Y]
 ·unfold sz;rw[Z];rfl
theorem PD(h:Gx t T 0 0)(C:t.b.length≤50)(b:n∈t.b)(M:Ax a){k:Nat}:
  ∃p E B,gF eb (k+5) 32 [.b .c,.a n,.a a] t=d9 (.a p,E)∧Gx E B p p∧Kp g t E∧p∈E.b∧n∈(E.a p).a∧fA (E.a p).b=a∧(∀m∈t.b,m∈E.b∧(E.a m).b=(t.a m).b∧∀a,sz E a m=sz t a m)∧
   (∀m∈PP t T n,(E.a m).a=(t.a m).a)∧E.b.length≤t.b.length+1:=by
 have y:=(h.g n b).1;have H:n≠t.d->(t.a n).c∈t.b∧n∈(t.a (t.a n).c).a:=h.D n b;have P:n≠t.d->(t.a n).c≠0:=λe G=>by have:=(h.g _ (H e).1).1;lia
 by_cases c:n≠t.d∧fA (t.a (t.a n).c).b=a
 ·exact(Cq _ t T (PA (Q:=eb) (k:=k+3) h.f b (P c.1) (H c.1).1 c.2) (h.ai _ _) ⟨λx Z U U=>Z,λx Z=>eH ⟨Z,rfl,rfl⟩,ja _,λx Z=>(h.g x Z).2,rfl,rfl,rfl,rfl⟩ ((H c.1).1) ⟨((H c.1).2),c.2,(λm Y=>⟨Y,rfl,λU=>rfl⟩),(λU U=>rfl),(xH _)⟩)
 ·have d:∀m∈t.b,m≠t.c+1:=λm Y e=>by have:=(h.g m Y).2;lia
  have J:∀m∈t.b,(nO t n a).a m=t.a m:=λm Y=>(if_neg (d m Y)).trans (if_neg (d m Y));have K:(nO t n a).a (t.c+1)=sJ t n a:=if_pos rfl;have D:∀m,m∈t.b∨m=t.c+1->m∈(nO t n a).b:=λm Y=>lc.2 (Y.imp id gR.2);have V:(t.a n).c=0∨n≠t.d∧fA (t.a (t.a n).c).b≠a:=by
   by_cases e:n=t.d
   ·exact eH (e▸h.o)
   ·exact eI ⟨e,λG=>c ⟨e,G⟩⟩
  have j:∀S,gF eb (k+4) 20 [.b .c,.a n,.a (t.c+1)] (nO t n a)=d9 (.b .e,S)->yy t n a (uf S n (t.c+1))->S.g=7->S.b=t.b++[t.c+1]->∃p E B,gF eb (k+5) 32 [.b .c,.a n,.a a] t=d9 (.a p,E)∧Gx E B p p∧Kp g t E∧p∈E.b∧n∈(E.a p).a∧fA (E.a p).b=a∧(∀m∈t.b,m∈E.b∧(E.a m).b=(t.a m).b∧∀a,sz E a m=sz t a m)∧
   (∀m∈PP t T n,(E.a m).a=(t.a m).a)∧E.b.length≤t.b.length+1:=λS i R f l=>by
   refine eR (R.B (g:=g) h C b M (V.imp id And.right)) λB L u=>?_;refine oC R.i λw r o U v U=>?_;clear U;clear U;subst r;refine(Cq _ _ B (PC h.f (by lia) b (d n b) (V.imp id λe=>⟨P e.1,(H e.1).1,e.2⟩) i f l) L u (R.e▸WP _ (lS _)) ⟨(o▸lS n),(v▸(FX M).1),(λm Y=>⟨R.e▸D3 _ Y,R.c m Y,λa=>R.d a m Y⟩),(λm Y=>?_),(by rw[R.e,il];exact ig _)⟩);have A:=j7 h.e b m Y;rw(occs:=eO) [R.b m A,zC];intro X;have:=(h.d m A n X).2;rcases tZ h.e b m Y with e|e
   ·rw[e] at this;exact absurd this (lg _)
   ·lia
  by_cases e:n=t.d
  ·refine j _ (II (Q:=eb) (k:=k+3) (t:=nO t n a) h.f (D n (eH b)) (D _ (eI rfl)) (by rw[J n b,e];exact h.o)) (Gy h b rfl (λm Y=>?_) ?_ rfl rfl (if_pos e).symm h.f rfl rfl rfl rfl) h.f rfl
   ·show(if m=t.c+1 then _ else(nO t n a).a m)=_
    rw[if_neg (d m Y),J m Y,if_neg (λG=>by rw[G,e,h.o] at Y;have:=(h.g 0 Y).1;lia)]
   ·show(if t.c+1=t.c+1 then _ else _)=_
    rw[if_pos rfl,K];show{ sJ t n a with c:=0 }=sJ t n a;have:(sJ t n a).c=0:=by show(t.a n).c=0;rw[e];exact h.o
    rw[←this]
  ·refine fe (H e) λz O=>?_
   have s:=IU (N:=t.c+1) (h.m _ z) O;have:=ly h.l z;refine j _ (IH (Q:=eb) (k:=k+3) (t:=nO t n a) (p:=(t.a n).c) h.f (D n (eH b)) (D _ (eI rfl)) (by rw[J n b]) (P e) (D _ (eH z)) (by rw[J _ z];exact O) (by rw[J _ z];lia)) (Gy h b rfl (λm Y=>?_) ?_ rfl rfl (if_neg e).symm h.f rfl rfl rfl rfl) h.f rfl
   ·show(if m=(t.a n).c then({ (if(t.a n).c=t.c+1 then _ else(nO t n a).a (t.a n).c:gE) with a:=_ }:gE) else if m=t.c+1 then _ else(nO t n a).a m)=_
    rw[if_neg (d _ z),if_neg (d m Y),J m Y,J _ z,s];by_cases q:m=(t.a n).c
    ·rw[if_pos q,if_pos q,q]
    ·rw[if_neg q,if_neg q]
   ·show(if t.c+1=(t.a n).c then _ else if t.c+1=t.c+1 then{ (nO t n a).a (t.c+1) with c:=(t.a n).c } else _)=_
    rw[if_neg (d _ z).symm,if_pos rfl,K];rfl
theorem xc(M:Ax a)(j:Ax b)(E:b≠a){m:Int}:sz (f8 t a z) b m=sz t b m:=by
 show(if b=0 then(hW a (z m) (t.a m)).d else(hW a (z m) (t.a m)).e)=_;rcases M with rfl|rfl<;>rcases j with rfl|rfl<;>first|rfl|exact absurd rfl E
theorem GW(h:Ok t T)(Z:x∈t.b)(f:∀c∈(t.a x).a,LL t T a c≤z c)(b:LL t T a x≤A x)(d:Dn t T a z A x)(s:(t.a x).b≠0):if fA (t.a x).b=a then((t.a x).a.map A).sum=A x else∀c∈(t.a x).a,A c=A x:=by
 have d:=d s;have e:=lX (a:=a) h.e Z;rw[if_neg s] at e;by_cases q:fA (t.a x).b=a
 ·rw[if_pos q] at d e ⊢
  rw[d];exact Dh (by rw[fC,fC]) (λy B=>by(refine fP B λc X P=>?_;(clear B;obtain rfl:=P));have:=f c X;lia) (λr=>s ((h.i x Z).2 (ny.1 r))) (e▸b)
 ·rw[if_neg q] at d ⊢;exact d
structure Gp(t:eB)(rk:Int->Nat)(q r p a c s:Int):Prop extends P:Gc t rk q r where
 G:∀b,Ax b->∀n∈t.b,(b=a->n≠p)->vm t b n
 E:p∈t.b
 F:c∈(t.a p).a
 H:fA (t.a p).b=a
 J:((t.a p).a.map (kQ (sz t a) c s)).sum=sz t a p
 K:∀n∈t.b,sz t a n≤100
 I:LL t rk a c≤s
 L:s≤100
theorem Gp.le(h:Gp t T q r p a c s):∀x∈PP t T c,LL t T a x≤sz t a x:=by
 have M:Ax a:=h.H▸sj;intro x Z;have X:=(h.d p h.E c h.F).1;have J:=zG h.l h.E h.F;refine h.e.M (P:=λx=>x∈PP t T c->LL t T a x≤sz t a x) ?_ (j7 h.e X x Z) Z;intro n W D Z;rw[lX h.e W];by_cases s:(t.a n).b=0
 ·rw[if_pos s];exact h.x a M n W s
 ·rw[if_neg s]
  have f:=h.G a M n W (λU e=>J (e▸Z)) s;have D:=λy B=>D y B (p8 h.e X Z B);by_cases c:fA (t.a n).b=a
  ·rw[if_pos c] at f ⊢;rw[←f];exact Je D
  ·rw[if_neg c] at f ⊢
   refine CL (λe=>s ((h.i n W).2 (ny.1 e))) λx Z=>?_
   (refine fP Z λc X V=>?_;(clear Z;obtain rfl:=V))
   exact f c X▸D c X
theorem zP(i:∀x∈t.b,x≤t.c):Kp g t (f8 t a z):=
 ⟨λU Z U U=>Z,λx Z=>eH ⟨Z,m7,by show(hW a (z x) (t.a x)).f=_;unfold hW;split<;>rfl⟩,ja _,i,rfl,rfl,rfl,rfl⟩
theorem Gc.af(h:Gc t T q r)(M:Ax a)(C:∀n∈t.b,(t.a n).b=0->kr a≤z n)(j:z t.d≤100):Gc (Internal.f8 t a z) T q r:=
 {
  y:=h.y.ag,h:=h.h,o:=C9.trans h.o,g:=h.g,C:=h.C
  D:=λn W e=>by show(hW a _ (t.a n)).c∈_∧n∈(hW a _ (t.a (hW a _ (t.a n)).c)).a;rw[C9,nW];exact h.D n W e
  B:=λn W=>by rw[show((Internal.f8 t a z).a n).b=(t.a n).b from m7];exact h.B n W
  v:=λn W s e=>by show _≤(hW a _ (t.a n)).a.length;rw[nW];exact h.v n W (m7 (w:=t.a n)▸s) e
  A:=λn W e c X=>by show(hW a _ (t.a c)).b≠(hW a _ (t.a n)).b;rw[m7,m7];exact h.A n W e c (nW (w:=t.a n)▸X)
  x:=λb j n W s=>by
   have P:(t.a n).b=0:=m7.symm.trans s;by_cases e:b=a
   ·clear M s
    rw[e];rw[rF];exact C n W P
   ·rw[xc M j e];exact h.x b j n W P
  z:=λb g=>by
   by_cases e:b=a
   ·clear M C
    rw[e];rw[rF];exact j
   ·rw[xc M g e];exact h.z b g }
theorem GX(M:Ax a)(j:Ax b)(K:b≠a->vm t b n)(I:(t.a n).b≠0->if fA (t.a n).b=a then((t.a n).a.map A).sum=A n else∀c∈(t.a n).a,A c=A n):vm (f8 t a A) b n:=by
 intro s;show if fA (hW a (A n) (t.a n)).b=b then(pJ _ (hW a (A n) (t.a n)).a).sum=_ else∀c∈(hW a (A n) (t.a n)).a,_;have P:(t.a n).b≠0:=λe=>s (m7.trans e);rw[m7,nW];by_cases e:b=a
 ·clear M K s
  subst e;rw[funext λm=>rF (m:=m) (t:=t) (z:=A) (a:=b)];exact I P
 ·rw[funext λm=>xc (t:=t) (z:=A) (m:=m) M j e];exact K e P
theorem Gp.ae(h:Gp t T q r p a c s){k:Nat}:∃A,gF eb (k+3) 24 [.b .c,.a c,.a a,.a s] t=d9 (.b .e,f8 t a A)∧A c=s∧Gx (f8 t a A) T q r:=by
 have M:Ax a:=h.H▸sj;have X:=(h.d p h.E c h.F).1;refine f5 (IV (k:=k) h.y X h.I (jY h.L (by decide)) λx Z=>⟨h.le x Z,jY (h.K x (j7 h.e X x Z)) (by decide)⟩) λA g P o=>?_;have I:∀x,x∉PP t T c->A x=sz t a x:=λx Z=>o.b x λy B=>by rw[gR.1 B];exact Z
 have L:=o.d c (lS c);have D:t.d∉PP t T c:=λe=>by
  rcases vn h.l X e with e|⟨e,_⟩
  ·have:=h.k p h.E c h.F;rw[←e,h.o] at this;have:=(h.g p h.E).1;lia
  ·rw[h.o] at e;have:=(h.g _ (j7 h.e X _ e)).1;lia
 refine(fQ A g P ({ h.P.af M (λn W s=>?_) (by rw[I _ D];exact h.z a M) with u:=λb j n W=>GX M j (λe=>h.G b j n W λG=>absurd G e) λs=>?_ }))
 ·by_cases i:n∈PP t T c
  ·have:=(L n i).1
   rw[lX h.e W,if_pos s] at this;exact this
  ·rw[I n i];exact h.x a M n W s
 ·by_cases i:n∈PP t T c
  ·refine gY (L n i) λd w F=>?_
   exact GW h.y W (λy B=>h.le y (p8 h.e X i B)) d F s
  ·have C:∀y∈(t.a n).a,y≠c->A y=sz t a y:=λy B E=>I y λY=>by
    rcases vn h.l X Y with e|⟨e,_⟩
    ·exact E e
    ·rw[h.k n W y B] at e;exact i e
   by_cases e:n=p
   ·subst e
    have V:(t.a n).a.map A=(t.a n).a.map (kQ (sz t a) c _):=kh λy B=>by
     unfold kQ;by_cases e:y=c
     ·rw(occs:=eO) [if_pos e,e,P]
     ·rw(occs:=eO) [if_neg e];exact C y B e
    rw[if_pos h.H,V,I n i];exact h.J
   ·have f:=h.G a M n W (λU=>e) s
    have C:=λy B=>C y B λG=>e ((h.k n W y B).symm.trans (G▸h.k p h.E c h.F));rw[kh C,I n i];by_cases q:fA (t.a n).b=a
    ·rw[if_pos q] at f ⊢;exact f
    ·rw[if_neg q] at f ⊢;intro y B;rw[C y B];exact f y B
theorem yA(h:Sh t T)(u:Sh O L)(W:n∈t.b)(e:∀x∈PP t T n,x∈O.b∧(O.a x).b=(t.a x).b∧(O.a x).a=(t.a x).a):LL O L a n=LL t T a n:=by
 have:(∀x∈PP t T n,x∈O.b∧(O.a x).b=(t.a x).b∧(O.a x).a=(t.a x).a)->LL O L a n=LL t T a n:=by
  refine h.M (P:=λn=>(∀x∈PP t T n,x∈O.b∧(O.a x).b=(t.a x).b∧(O.a x).a=(t.a x).a)->LL O L a n=LL t T a n) ?_ W;intro n W D e;refine gY (e n (lY h W)) λP V X=>?_;rw[lX h W,lX u P,V,X,kh λc b=>D c b λx Z=>e x (BL h W (p8 h W (lY h W) b) x Z)]
 exact this e
theorem FD(h:Ok t T)(M:Ax a)(W:n∈t.b):kr a≤LL t T a n:=by
 refine h.e.M (P:=λn=>kr a≤LL t T a n) ?_ W;intro n W D;by_cases s:(t.a n).b=0
 ·rw[lX h.e W,if_pos s];exact ja _
 ·refine fL (Kv _ λe=>s ((h.i n W).2 e)) λc X=>?_
  exact jY (D c X) (FC h W X)
theorem Jf{l:List Int}(W:n∈l)(G:l.Nodup):(l.map (kQ z n s)).sum=(l.map z).sum+s-z n:=by
 induction l with
 |nil=>cases W
 |cons c r D=>
  rw[kG] at G;rw[gj,gj,ky,ky];by_cases e:c=n
  ·clear D W
   subst e;rw[kh (f:=kQ z c s) (g:=z) λy B=>if_neg λ(e:y=c)=>G.1 (e▸B),show kQ z c s c=s from if_pos rfl];lia
  ·rw[D ((gy.1 W).resolve_left (gM e)) G.2,show kQ z n s c=z c from if_neg e];lia
noncomputable def mD(l:List Int)(k:Nat)(m:Int):List Int:=l.take k++m::l.drop k
theorem ui{l:List Int}{k:Nat}{m y:Int}:y∈mD l k m↔y=m∨y∈l:=by
 rw[←tv k l,mD,lc,gy,lc,tv];exact⟨λh=>h.elim (λh=>eI (eH h)) (λh=>h.imp id eI),λh=>h.elim (λh=>eI (eH h)) (λh=>h.elim eH λh=>eI (eI h))⟩
theorem QA{l:List Int}{k:Nat}{m:Int}(h:l.Nodup)(Y:m∉l):(mD l k m).Nodup:=
 (WT.nodup_iff).2 (kG.2 ⟨by rw[tv];exact Y,by rw[tv];exact h⟩)
theorem Ho{l:List Int}{k:Nat}{m:Int}:(mD l k m).length=l.length+1:=by
 rw[mD,WT.length_eq,tv];rfl
theorem QB{l:List Int}{k:Nat}{m:Int}{f:Int->Int}:((mD l k m).map f).sum=f m+(l.map f).sum:=by
 have e:(l.map f).sum=((l.take k).map f).sum+((l.drop k).map f).sum:=by rw[←w8,←lb,tv]
 rw[e,mD,lb,w8,gj,ky];lia
def iT(t:eB)(p:Int)(k:Nat)(a:gE):eB:={ t with a:=λx=>if x=p then{ t.a p with a:=mD (t.a p).a k (t.c+1) } else if x=t.c+1 then a else t.a x,b:=t.b++[t.c+1],c:=t.c+1 }
structure FF(t:eB)(p n a s:Int)(w:gE):Prop where
 c:w.b=0
 d:w.c=p
 b:w.a=[]
 e:w.f=0
 f:(if a=0 then w.d else w.e)=s∧(if 1-a=0 then w.d else w.e)=Internal.sz t (1-a) n
theorem O8{b:Int}(M:Ax a)(j:Ax b)(E:b≠a):b=1-a:=by
 rcases M with rfl|rfl<;>rcases j with rfl|rfl<;>first|rfl|exact absurd rfl E
theorem Qz{k:Nat}{w:gE}{X d:Int}(h:Gx t T p p)(hl:t.b.length≤55)(J:p∈t.b)(hn:n∈(t.a p).a)(l:fA (t.a p).b=a)(hw:FF t p n a X w)(e:d+X=sz t a n)(K:LL t T a n≤d)(I:kr a≤X):
  (∃L,Gp (iT t p k w) L 0 p p a n d)∧Kp g t (iT t p k w)∧(iT t p k w).b=t.b++[t.c+1]:=by
 have M:Ax a:=l▸sj;have aa:∀m,m∈(iT t p k w).b↔m∈t.b∨m=t.c+1:=λm=>by show m∈t.b++[t.c+1]↔_;rw(occs:=eO) [lc,gR]
 have P:∀m∈t.b,m≠t.c+1:=λm Y e=>by have:=(h.g m Y).2;lia
 have F:t.c+1∉t.b:=λY=>P _ Y rfl;have D:=(h.d p J n hn).1;have O:∀m∈t.b,m≠p->(iT t p k w).a m=t.a m:=λm Y e=>(if_neg e).trans (if_neg (P m Y));have Q:(iT t p k w).a p={ t.a p with a:=mD (t.a p).a k (t.c+1) }:=if_pos rfl;have R:(iT t p k w).a (t.c+1)=w:=(if_neg (P p J).symm).trans (if_pos rfl);have z:∀m∈t.b,((iT t p k w).a m).b=(t.a m).b∧((iT t p k w).a m).c=(t.a m).c∧((iT t p k w).a m).f=(t.a m).f∧∀b,sz (iT t p k w) b m=sz t b m:=λm Y=>by
  by_cases e:m=p
  ·rw[e];unfold sz;rw[Q];exact⟨rfl,rfl,rfl,λU=>rfl⟩
  ·unfold sz;rw[O m Y e];exact⟨rfl,rfl,rfl,λU=>rfl⟩
 have V:sz (iT t p k w) a (t.c+1)=X∧sz (iT t p k w) (1-a) (t.c+1)=sz t (1-a) n:=by unfold sz;rw[R];exact hw.f
 have H:∀b,Ax b->b≠a->sz (iT t p k w) b (t.c+1)=sz t b n:=λb j ne=>by
  rw[O8 M j ne];exact V.2
 have N:((iT t p k w).a p).a=mD (t.a p).a k (t.c+1):=by rw[Q]
 have r:t.c+1∉(t.a p).a:=λY=>F (h.d p J _ Y).1;have C:(t.a p).b≠0:=λs=>by rw[(h.i p J).1 s] at hn;cases hn
 have af:2≤((iT t p k w).a p).a.length:=by rw[N,Ho];have:=DX hn;lia
 have S:∀m∈t.b,(if m=t.c+1 then 0 else T m+1)=T m+1:=λm Y=>if_neg (P m Y);have v:Gc (iT t p k w) (λm=>if m=t.c+1 then 0 else T m+1) 0 p:=by
  refine{ d:=λm o y B=>?_,k:=λm o y B=>?_,m:=λm o=>?_,f:=h.f,j:=?_,i:=λm o=>?_,h:=(aa _).2 (eH h.h),o:=(z _ h.h).2.1.trans h.o,g:=λm o=>?_,C:=?_,D:=λm o e=>?_,B:=λm o=>?_,v:=λm o s e=>?_,A:=λm o e y B=>?_,x:=λb j m o s=>?_,z:=λb j=>((z _ h.h).2.2.2 b).symm▸h.z b j }
  ·rcases(aa m).1 o with Y|rfl
   ·show _∧(if _ then _ else _)<(if _ then _ else _)
    rw[S m Y];have ac:y∈(t.a m).a->y∈(iT t p k w).b∧(if y=t.c+1 then 0 else T y+1)<T m+1:=λB=>by
     have k1:=h.d m Y y B;rw[S y k1.1];exact⟨(aa y).2 (eH k1.1),by lia⟩
    by_cases e:m=p
    ·rw[e,N] at B
     rcases ui.1 B with G|B
     ·rw[G,if_pos rfl];exact⟨(aa _).2 (eI rfl),by lia⟩
     ·exact ac (by rw[e];exact B)
    ·rw[O m Y e] at B;exact ac B
   ·rw[R,hw.b] at B;cases B
  ·rcases(aa m).1 o with Y|rfl
   ·by_cases e:m=p
    ·rw[e,N] at B
     rcases ui.1 B with G|B
     ·rw[G,R,e];exact hw.d
     ·rw[(z y (h.d p J y B).1).2.1,e];exact h.k p J y B
    ·rw[O m Y e] at B;rw[(z y (h.d m Y y B).1).2.1];exact h.k m Y y B
   ·rw[R,hw.b] at B;cases B
  ·rcases(aa m).1 o with Y|rfl
   ·by_cases e:m=p
    ·rw[e,N];exact QA (h.m p J) r
    ·rw[O m Y e];exact h.m m Y
   ·rw[R,hw.b];exact og
  ·show(t.b++[t.c+1]).length≤60
   rw[il];show _+1≤60;lia
  ·rcases(aa m).1 o with Y|rfl
   ·by_cases e:m=p
    ·rw[e,N,(z p J).1]
     exact⟨λs=>absurd s C,λe=>by have:=congrArg qB e;rw[Ho] at this;exact rB this⟩
    ·rw[O m Y e];exact h.i m Y
   ·rw[R,hw.b,hw.c];exact⟨λU=>rfl,λU=>rfl⟩
  ·show 1≤m∧m≤t.c+1
   rcases(aa m).1 o with Y|rfl
   ·have:=h.g m Y;lia
   ·have:=h.g n D;lia
  ·exact qE.2 ⟨h.C,xC _ _,λx Z y B=>by rw[gR.1 B];exact P x Z⟩
  ·rcases(aa m).1 o with Y|rfl
   ·refine h.N m Y e λu A=>?_
    rw[(z m Y).2.1];refine⟨(aa _).2 (eH u),?_⟩;by_cases e:(t.a m).c=p
    ·rw[e] at A;rw[e,N];exact ui.2 (eI A)
    ·rw[O _ u e];exact A
   ·rw[R,hw.d,N];exact⟨(aa _).2 (eH J),ui.2 (eH rfl)⟩
  ·rcases(aa m).1 o with Y|rfl
   ·rw[(z m Y).1];exact h.B m Y
   ·rw[R];exact eH hw.c
  ·clear e
   rcases(aa m).1 o with Y|rfl
   ·by_cases e:m=p
    ·rw[e];exact af
    ·rw[O m Y e] at s ⊢;exact h.v m Y s e
   ·rw[R] at s;exact absurd hw.c s
  ·rcases(aa m).1 o with Y|rfl
   ·rw[O m Y e] at B;rw[(z m Y).1,(z y (h.d m Y y B).1).1];exact h.A m Y e y B
   ·rw[R,hw.b] at B;cases B
  ·rcases(aa m).1 o with Y|rfl
   ·rw[(z m Y).2.2.2];exact h.x b j m Y ((z m Y).1.symm.trans s)
   ·by_cases e:b=a
    ·rw[e,V.1];exact I
    ·rw[H b j e]
     exact jY (FD h.y j D) (h.U j D)
 have E:∀b,Ax b->∀m∈(iT t p k w).b,(b=a->m≠p)->vm (iT t p k w) b m:=λb j m o e s=>by
  rcases(aa m).1 o with Y|rfl
  ·by_cases G:m=p
   ·rw[G]
    have c:fA (t.a p).b≠b:=λq=>e (q.symm.trans l) G;have f:=h.u b j p J C;rw[if_neg c] at f;rw[(z p J).1,if_neg c,N,(z p J).2.2.2];intro y B;rcases ui.1 B with e|B
    ·rw[e,H b j λe=>c (l.trans e.symm)];exact f n hn
    ·rw[(z y (h.d p J y B).1).2.2.2];exact f y B
   ·rw[(z m Y).1] at s
    have f:=h.u b j m Y s;rw[O m Y G,(z m Y).2.2.2,kh λy B=>(z y (h.d m Y y B).1).2.2.2 b];by_cases q:fA (t.a m).b=b
    ·rw[if_pos q] at f ⊢;exact f
    ·rw[if_neg q] at f ⊢;intro y B;rw[(z y (h.d m Y y B).1).2.2.2];exact f y B
  ·rw[R] at s;exact absurd hw.c s
 have ae:=h.W M D;have lo:=qX (a:=a) h.e D;have ag:0≤X:=jY (by(clear l hw e K I V H E ae lo;rcases M with rfl|rfl)<;>decide) I;refine⟨⟨_,{ v with G:=E,E:=(aa p).2 (eH J),F:=by rw[N];exact ui.2 (eI hn),H:=by rw[(z p J).1];exact l,J:=?_,K:=λm o=>?_,I:=?_,L:=by lia }⟩,⟨λx Z U U=>(aa x).2 (eH Z),λx Z=>?_,xx (Wo _),λx Z=>(h.g x Z).2,rfl,rfl,rfl,rfl⟩,rfl⟩
 ·rw[N,QB,(z p J).2.2.2,show kQ (sz (iT t p k w) a) n d (t.c+1)=X from(if_neg (P n D).symm).trans V.1]
  have f:=h.u a M p J C;rw[if_pos l] at f;rw[kh (g:=kQ (sz t a) n d) λy B=>by unfold kQ;rw[(z y (h.d p J y B).1).2.2.2],Jf hn (h.m p J),f];lia
 ·rcases(aa m).1 o with Y|rfl
  ·rw[(z m Y).2.2.2];exact h.W M Y
  ·rw[V.1];lia
 ·refine jY (AD (yA h.e v.e D λx Z=>?_)) K
  have i:=j7 h.e D x Z;exact⟨(aa x).2 (eH i),(z x i).1,by rw[O x i λe=>zG h.l J hn (e▸Z)]⟩
 ·rcases(aa x).1 Z with Z|rfl
  ·exact eH ⟨Z,(z x Z).1,(z x Z).2.2.1⟩
  ·exact eI ⟨Wo _,by rw[R];exact hw.e⟩
def jX:Option Int->eD
 |none=>.b .e
 |some s=>.a s
noncomputable def jn(j:Option Int)(w:Int):Int:=match j with
 |none=>w.fdiv 2
 |some s=>if 0<s then w-s else 0-s
noncomputable abbrev UC:js:=.c (.h .Is (.a 57) (.F)) (.a (.a 70 (.p pP (.a 78) (.d 2))) .b) (.a (.a 70 (.C (.h lh (.a 57) (.d 0)) (.p gS (.a 78) (.a 57)) (.p gS (.d 0) (.a 57)))) .b)
noncomputable abbrev UD:eW:=.D jw (.a (.h lj (.a 69) (.j 22 (.a (.a 66) (.a (.a 53) (.a (.a 56) .b))))) (.a (.h lj (.a 70) (.v (.a 66) 33 (.a (.a 56) .b))) .b))
abbrev td(n a:Int)(j:Option Int):Fr:=fh [66,53,57,56] [.b .c,.a n,jX j,.a a]
abbrev Dj(t:eB)(n a:Int)(j:Option Int):Fr:=eL (eL (td n a j) 78 (.a (sz t a n))) 70 (.a (jn j (sz t a n)))
abbrev w6(t:eB)(n a:Int)(j:Option Int):Fr:=eL (Dj t n a j) 69 (.a (sz t a n-jn j (sz t a n)))
theorem I3{j:Option Int}{k:Nat}(G:t.g=7)(W:n∈t.b):Ex (dd eb (k+2)) t (td n a j) (.a 78 (.v (.v (.a 66) 29 (.a (.a 53) .b)) 23 (.a (.a 56) .b))) .a t (eL (td n a j) 78 (.a (sz t a n))):=
 fO (iL (iL (ip rfl) (eV (fu (n:=n) rfl) fJ) rfl (Dy (Q:=eb) (k:=k+1) G W)) (eV (fu (n:=a) rfl) fJ) rfl (mJ (k:=k+1))) rfl
theorem I4{j:Option Int}{k:Nat}:Ex (dd eb k) t (eL (td n a j) 78 (.a (sz t a n))) UC .a t (Dj t n a j):=by
 cases j with
 |none=>exact jj (gG (v:=.b .e) (u:=.b .e) (fg (v:=.b .e) rfl) rfl rfl) (eG (fO (hZ (fu (n:=sz t a n) rfl) (u:=.a 2) rfl (yW (by decide) (by unfold iZ;decide))) rfl) fp)
 |some s=>
  refine gU (gG (v:=.a s) (u:=.b .e) (fu rfl) rfl rfl) (eG (fO (v:=.a (jn (d9 s) (sz t a n))) ?_ rfl) fp);have q:Ev (dd eb k) t (eL (td n a (d9 s)) 78 (.a (sz t a n))) (.h lh (.a 57) (.d 0)) (.d (eU (0<s))) t:=gG (v:=.a s) (u:=.a 0) (fu rfl) rfl rfl;by_cases c:0<s
  ·rw[show jn (d9 s) (sz t a n)=sz t a n-s from if_pos c];rw[decide_eq_true c] at q
   exact lU q (hZ (fu (n:=sz t a n) rfl) (fu (n:=s) rfl) rfl)
  ·rw[show jn (d9 s) (sz t a n)=0-s from if_neg c];rw[decide_eq_false c] at q
   exact lT q (hZ (v:=.a 0) rfl (fu (n:=s) rfl) rfl)
theorem I6{j:Option Int}{k:Nat}:Ex (dd eb k) t (Dj t n a j) (.a 69 (.p gS (.a 78) (.a 70))) .a t (w6 t n a j):=
 fO (hZ (fu (n:=sz t a n) rfl) (fu (n:=jn j (sz t a n)) rfl) rfl) rfl
theorem ER{x y:Bool}(h:Ev d t F P (.d x) t)(g:Ev d t F V (.d y) t):Ev d t F (.D jw (.a P (.a V .b))) (.d (x||y)) t:=by
 cases x with
 |true=>exact ES (FQ h)
 |false=>
  cases y with
  |true=>exact ES (jS h (FQ g))
  |false=>exact pW (jS h (jS g rfl))
theorem I7{j:Option Int}{k:Nat}(h:Ok t T)(W:n∈t.b):Ev (dd eb (k+2)) t (w6 t n a j) UD (.d (eU (sz t a n-jn j (sz t a n)<LL t T a n)||eU (jn j (sz t a n)<kr a))) t:=by
 have P:Ev (dd eb (k+2)) t (w6 t n a j) (.h lj (.a 69) (.j 22 (.a (.a 66) (.a (.a 53) (.a (.a 56) .b))))) (.d (eU (sz t a n-jn j (sz t a n)<LL t T a n))) t:=
  gG (v:=.a (sz t a n-jn j (sz t a n))) (fu rfl) (gI (eV (ip rfl) (eV (fu (n:=n) rfl) (eV (fu (n:=a) rfl) fJ))) (zx h W (k:=k))) rfl
 have V:Ev (dd eb (k+2)) t (w6 t n a j) (.h lj (.a 70) (.v (.a 66) 33 (.a (.a 56) .b))) (.d (eU (jn j (sz t a n)<kr a))) t:=
  gG (v:=.a (jn j (sz t a n))) (fu rfl) (iL (ip rfl) (eV (fu (n:=a) rfl) fJ) rfl (HJ (k:=k+1) h.f)) rfl
 exact ER P V
theorem UI{j:Option Int}{k:Nat}(h:Ok t T)(W:n∈t.b)(K:LL t T a n≤sz t a n-jn j (sz t a n))(I:kr a≤jn j (sz t a n)):
  gF eb (k+3) 31 [.b .c,.a n,jX j,.a a] t=d9 (.b (.f [.a (sz t a n-jn j (sz t a n)),.a (jn j (sz t a n))]),t):=by
 have y:[eD.b .c,.a n,jX j,.a a].map eD.e=[.b .c,.a n,jX j,.a a]:=by(clear K I;cases j)<;>rfl
 rw[iB (M:=[66,53,57,56]) (b:=ud) (by decide) rfl rfl,y];have C:=I7 (j:=j) (k:=k) (a:=a) h W;rw[decide_eq_false (tq.2 K),decide_eq_false (tq.2 I)] at C;have:f7 (dd eb (k+2)) t (td n a j) ud (.b (.b (.f [.a (sz t a n-jn j (sz t a n)),.a (jn j (sz t a n))]))) t (w6 t n a j):=
  eG (I3 h.f W) (eG I4 (eG I6 (eG (gU C fp) (iq (i7 (ki (J:=[.a (sz t a n-jn j (sz t a n)),.a (jn j (sz t a n))]) (eV (fu rfl) (eV (fu rfl) fJ)) rfl (iO rfl)) rfl)))))
 show gP (ud.c _ _ (td n a j))=_;rw[this];rfl
theorem m8{m:Int}{a C:gE}:(t.f m a).f m C=t.f m C:=by
 show{ t with a:=λx=>if x=m then C else(if x=m then a else t.a x) }={ t with a:=λx=>if x=m then C else t.a x }
 congr 1;funext x;by_cases e:x=m
 ·rw[if_pos e,if_pos e]
 ·rw[if_neg e,if_neg e,if_neg e]
theorem lQ{m:Int}{w:gE}:(t.f m w).a m=w:=if_pos rfl
theorem Uw{k:Nat}{m y u v d:Int}:gF eb (k+1) 1027 [.b (.d m),.b (tp [y,u,v,d])] t=d9 (.b .e,t.f m { t.a m with i:=y,j:=u,k:=v,l:=d }):=by
 rw[iB (M:=[50,58]) (b:=vF) (by decide) rfl rfl];have j:rD t m [8,9,10,11] (eF [y,u,v,d])=d9 (t.f m { t.a m with i:=y,j:=u,k:=v,l:=d }):=by
  show d9 ((((t.f m { t.a m with i:=y }).f m { ((t.f m { t.a m with i:=y }).a m) with j:=u }).f m _).f m _)=_;rw[lQ,m8,lQ,m8,lQ,m8]
 have:f7 (dd eb k) t (fh [50,58] [.b (.d m),.b (tp [y,u,v,d])]) vF .a _ _:=eG (u9 (n:=m) (as:=eF [y,u,v,d]) rfl (fg (v:=.b (tp [y,u,v,d])) rfl) rfl j) fp;show gP (vF.c _ _ (fh [50,58] [.b (.d m),.b (tp [y,u,v,d])]))=_;rw[this];rfl
theorem LF{x:Nat}{m k y:Int}(h:Ev d t F P (.a k) E)(g:Ev d E F V (.a y) S)(a:F x=d9 (.f m t.h))(N:S.h=t.h)(z:0≤k∧k≤((S.a m).a.length:Int)∧(S.a m).a.length<100000):
  Ex d t F (.A x P V) .a (S.m m (mD (S.a m).a k.toNat y)) F:=by
 have J:∀O,O.h=t.h->uj F O x=d9 m:=λO e=>by unfold uj;rw[a];exact if_pos e
 show(uj F t x).bind _=_;rw[J t rfl];show(P.q d t F).bind _=_;rw[h];show(V.q d E F).bind _=_;rw[g];show(uj F S x).bind _=_;rw[J S N];exact if_pos z
theorem Hg(h:Ok t T)(W:n∈t.b):∃x∈PP t T n,(t.a x).b=0:=by
 refine h.e.M (P:=λn=>∃x∈PP t T n,(t.a x).b=0) ?_ W;intro n W D;by_cases s:(t.a n).b=0
 ·exact(ey n (lY h.e W) s)
 ·refine fL (Kv _ λe=>s ((h.i n W).2 e)) λc X=>?_
  refine eR (D c X) λx Z e=>?_;exact(ey x (BL h.e W (p8 h.e W (lY h.e W) X) x Z) e)
noncomputable abbrev w0(p:Int):gE:=⟨0,p,[],0,0,0,0,0,1,1,0,0⟩
def HG(t:eB)(p n a X M:Int):gE:=
 { hW (1-a) (sz t (1-a) n) (hW a X { w0 p with d:=(t.a M).d,e:=(t.a M).e }) with i:=(t.a M).i,j:=(t.a M).j,k:=(t.a M).k,l:=(t.a M).l }
theorem QY{X M:Int}(b:Ax a):FF t p n a X (HG t p n a X M):=by
 rcases b with rfl|rfl<;>exact⟨rfl,rfl,rfl,rfl,rfl,rfl⟩
theorem Qy{k:Nat}{a:gE}(e:p≠t.c+1):((mG t 0 p).f (t.c+1) a).m p (mD (((mG t 0 p).f (t.c+1) a).a p).a k (t.c+1))=iT t p k a:=by
 have P:((mG t 0 p).f (t.c+1) a).a p=t.a p:=(if_neg e).trans (if_neg e);have V:(((mG t 0 p).f (t.c+1) a).m p (mD (((mG t 0 p).f (t.c+1) a).a p).a k (t.c+1))).a=(iT t p k a).a:=funext λx=>by
  show(if x=p then({ ((mG t 0 p).f (t.c+1) a).a p with a:=_ }:gE) else if x=t.c+1 then a else if x=t.c+1 then _ else t.a x)=(if x=p then _ else if x=t.c+1 then a else t.a x);rw(occs:=eO) [P];by_cases h:x=p
  ·rw(occs:=eO) [if_pos h,if_pos h]
  ·rw(occs:=eO) [if_neg h,if_neg h]
   by_cases h:x=t.c+1
   ·rw(occs:=eO) [if_pos h,if_pos h]
   ·rw(occs:=eO) [if_neg h,if_neg h,if_neg h]
 show({ iT t p k a with a:=(((mG t 0 p).f (t.c+1) a).m p (mD (((mG t 0 p).f (t.c+1) a).a p).a k (t.c+1))).a }:eB)=iT t p k a;rw(occs:=eO) [V]
theorem UH{j:Option Int}{o:Bool}{aa X:Int}(h:Gx t T 0 0)(hl:t.b.length≤40)(hn:n∈t.b)(ha:Ax a)(S:∀k,gF eb (k+3) 31 [.b .c,.a n,jX j,.a a] t=d9 (.b (.f [.a aa,.a X]),t))(ae:aa+X=sz t a n)(h1:LL t T a n≤aa)(h2:kr a≤X){k:Nat}:
  ∃v O L,gF eb (k+6) 33 [.b .c,.a n,jX j,.a a,.d o] t=d9 (v,O)∧Gx O L 0 0∧Kp g t O∧O.b.length≤t.b.length+2:=by
 obtain⟨p,E,i,c1,g1,k1,J,np,al,f,pc,aB⟩ :=PD (g:=g) (k:=k) h (im hl (by decide)) hn ha;have C:=(f n hn).1;have ll:LL E i a n=LL t T a n:=yA h.e g1.e hn λx Z=>⟨(f x (j7 h.e hn x Z)).1,(f x (j7 h.e hn x Z)).2.1,pc x Z⟩;have P:∀m∈E.b,m≠E.c+1:=λm hm ae=>by have:=(g1.g m hm).2;lia
 obtain⟨M0,au,aw⟩ :=Hg g1.y C;obtain⟨M,r,eM⟩ :∃M r,(PP E i n).filter (nR E)=M::r:=by
  cases q:(PP E i n).filter (nR E) with
  |nil=>exact absurd (lH.2 ⟨au,decide_eq_true aw⟩) (q▸iI)
  |cons M r=>exact⟨M,r,rfl⟩
 have e:M∈E.b:=j7 g1.e C M (lH.1 (eM▸gp ..)).1;have lu:=zy (Q:=eb) g1.l (im g1.j (by decide)) (λn hn=>(g1.i n hn).1) C (k:=k+4);rw(occs:=eO) [eM] at lu;have kl:=ly g1.l J;have:=g1.j;let m:=E.c+1;let B:=mG E 0 p;let wB:gE:={ w0 p with d:=(E.a M).d,e:=(E.a M).e };let wC:gE:=hW a X wB;let c:gE:=hW (1-a) (sz E (1-a) n) wC;let G:gE:=HG E p n a X M;have hA:∀x∈E.b,x∈B.b:=λx Z=>D3 _ Z;have z:∀w,∀x∈E.b,(B.f m w).a x=E.a x:=λw x Z=>(if_neg (P x Z)).trans (if_neg (P x Z));have az:∀w b,∀x∈E.b,sz (B.f m w) b x=sz E b x:=λw b x Z=>by unfold sz;rw(occs:=eO) [z w x Z]
 let Y:Fr:=fh [66,53,57,56,93] [.b .c,.a n,jX j,.a a,.d o];let K:Fr:=eL (eL Y 69 (.a aa)) 70 (.a X);let H:Fr:=eL K 55 (.a p);let D:Fr:=eL H 94 (.b (.d M));let Q:Fr:=eL D 65 (.b (.d m));let F5:Fr:=eL Q 71 (.f p E.h);let ix:Nat:=(E.a p).a.idxOf n;let I:Fr:=eL F5 82 (.a ix);let N:Nat:=if o then ix else ix+1;have aA:ix<(E.a p).a.length:=DT.2 np;have d:=dd eb (k+5);have r1:Ex (dd eb (k+5)) t Y (.l em [69,70] (.j 31 (.a (.a 66) (.a (.a 53) (.a (.a 57) (.a (.a 56) .b)))))) .a t K:=by
  refine oS (as:=[.a aa,.a X]) rfl ?_ rfl;have aq:Ev (dd eb (k+5)) t Y (.a 57) (jX j) t:=by
   cases j with
   |none=>exact fg (v:=.b .e) rfl
   |some s=>exact fu rfl
  refine gI (eV (ip rfl) (eV (fu (n:=n) rfl) (eV aq (eV (fu (n:=a) rfl) fJ)))) ?_;have y:[eD.b .c,.a n,jX j,.a a].map eD.e=[.b .c,.a n,jX j,.a a]:=by(clear S aq;cases j)<;>rfl
  rw(occs:=eO) [y];exact S (k+2)
 have r2:Ex (dd eb (k+5)) t K (.a 55 (.j 32 (.a (.a 66) (.a (.a 53) (.a (.a 56) .b))))) .a E H:=fO (gI rfl c1) rfl;have r3:Ex (dd eb (k+5)) E H (.a 94 (.n (.c (.a 66) 16) (.n (.j 17 (.a (.a 66) (.a (.a 53) .b))) (.d 0)))) .a E D:=
  fO (iG g1.f rfl (jh (v:=.c eb (eF (M::r))) (u:=.a 0) (w:=.a M) (gI rfl lu) rfl rfl) e) rfl
 have l:Ex (dd eb (k+5)) E D (.a 65 (.v (.a 66) 28 (.a (.x 10) (.a (.a 55) .b)))) .a B Q:=
  fO (iL rfl rfl rfl (Cm (k:=k+1) (by lia))) rfl
 have wM:B.a M=E.a M:=if_neg (P M e);have r5:Ex (dd eb (k+5)) B Q (.s 65 [6,7] (.A (.a (.c (.a 94) 6) (.a (.c (.a 94) 7) .b)))) .a (B.f m wB) Q:=by
  refine u9 (n:=m) (as:=eF [(B.a M).d,(B.a M).e]) rfl rfl rfl ?_;show d9 ((B.f m { B.a m with d:=(B.a M).d }).f m { (B.f m { B.a m with d:=(B.a M).d }).a m with e:=(B.a M).e })=_;rw(occs:=eO) [lQ,m8,wM,show B.a m=w0 p from if_pos rfl]
 have r6:Ex (dd eb (k+5)) (B.f m wB) Q (.h (.v (.a 65) 24 (.a (.a 56) (.a (.a 70) .b)))) .a (B.f m wC) Q:=
  j5 (iL rfl rfl rfl ((Db (k:=k+4)).trans (by rw(occs:=eO) [lQ,m8])))
 have r7:Ex (dd eb (k+5)) (B.f m wC) Q (.h (.v (.a 65) 24 (.a (.p gS (.d 1) (.a 56)) (.a (.v (.n (.c (.a 66) 16) (.a 53)) 23 (.a (.p gS (.d 1) (.a 56)) .b)) .b)))) .a (B.f m c) Q:=by
  have b1:Ev (dd eb (k+5)) (B.f m wC) Q (.p gS (.d 1) (.a 56)) (.a (1-a)) (B.f m wC):=hZ (v:=.a 1) rfl rfl rfl;refine j5 (v:=.b .e) (iL (i4 (n:=m) rfl) (eV b1 (eV (iL (iG g1.f rfl rfl (hA n C)) rfl rfl (mJ (k:=k+4))) fJ)) rfl ((Db (k:=k+4)).trans ?_));rw(occs:=eO) [lQ,m8,az wC (1-a) n C]
 have r8:Ex (dd eb (k+5)) (B.f m c) Q (.h (.v (.a 65) 27 (.a (.v (.a 94) 26 .b) .b))) .a (B.f m G) Q:=by
  refine j5 (v:=.b .e) (iL rfl rfl rfl ((Uw (k:=k+4)).trans ?_));rw(occs:=eO) [lQ,m8,z c M e];rfl
 have u:Ex (dd eb (k+5)) (B.f m G) Q (.d (.a 65) 14 (.w 6 (.c (.a 94) 14))) .a (B.f m G) Q:=nF (v:=.c eb []) (u:=.b (.d m)) rfl rfl rfl;have ag:Ex (dd eb (k+5)) (B.f m G) Q (.a 71 (.c (.n (.c (.a 66) 16) (.a 55)) 3)) .a (B.f m G) F5:=fO (v:=.f p E.h) (gv (iG g1.f rfl rfl (hA p J)) rfl) rfl;have aj:Ex (dd eb (k+5)) (B.f m G) F5 (.a 82 (.J (.a 71) (.a 53))) .a (B.f m G) I:=by
  have:=Hj (d:=dd eb (k+5)) (t:=B.f m G) (F:=F5) (n:=p) (k:=n) (i:=71) (j:=53) (by rw(occs:=eO) [z G p J];exact np) (by rw(occs:=eO) [z G p J];lia) rfl rfl;rw(occs:=eO) [z G p J] at this;exact fO this rfl
 have ak:Ex (dd eb (k+5)) (B.f m G) I (.A 71 (.C (.a 93) (.a 82) (.p io (.a 82) (.d 1))) (.c (.a 65) 0)) .a (iT E p N G) I:=by
  have q:Ev (dd eb (k+5)) (B.f m G) I (.C (.a 93) (.a 82) (.p io (.a 82) (.d 1))) (.a N) (B.f m G):=by
   cases o with
   |true=>exact lU rfl rfl
   |false=>exact lT rfl rfl
  have kb:N≤(E.a p).a.length:=by show(if o then ix else ix+1)≤_;split<;>lia
  have q2:Ev (dd eb (k+5)) (B.f m G) I (.c (.a 65) 0) (.a m) (B.f m G):=gv rfl rfl;have:=LF (k:=(N:Nat)) (m:=p) (y:=m) q q2 (F:=I) (x:=71) rfl rfl (by rw(occs:=eO) [z G p J];lia);rw(occs:=eO) [show((N:Int)).toNat=N from rfl,Qy (P p J)] at this;exact this
 (refine gY (Qz (g:=g) (k:=N) g1 (by lia) J np al (QY (M:=M) ha) (ae.trans ((f n hn).2.2 a).symm) (ll.symm▸h1) h2) λg1 k2 a2=>?_;refine fL g1 λav G2=>?_)
 refine f5 (G2.ae (k:=k+2)) λA c3 U g3=>?_;have af:p∈(f8 (iT E p N G) a A).b:=D3 _ J;refine i8 (Hw (g:=g) g3 af) λg4 k4 kj U=>?_;have c4:=Hy (Q:=eb) (k:=k+4) g3.y af kj;refine eR (C4 (k:=k+3) g4) λac R U=>?_;have F:Kp g (kq (f8 (iT E p N G) a A) p) (gz (kq (f8 (iT E p N G) a A) p) ac):=⟨λU Z U U=>Z,λx Z=>eH ⟨Z,rfl,rfl⟩,ja _,λx Z=>(g4.g x Z).2,rfl,rfl,rfl,rfl⟩;refine(pj (.a m) _ av ?_ g4.Z ((((k1.f k2).f (zP λx Z=>(g3.g x Z).2)).f k4).f F) ?_)
 ·have y:[eD.b .c,.a n,jX j,.a a,.d o].map eD.e=[.b .c,.a n,jX j,.a a,.d o]:=by(clear S r1 r2 r3 l r5 r6 r7 r8 u ag aj ak;cases j)<;>rfl
  rw(occs:=eO) [iB (M:=[66,53,57,56,93]) (b:=vU) (by decide) rfl rfl,y];have:f7 (dd eb (k+5)) t Y vU (.b (.a m)) (gz (kq (f8 (iT E p N G) a A) p) ac) I:=
   eG r1 (eG r2 (eG r3 (eG l (eG r5 (eG r6 (eG r7 (eG r8 (eG u (eG ag (eG aj (eG ak
    (eG (j5 (gI rfl c3)) (eG (j5 (gI rfl c4)) (eG (j5 (gI rfl R)) (iq (i7 rfl rfl))))))))))))))))
  show gP (vU.c _ _ Y)=_;rw(occs:=eO) [this];rfl
 ·have:=(IA (t:=f8 (iT E p N G) a A) (p:=p) ((f8 (iT E p N G) a A).a p).a (f8 (iT E p N G) a A).b).length_le
  refine im this ?_;show(E.b++[E.c+1]).length≤_;rw(occs:=eO) [il];show _+1≤_;lia
structure BI(t:eB)(p c:Int)(t1:eB):Prop where
 e:∀m∈t.b,m≠p->t1.a m={ t.a m with a:=(t.a m).a.map (lD p c),c:=if m=c then(t.a p).c else(t.a m).c }
 a:t1.b=t.b.filter λm=>eU (m≠p)
 d:t1.c=t.c
 b:t1.d=if p=t.d then c else t.d
 g:t1.g=7
 f:t1.l=t.l
 h:t1.i=t.i
 j:t1.k=t.k
 i:t1.e=t.e
theorem BI.k(l:BI t p c E)(h:Gx t T p 0)(J:p∈t.b)(e:(t.a p).a=[c]):Gx E T 0 (t.a p).c∧Kp g t E:=by
 have W:=h.d p J c (e▸lS c);have M:=h.k p J c (e▸lS c);have C:(t.a p).b≠0:=λs=>by rw[(h.i p J).1 s] at e;exact nL e
 have D:c≠p:=λe=>by rw[e] at W;exact absurd W.2 (lg _)
 have L:∀m,m∈E.b↔m∈t.b∧m≠p:=λm=>by rw(occs:=eO) [l.a,lH,decide_eq_true_iff]
 have z:∀m∈t.b,m≠p->(E.a m).b=(t.a m).b∧(E.a m).f=(t.a m).f∧(∀b,sz E b m=sz t b m)∧(E.a m).a=(t.a m).a.map (lD p c)∧(E.a m).c=if m=c then(t.a p).c else(t.a m).c:=λm Y e=>by
  unfold sz;rw[l.e m Y e];exact⟨rfl,rfl,λU=>rfl,rfl,rfl⟩
 have o:∀b,Ax b->sz t b c=sz t b p:=λb j=>by
  have f:=h.u b j p J C;rw[e] at f;by_cases q:fA (t.a p).b=b
  ·rw[if_pos q] at f;exact(DG _).symm.trans f
  ·rw[if_neg q] at f;exact f c (lS c)
 have n:p≠0:=λe=>by have:=(h.g p J).1;lia
 have r:∀m∈t.b,m≠p->c∉(t.a m).a:=λm Y e v=>e ((h.k m Y c v).symm.trans M);have w:t.d≠c:=λe=>n (by rw[←e,h.o] at M;exact M.symm);have a:(t.a p).c≠p:=λq=>by
  by_cases G:p=t.d
  ·rw[G,h.o] at q;exact n (G.trans q.symm)
  ·have:=h.D p J G;rw[q] at this;exact absurd (h.d p J p this.2).2 (lg _)
 refine⟨{
      d:=λm Y y B=>?_,k:=λm Y y B=>?_,m:=λm Y=>?_,f:=l.g,j:=by rw[l.a];exact im (qC ..) h.j,i:=λm Y=>?_,h:=?_,o:=?_,g:=λm Y=>by rw[l.d];exact h.g m ((L m).1 Y).1,C:=by rw[l.a];exact h.C.filter _,
      D:=λm Y e=>?_,B:=λm Y=>?_,v:=λm Y s e=>?_,A:=λm Y e y B=>?_,x:=λb j m Y s=>?_,z:=λb j=>?_,u:=λb j m Y s=>?_ },
     ⟨λx Z s U=>(L x).2 ⟨Z,λe=>C (e▸s)⟩,λx Z=>eH ⟨((L x).1 Z).1,(z x ((L x).1 Z).1 ((L x).1 Z).2).1,(z x ((L x).1 Z).1 ((L x).1 Z).2).2.1⟩,AD l.d.symm,λx Z=>(h.g x Z).2,l.f,l.h,l.j,l.i⟩⟩
 ·refine fe ((L m).1 Y) λY mp=>?_
  rw[(z m Y mp).2.2.2.1] at B
  (refine fP B λx Z P=>?_;(clear B;obtain rfl:=P))
  have k:=h.d m Y x Z;by_cases e:x=p
  ·clear l h J M C z o n r a mp
   subst e;rw[pF];exact⟨(L c).2 ⟨W.1,D⟩,AQ W.2 k.2⟩
  ·rw[n5 e];exact⟨(L x).2 ⟨k.1,e⟩,k.2⟩
 ·refine fe ((L m).1 Y) λY mp=>?_
  rw[(z m Y mp).2.2.2.1] at B
  (refine fP B λx Z V=>?_;(clear B;obtain rfl:=V))
  have k:=h.d m Y x Z;by_cases e:x=p
  ·clear l J M C L o n r a mp
   subst e;rw[pF,(z c W.1 D).2.2.2.2,if_pos rfl];exact h.k m Y x Z
  ·rw[n5 e,(z x k.1 e).2.2.2.2,if_neg λ(e:x=c)=>r m Y mp (e▸Z)];exact h.k m Y x Z
 ·refine fe ((L m).1 Y) λY mp=>?_
  rw[(z m Y mp).2.2.2.1];exact Ij (h.m m Y) (r m Y mp)
 ·refine fe ((L m).1 Y) λY mp=>?_
  rw(occs:=eO) [(z m Y mp).1,(z m Y mp).2.2.2.1,ny];exact h.i m Y
 ·rw[l.b]
  by_cases e:p=t.d
  ·rw[if_pos e];exact(L c).2 ⟨W.1,D⟩
  ·rw[if_neg e];exact(L _).2 ⟨h.h,gM e⟩
 ·rw[l.b]
  by_cases e:p=t.d
  ·rw[if_pos e,(z c W.1 D).2.2.2.2,if_pos rfl,e];exact h.o
  ·rw[if_neg e,(z _ h.h (gM e)).2.2.2.2,if_neg w];exact h.o
 ·rw[l.b] at e
  refine fe ((L m).1 Y) λY mp=>?_;rw[(z m Y mp).2.2.2.2];by_cases q:m=c
  ·have I:p≠t.d:=λs=>by rw[if_pos s] at e;exact e q
   refine h.N p J I λu A=>?_;rw[if_pos q,(z _ u a).2.2.2.1,q];exact⟨(L _).2 ⟨u,a⟩,mm.2 (ey p A pF)⟩
  ·have Q:m≠t.d:=λs=>by
    by_cases G:p=t.d
    ·exact mp (s.trans G.symm)
    ·rw[if_neg G] at e;exact e s
   refine h.N m Y Q λu A=>?_;have K:(t.a m).c≠p:=λs=>by rw[s] at A;rw[show(t.a p).a=[c] by assumption] at A;exact q (gR.1 A)
   rw[if_neg q,(z _ u K).2.2.2.1];exact⟨(L _).2 ⟨u,K⟩,mm.2 (ey m A (n5 mp))⟩
 ·refine fe ((L m).1 Y) λY mp=>?_
  rw[(z m Y mp).1];exact h.B m Y
 ·refine fe ((L m).1 Y) λY mp=>?_
  rw[(z m Y mp).1] at s;rw[(z m Y mp).2.2.2.1,fC];exact h.v m Y s mp
 ·refine fe ((L m).1 Y) λY mp=>?_
  rw[(z m Y mp).2.2.2.1] at B
  (refine fP B λx Z X=>?_;(clear B;obtain rfl:=X))
  have i:x≠p:=λq=>e (q▸(h.k m Y x Z).symm);rw[n5 i,(z m Y mp).1,(z x (h.d m Y x Z).1 i).1];exact h.A m Y (λe=>by have:=(h.g m Y).1;lia) x Z
 ·refine fe ((L m).1 Y) λY mp=>?_
  rw[(z m Y mp).2.2.1];exact h.x b j m Y ((z m Y mp).1▸s)
 ·rw[l.b]
  by_cases e:p=t.d
  ·rw[if_pos e,(z c W.1 D).2.2.1,o b j,e];exact h.z b j
  ·rw[if_neg e,(z _ h.h (gM e)).2.2.1];exact h.z b j
 ·refine fe ((L m).1 Y) λY mp=>?_
  have N:∀y∈(t.a m).a,(Internal.sz E b∘lD p c) y=Internal.sz t b y:=λy B=>by
   show Internal.sz E b (lD p c y)=_;by_cases e:y=p
   ·rw[e,pF,(z c W.1 D).2.2.1];exact o b j
   ·rw[n5 e];exact(z y (h.d m Y y B).1 e).2.2.1 b
  rw[(z m Y mp).1] at s;have f:=h.u b j m Y s;rw[(z m Y mp).1,(z m Y mp).2.2.2.1,(z m Y mp).2.2.1,gJ,kh N];by_cases q:fA (t.a m).b=b
  ·rw[if_pos q] at f ⊢;exact f
  ·rw[if_neg q] at f ⊢
   intro x Z
   (refine fP Z λy B d=>?_;(clear Z;obtain rfl:=d))
   exact(N y B).trans (f y B)
def mX(t:eB)(p:Int):eB:={ t.m p [] with h:=t.h+1,b:=t.b.filter λm=>eU (m≠p) }
theorem Ra(h:Gx t T p 0)(J:p∈t.b)(sp:(t.a p).b≠0){k:Nat}:∃O,gF eb (k+3) 35 [.b .c,.a p] t=d9 (.b .e,O)∧Gx O T 0 0∧Kp g t O∧∀b,Ax b->∀x∈t.b,x≠p->sz O b x=sz t b x∧(O.a x).b=(t.a x).b∧O.c=t.c:=by
 have kl:=ly h.l J;have:=h.j;rw[iB (M:=[66,53]) (b:=sD) (by decide) rfl rfl];let K:Fr:=eL (fh [66,53] [.b .c,.a p]) 68 (.b (.d p));have w:Ev (dd eb (k+2)) t K (.w 0 (.c (.a 68) 3)) (.a (t.a p).a.length) t:=by
  have:=jN (d:=dd eb (k+2)) (t:=t) (F:=K) (g:=0) (gv (f:=3) (i4 (i:=68) (n:=p) rfl) rfl) (sG (Q:=eb) jL rfl (by rw[gB];lia));rwa [gB] at this
 have I:Ex (dd eb (k+2)) t (fh [66,53] [.b .c,.a p]) (.a 68 (.n (.c (.a 66) 16) (.a 53))) .a t K:=fO (iG h.f rfl (fu (n:=p) rfl) J) rfl;by_cases F:((t.a p).a.length:Int)=1
 ·refine fL (DU.1 (Wp F)) λc e=>?_
  have n:=h.d p J c (e▸lS c);have D:c≠p:=λe=>by rw[e] at n;exact absurd n.2 (lg _)
  let H:Fr:=eL K 86 (.a c);have s2:Ex (dd eb (k+2)) t K (.c (.h gd (.w 0 (.c (.a 68) 3)) (.d 1)) (.a (.F) .b) .b) .a t K:=gU (lV (y:=1) w rfl F) fp;have B:Ex (dd eb (k+2)) t K (.a 86 (.n (.c (.a 68) 3) (.d 0))) .a t H:=by
   refine fO (v:=.a c) (jh (v:=.f p t.h) (u:=.a 0) (gv (i4 (n:=p) rfl) rfl) rfl ?_) rfl;show(ia t (.f p t.h)).bind _=_;rw[jL,e];rfl
  have j:∀S,gF eb (k+2) 20 [.b .c,.a p,.a c] t=d9 (.b .e,S)->BI t p c (mX S p)->S.g=7->S.b=t.b->∃O,gP (sD.c (dd eb (k+2)) t (fh [66,53] [.b .c,.a p]))=d9 (.b .e,O)∧Gx O T 0 0∧Kp g t O∧∀b,Ax b->∀x∈t.b,x≠p->sz O b x=sz t b x∧(O.a x).b=(t.a x).b∧O.c=t.c:=λS hr l f y=>by
   refine fe (l.k (g:=g) h J e) λL Q=>?_;have o:∀x∈t.b,x≠p->(∀b,sz (mX S p) b x=sz t b x)∧((mX S p).a x).b=(t.a x).b:=λx Z i=>by unfold sz;rw[l.e x Z i];exact⟨λU=>rfl,rfl⟩
   have C:Ex (dd eb (k+2)) t H (.h (.j 20 (.a (.a 66) (.a (.a 53) (.a (.a 86) .b))))) .a S H:=j5 (gI (eV (ip rfl) (eV (fu (n:=p) rfl) (eV (fu (n:=c) rfl) fJ))) hr);have R:Ex (dd eb (k+2)) S H (.d (.a 68) 3 (.z .b)) .a { S.m p [] with h:=S.h+1 } H:=EU (X:=[]) (qN fJ rfl (pL _)) (i4 (n:=p) rfl);have G:Ex (dd eb (k+2)) { S.m p [] with h:=S.h+1 } H (.q 66 (.a 53)) .a (mX S p) H:=yi (fu (n:=p) rfl) rfl (y.symm▸J) (by show S.b.length≤_;rw[y];lia);have X:c∈(mX S p).b:=by rw(occs:=eO) [l.a];exact lH.2 ⟨n.1,by rw(occs:=eO) [decide_eq_true_iff];exact D⟩
   have P:Ev (dd eb (k+2)) (mX S p) H (.c (.n (.c (.a 66) 16) (.a 86)) 2) (.a (t.a p).c) (mX S p):=gv (iG f rfl (fu (n:=c) rfl) X) (by
    show d9 (eD.a ((mX S p).a c).c)=_;rw[l.e c n.1 D];show d9 (eD.a (if c=c then _ else _))=_;rw[if_pos rfl])
   by_cases z:(t.a p).c=0
   ·have:f7 (dd eb (k+2)) t (fh [66,53] [.b .c,.a p]) sD .a (mX S p) H:=
     eG I (eG s2 (eG B (eG C (eG R (eG G (eG (gU (lV (y:=0) P rfl z) fp) fp))))))
    rw[z] at L;exact(lP (mX S p) (congrArg gP this) L Q (λb U x Z i=>⟨(o x Z i).1 b,(o x Z i).2,l.d⟩))
   ·have pr:p≠t.d:=λe=>z (e▸h.o)
    refine h.N p J pr λu A=>?_;have a:(t.a p).c≠p:=λq=>by rw[q] at A;exact absurd (h.d p J p A).2 (lg _)
    have r:(t.a p).c∈(mX S p).b:=by rw(occs:=eO) [l.a];exact lH.2 ⟨u,by rw(occs:=eO) [decide_eq_true_iff];exact a⟩
    refine i8 (Hw (g:=g) L r) λg2 k2 d zj=>?_;have jo:=Hy (Q:=eb) (k:=k+1) L.y r d;have:f7 (dd eb (k+2)) t (fh [66,53] [.b .c,.a p]) sD .a (kq (mX S p) (t.a p).c) H:=
     eG I (eG s2 (eG B (eG C (eG R (eG G (eG (jj (u8 (y:=0) P rfl z) (eG (j5 (gI (eV (ip rfl) (eV P fJ)) jo)) fp)) fp))))))
    refine(lP (kq (mX S p) (t.a p).c) (congrArg gP this) g2 (Q.f k2) (λb U x Z i=>⟨(zj.1 b x).trans ((o x Z i).1 b),(zj.2 x).trans (o x Z i).2,l.d⟩))
  have M:∀m∈t.b,m≠(t.a p).c->(t.a m).a.map (lD p c)=(t.a m).a:=λm Y E=>zC λX=>E (h.k m Y p X).symm;by_cases z:p=t.d
  ·have N:=h.o
   rw[←z] at N;refine j _ (II (Q:=eb) (k:=k+1) h.f J n.1 N) ⟨λm Y mp=>?_,rfl,rfl,(if_pos z).symm,h.f,rfl,rfl,rfl,rfl⟩ h.f rfl;show(if m=p then _ else if m=c then({ t.a c with c:=0 }:gE) else t.a m)=_;rw[if_neg mp,M m Y (λe=>by rw[e,N] at Y;have:=(h.g 0 Y).1;lia),N];by_cases q:m=c
   ·rw[if_pos q,if_pos q,q]
   ·rw[if_neg q,if_neg q]
  ·refine h.N p J z λu A=>?_
   have a:(t.a p).c≠p:=λq=>by rw[q] at A;exact absurd (h.d p J p A).2 (lg _)
   have:=ly h.l u;refine j _ (IH (Q:=eb) (k:=k+1) (p:=(t.a p).c) h.f J n.1 rfl (λe=>by rw[e] at u;have:=(h.g 0 u).1;lia) u A (by lia)) ⟨λm Y mp=>?_,rfl,rfl,(if_neg z).symm,h.f,rfl,rfl,rfl,rfl⟩ h.f rfl;show(if m=p then _ else if m=(t.a p).c then({ (if(t.a p).c=c then _ else t.a (t.a p).c:gE) with a:=_ }:gE) else if m=c then({ t.a c with c:=(t.a p).c }:gE) else t.a m)=_;have v:(t.a p).c≠c:=λe=>by have:=(h.d _ u p A).2;rw[e] at this;lia
   rw[if_neg mp,if_neg v,IU (h.m _ u) A];by_cases q:m=(t.a p).c
   ·rw[if_pos q,if_neg λe=>v (q.symm.trans e),q]
   ·rw[if_neg q,M m Y q]
    by_cases q:m=c
    ·rw[if_pos q,if_pos q,q]
    ·rw[if_neg q,if_neg q]
 ·have E:(t.a p).a≠[]:=λe=>sp ((h.i p J).2 e)
  have l2:2≤(t.a p).a.length:=by have:=DV.2 E;lia
  have:f7 (dd eb (k+2)) t (fh [66,53] [.b .c,.a p]) sD (.b (.b .e)) t K:=eG I (iq (jj (u8 (y:=1) w rfl F) (iq rfl)));refine(lP t (congrArg gP this) ({ h with v:=λm Y s U=>?_ }) ⟨λU Z U U=>Z,λx Z=>eH ⟨Z,rfl,rfl⟩,ja _,λx Z=>(h.g x Z).2,rfl,rfl,rfl,rfl⟩ (λU U U U U=>⟨rfl,rfl,rfl⟩));by_cases e:m=p
  ·rw[e];exact l2
  ·exact h.v m Y s e
theorem UW{l:List Int}{f:Int->Int}(h:n∈l):(l.map f).sum=f n+((l.erase n).map f).sum:=by
 induction l with
 |nil=>cases h
 |cons c r D=>
  rw[List.erase_cons];by_cases e:c=n
  ·clear D h
   subst e;rw[if_pos (beq_self_eq_true c),gj,ky]
  ·rw[if_neg (λq=>e (eq_of_beq q)),gj,gj,ky,ky,D ((gy.1 h).resolve_left (gM e))];lia
def ko(t:eB)(p n:Int):eB:=wU (t.m p ((t.a p).a.erase n)) n
theorem PQ(h:Gx t T 0 0)(W:n∈t.b)(X:(t.a n).a=[])(J:p∈t.b)(r:n∈(t.a p).a)(D:o∈(t.a p).a)(w:o≠n):Gp (ko t p n) T p 0 p (fA (t.a p).b) o (sz t (fA (t.a p).b) o+sz t (fA (t.a p).b) n)∧Kp n t (ko t p n):=by
 have M:=sj (s:=(t.a p).b);have S:p≠n:=λe=>by rw[e,X] at r;cases r
 have a:=h.k p J n r;have C:(t.a p).b≠0:=λs=>by rw[(h.i p J).1 s] at r;cases r
 have L:∀m,m∈(ko t p n).b↔m∈t.b∧m≠n:=λm=>by show m∈t.b.filter _↔_;rw(occs:=eO) [lH,decide_eq_true_iff]
 have Q:(ko t p n).a p={ t.a p with a:=(t.a p).a.erase n }:=if_pos rfl;have O:∀m,m≠p->(ko t p n).a m=t.a m:=λm e=>if_neg e;have N:((ko t p n).a p).a=(t.a p).a.erase n:=by rw[Q]
 have i:∀y,y∈(t.a p).a.erase n↔y≠n∧y∈(t.a p).a:=λy=>(h.m p J).mem_erase_iff;have z:∀m,((ko t p n).a m).b=(t.a m).b∧((ko t p n).a m).c=(t.a m).c∧((ko t p n).a m).f=(t.a m).f∧∀b,sz (ko t p n) b m=sz t b m:=λm=>by
  by_cases e:m=p
  ·clear J r D M S a C L O N i
   rw[e];unfold sz;rw[Q];exact⟨rfl,rfl,rfl,λU=>rfl⟩
  ·unfold sz;rw[O m e];exact⟨rfl,rfl,rfl,λU=>rfl⟩
 have I:∀m∈t.b,∀y∈((ko t p n).a m).a,y∈(t.a m).a∧y≠n:=λm Y y B=>by
  by_cases e:m=p
  ·clear J r D M S a C L Q O z
   subst e;rw[N] at B;exact⟨((i y).1 B).2,((i y).1 B).1⟩
  ·rw[O m e] at B;exact⟨B,λq=>e ((h.k m Y y B).symm.trans (q▸a))⟩
 have v:Gc (ko t p n) T p 0:=
  {
   d:=λm Y y B=>by
    refine fe (I m ((L m).1 Y).1 y B) λc g=>?_;have k:=h.d m ((L m).1 Y).1 y c;exact⟨(L y).2 ⟨k.1,g⟩,k.2⟩
   k:=λm Y y B=>by
    rw[(z y).2.1];exact h.k m ((L m).1 Y).1 y (I m ((L m).1 Y).1 y B).1
   m:=λm Y=>by
    by_cases e:m=p
    ·clear J r D M S a C Q O i z I
     subst e;rw[N];exact(h.m m ((L m).1 Y).1).erase n
    ·rw[O m e];exact h.m m ((L m).1 Y).1
   f:=h.f
   j:=im (qC ..) h.j
   i:=λm Y=>by
    rw[(z m).1];by_cases e:m=p
    ·clear J r M S a L Q O z I Y
     rw[e];rw[N];exact⟨λs=>absurd s C,λq=>by have:=(i o).2 ⟨w,D⟩;rw[q] at this;cases this⟩
    ·rw[O m e];exact h.i m ((L m).1 Y).1
   h:=(L _).2 ⟨h.h,λ(e:t.d=n)=>by have:=h.o;rw[e,a] at this;have:=(h.g p J).1;lia⟩
   o:=(z _).2.1.trans h.o
   g:=λm Y=>h.g m ((L m).1 Y).1
   C:=h.C.filter _
   D:=λm Y e=>by
    refine h.N m ((L m).1 Y).1 e λu A=>?_;rw[(z m).2.1];refine⟨(L _).2 ⟨u,λe=>by rw[e,X] at A;cases A⟩,?_⟩;by_cases e:(t.a m).c=p
    ·rw[e,N];exact(i m).2 ⟨((L m).1 Y).2,e▸A⟩
    ·rw[O _ e];exact A
   B:=λm Y=>by rw[(z m).1];exact h.B m ((L m).1 Y).1
   v:=λm Y s e=>by
    rw[(z m).1] at s;rw[O m e];exact h.v m ((L m).1 Y).1 s λe=>by have:=(h.g m ((L m).1 Y).1).1;lia
   A:=λm Y e y B=>by
    rw[(z m).1,(z y).1];exact h.A m ((L m).1 Y).1 e y (I m ((L m).1 Y).1 y B).1
   x:=λb j m Y s=>by rw[(z m).2.2.2];exact h.x b j m ((L m).1 Y).1 ((z m).1▸s)
   z:=λb j=>((z _).2.2.2 b).symm▸h.z b j }
 have K:=(h.d p J o D).1;have f:=h.u _ M p J C;rw[if_pos rfl] at f;have V:=h.nn M K;have E:=h.nn M W;have d:∀x∈(t.a p).a.erase n,0≤kQ (sz t (fA (t.a p).b)) o (sz t (fA (t.a p).b) o+sz t (fA (t.a p).b) n) x:=λx Z=>by
  unfold kQ;by_cases e:x=o
  ·rw[if_pos e];lia
  ·rw[if_neg e];exact h.nn M (h.d p J x ((i x).1 Z).2).1
 have F:(((t.a p).a.erase n).map (kQ (sz t (fA (t.a p).b)) o (sz t (fA (t.a p).b) o+sz t (fA (t.a p).b) n))).sum=sz t (fA (t.a p).b) p:=by
  rw[Jf ((i o).2 ⟨w,D⟩) ((h.m p J).erase n),←f,UW r];lia
 refine⟨{ v with G:=λb j m Y e s=>?_,E:=(L p).2 ⟨J,S⟩,F:=N▸(i o).2 ⟨w,D⟩,H:=by rw[(z p).1],J:=?_,K:=λm Y=>by rw[(z m).2.2.2];exact h.W M ((L m).1 Y).1,I:=?_,L:=?_ },
  ⟨λx Z U e=>(L x).2 ⟨Z,e⟩,λx Z=>eH ⟨((L x).1 Z).1,(z x).1,(z x).2.2.1⟩,ja _,λx Z=>(h.g x Z).2,rfl,rfl,rfl,rfl⟩⟩
 ·rw[(z m).1] at s ⊢
  have f:=h.u b j m ((L m).1 Y).1 s;rw[show sz (ko t p n) b=sz t b from funext λm=>(z m).2.2.2 b];by_cases q:fA (t.a m).b=b
  ·have mp:m≠p:=λG=>e (by rw[←q,G]) G
   rw[if_pos q] at f ⊢;rw[O m mp];exact f
  ·rw[if_neg q] at f ⊢;exactλy B=>f y (I m ((L m).1 Y).1 y B).1
 ·rw[N,show sz (ko t p n) (fA (t.a p).b)=sz t (fA (t.a p).b) from funext λm=>(z m).2.2.2 _,F]
 ·refine jY (AD (yA h.e v.e K λx Z=>?_)) (jY (h.U M K) (by lia))
  have H:x≠n:=λe=>yE h.l J D r w x Z (by rw[e];exact lY h.e W);exact⟨(L x).2 ⟨j7 h.e K x Z,H⟩,(z x).1,by rw[O x λe=>zG h.l J D (e▸Z)]⟩
 ·have:=zD (l:=((t.a p).a.erase n).map _) (λx Z=>by(refine fP Z λy B P=>?_;(clear Z;obtain rfl:=P));exact d y B) _ (jZ ((i o).2 ⟨w,D⟩))
  rw[F,show kQ (sz t (fA (t.a p).b)) o (sz t (fA (t.a p).b) o+sz t (fA (t.a p).b) n) o=_ from if_pos rfl] at this;exact jY this (h.W M J)
def iW(t:eB)(a:Int->Nat):List Int:=(PP t a t.d).filter (nR t)
theorem sY(h:Gx t T q r){x:Int}:x∈iW t T↔x∈t.b∧(t.a x).b=0:=
 lH.trans ⟨λY=>fe Y λa b=>⟨j7 h.e h.h x a,of_decide_eq_true b⟩,λo=>fe o λa b=>⟨h.aa a,decide_eq_true b⟩⟩
theorem Rj(h:Gx t T q r):∃m l,iW t T=m::l:=by
 refine eR (Hg h.y h.h) λx Z s=>?_;cases e:iW t T with
 |nil=>exact absurd ((sY h).2 ⟨j7 h.e h.h x Z,s⟩) (e▸iI)
 |cons m l=>exact⟨m,l,rfl⟩
theorem sZ(h:Gx t T q r){G:Prop}(N:∀m l,iW t T=m::l->G):G:=ur (Rj h) N
theorem HP(h:Gx t T q r){k:Nat}:gF eb (k+1) 17 [.b .c,.a t.d] t=d9 (.c eb (eF (iW t T)),t):=
 zy h.l (im h.j (by decide)) (λn W=>(h.i n W).1) h.h
def oA(t:eB)(a:Int->Nat):Int:=md t ((iW t a).headD 0) (iW t a)
noncomputable def nT(t:eB)(n:Int):Int:=if 0<(((t.a (t.a n).c).a.idxOf n:Nat):Int) then(t.a (t.a n).c).a.getD ((t.a (t.a n).c).a.idxOf n-1) 0 else(t.a (t.a n).c).a.getD 1 0
theorem Ir(h:Gx t T 0 0)(W:n∈t.b)(H:n≠t.d):nT t n∈(t.a (t.a n).c).a∧nT t n≠n:=by
 refine h.N n W H λz r=>?_;have l:=DT.2 r;have V:=h.v _ z (λs=>by rw[(h.i _ z).1 s] at r;cases r) (λe=>by have:=(h.g _ z).1;lia);have G:=h.m _ z;have g:∀i,i<(t.a (t.a n).c).a.length->i≠(t.a (t.a n).c).a.idxOf n->(t.a (t.a n).c).a.getD i 0∈(t.a (t.a n).c).a∧(t.a (t.a n).c).a.getD i 0≠n:=λi D E=>by
  rw[lE,jF D];refine⟨uH D,λe=>E ?_⟩;have e:(t.a (t.a n).c).a[i]=n:=e;rw[←G.idxOf_getElem i D,e]
 unfold nT;by_cases c:0<(((t.a (t.a n).c).a.idxOf n:Nat):Int)
 ·rw[if_pos c];exact g _ (by lia) (by lia)
 ·rw[if_neg c];exact g _ (by lia) (by lia)
theorem Hk{n k:Int}(z:k∈(t.a n).a)(C:(t.a n).a.length≤100000)(h:Ev d t F e (.f n t.h) t)(g:F j=d9 (.a k)):Ev d t F (.J e (.a j)) (.a ((t.a n).a.idxOf k:Nat)) t:=by
 show(e.q d t F).bind _=_;rw[h];show(ia t (.f n t.h)).bind _=_;rw[jL];show(eW.q d (.a j) t F).bind _=_;rw[fu g];show(jC t (.f n t.h)).bind _=_;have:jC t (.f n t.h)=d9 (t.a n).a:=by show(ia t (.f n t.h)).bind _=_;rw[jL];exact nQ _
 rw[this];exact if_pos ⟨z,C⟩
theorem Hh{z:List eT}{i:Nat}{x:eT}(h:z[i]? =d9 x)(D:i<1000):pq z (i:Int)=d9 (.b x):=by
 unfold pq;rw[if_pos (by lia),if_pos (by lia),DJ,h];rfl
theorem zq{n:Int}{i:Nat}(D:i<(t.a n).a.length)(C:(t.a n).a.length≤60):m9 t (.f n t.h) (.a i)=d9 (.a ((t.a n).a.getD i 0)):=by
 have:m9 t (.f n t.h) (.a i)=(ia t (.f n t.h)).bind λz=>pq z i:=rfl;rw[this,jL,Xb];exact Hh (x:=.a ((t.a n).a.getD i 0)) (by rw[lF,lE,jF D];rfl) (by lia)
theorem EQ{x y:Int}(h:Ev d t F P (.a x) t)(g:Ev d t F V (.a y) t):Ev d t F (.h lh P V) (.d (eU (y<x))) t:=gG h g rfl
theorem Iq(h:Gx t T 0 0)(W:n∈t.b)(H:n≠t.d){i j:Nat}(K:F i=d9 (.b (.d (t.a n).c)))(b:F j=d9 (.a ((t.a (t.a n).c).a.idxOf n:Nat))):
  Ev d t F (.C (.h lh (.a j) (.d 0)) (.n (.c (.a i) 3) (.p gS (.a j) (.d 1))) (.n (.c (.a i) 3) (.d 1))) (.a (nT t n)) t∧
  Ev d t F (.n (.c (.a i) 3) (.C (.h lh (.a j) (.d 0)) (.p gS (.a j) (.d 1)) (.d 1))) (.a (nT t n)) t:=by
 refine h.N n W H λz r=>?_;have U:=im (ly h.l z) h.j;have l:=DT.2 r;have V:=h.v _ z (λs=>by rw[(h.i _ z).1 s] at r;cases r) (λe=>by have:=(h.g _ z).1;lia);have I:Ev d t F (.c (.a i) 3) (.f (t.a n).c t.h) t:=gv (i4 K) rfl;have a:Ev d t F (.h lh (.a j) (.d 0)) (.d (eU (0<(((t.a (t.a n).c).a.idxOf n:Nat):Int)))) t:=EQ (fu b) (y:=0) rfl;have N:0<(((t.a (t.a n).c).a.idxOf n:Nat):Int)->Ev d t F (.p gS (.a j) (.d 1)) (.a (((t.a (t.a n).c).a.idxOf n-1:Nat):Int)) t:=λc=>by
  have:Ev d t F (.p gS (.a j) (.d 1)) (.a ((((t.a (t.a n).c).a.idxOf n:Nat):Int)-1)) t:=hZ (fu b) (u:=.a 1) rfl rfl;rwa [show((((t.a (t.a n).c).a.idxOf n:Nat):Int)-1)=(((t.a (t.a n).c).a.idxOf n-1:Nat):Int) by lia] at this
 unfold nT;by_cases c:0<(((t.a (t.a n).c).a.idxOf n:Nat):Int)
 ·rw[decide_eq_true c] at a;rw[if_pos c]
  exact⟨lU a (jh I (N c) (zq (by lia) U)),jh I (lU a (N c)) (zq (by lia) U)⟩
 ·rw[decide_eq_false c] at a;rw[if_neg c]
  exact⟨lT a (jh I (u:=.a ((1:Nat):Int)) rfl (zq V U)),jh I (lT a (v:=.a ((1:Nat):Int)) rfl) (zq V U)⟩
def vA(t:eB)(n:Int):Int:=fA (t.a (t.a n).c).b
theorem PS(h:Gx t T 0 0)(v:n∈t.b)(S:(t.a n).b=0)(nr:n≠t.d){k:Nat}:
  ∃O,gF eb (k+4) 37 [.b .c,.a n] t=d9 (.b .e,{ O with i:=if t.i=n then oA O T else O.i })∧Gx O T 0 0∧Po O∧Kp n t O∧n∉O.b∧sz O (vA t n) (nT t n)=sz t (vA t n) (nT t n)+sz t (vA t n) n∧(O.a (nT t n)).b=(t.a (nT t n)).b∧O.c=t.c:=by
 refine h.N n v nr λz r=>?_;refine fe (Ir h v nr) λE o2=>?_;have X:=(h.i n v).1 S;have kl:=im (ly h.l z) h.j;have p0:(t.a n).c≠0:=λe=>by have:=(h.g _ z).1;lia
 have sp:(t.a (t.a n).c).b≠0:=λs=>by rw[(h.i _ z).1 s] at r;cases r
 obtain⟨p,ep⟩ :∃p,(t.a n).c=p:=⟨_,rfl⟩;have f:=λ(F:Fr) i j=>Iq (d:=dd eb (k+3)) (F:=F) (i:=i) (j:=j) h v nr;have ax:=sj (s:=(t.a p).b);unfold vA;rw[ep] at z r E kl p0 sp f ⊢;obtain⟨o,eo⟩ :∃o,nT t n=o:=⟨_,rfl⟩;rw[eo] at E o2 f ⊢;obtain⟨a,L⟩ :∃a,fA (t.a p).b=a:=⟨_,rfl⟩;have oa:=(h.d p z o E).1;have w:=(h.d p z o E).2;refine fe (PQ h v X z r E o2) λG k1=>?_;rw[L] at G ax ⊢;refine f5 (G.ae (k:=k)) λA c2 V g2=>?_;have ae:p∈(f8 (ko t p n) a A).b:=G.E;have ac:∀x,((f8 (ko t p n) a A).a x).b=(t.a x).b:=λx=>m7.trans (by
  show(if x=p then _ else _:gE).b=_;by_cases e:x=p
  ·rw[if_pos e,e]
  ·rw[if_neg e])
 refine nU (Ra (g:=n) (k:=k) g2 ae (by rw[ac];exact sp)) λC c3 g3 k3 zz=>?_;refine eR (C4 (k:=k+1) g3) λP J u=>?_;have op:o≠p:=λe=>by rw[e] at w;exact absurd w (lg _)
 have aj:o∈(f8 (ko t p n) a A).b:=(G.d p G.E o G.F).1;refine gY (zz a ax o aj op) λav aw az=>?_;have M:Kp n C (gz C P):=⟨λU Z U U=>Z,λx Z=>eH ⟨Z,rfl,rfl⟩,ja _,λx Z=>(g3.g x Z).2,rfl,rfl,rfl,rfl⟩;have N:=((k1.f (zP λx Z=>(G.g x Z).2)).f k3).f M;have ag:n∉(gz C P).b:=λhm=>by
  rcases(k3.f M).a n hm with ⟨hm,_⟩ |⟨hl,_⟩
  ·have:n∈t.b.filter λm=>eU (m≠n):=hm
   exact absurd rfl (of_decide_eq_true (lH.1 this).2)
  ·have:t.c<n:=hl
   have:=(h.g n v).2;lia
 refine(Co (gz C P) ?_ g3.Z u N ag ⟨(by rw[C5,av,rF,V]),(aw.trans (ac o)),az⟩);rw[iB (M:=[66,53]) (b:=vI) (by decide) rfl rfl];let Y:Fr:=fh [66,53] [.b .c,.a n];let K:Fr:=eL Y 68 (.b (.d n));let H:Fr:=eL K 55 (.b (.d p));let D:Fr:=fV H [82,56] [.a ((t.a p).a.idxOf n:Nat),.a a];let Q:Fr:=eL D 96 (.a o);let b:Fr:=eL Q 57 (.a (sz t a o+sz t a n));let I:Fr:=eL b 97 (.d (eU (t.i∈[n])));have r1:Ex (dd eb (k+3)) t Y (.a 68 (.v (.a 66) 29 (.a (.a 53) .b))) .a t K:=fO (iL rfl rfl rfl (Dy (Q:=eb) (k:=k+2) h.f v)) rfl;have pe:Ev (dd eb (k+3)) t K (.c (.a 68) 2) (.a p) t:=ep▸gv rfl rfl;have r3:Ex (dd eb (k+3)) t K (.a 55 (.n (.c (.a 66) 16) (.c (.a 68) 2))) .a t H:=fO (iG h.f rfl pe z) rfl;have r4:Ex (dd eb (k+3)) t H (.l eb [56,82] (.A (.a (.j 15 (.a (.c (.a 55) 1) .b)) (.a (.J (.c (.a 55) 3) (.a 53)) .b)))) .a t D:=
  oS (as:=[.a a,.a ((t.a p).a.idxOf n:Nat)]) rfl (ki (J:=[.a a,.a ((t.a p).a.idxOf n:Nat)]) (eV (L▸gI (eV rfl fJ) ub) (eV (Hk r (by lia) rfl rfl) fJ)) rfl (iO rfl)) rfl
 have r5:Ex (dd eb (k+3)) t D (.a 96 (.C (.h lh (.a 82) (.d 0)) (.n (.c (.a 55) 3) (.p gS (.a 82) (.d 1))) (.n (.c (.a 55) 3) (.d 1)))) .a t Q:=fO (f D 55 82 rfl rfl).1 rfl;have r6:Ex (dd eb (k+3)) t Q (.a 57 (.p io (.v (.n (.c (.a 66) 16) (.a 96)) 23 (.a (.a 56) .b)) (.v (.a 68) 23 (.a (.a 56) .b)))) .a t b:=
  fO (hZ (iL (iG h.f rfl rfl oa) rfl rfl (mJ (k:=k+2))) (iL rfl rfl rfl (mJ (k:=k+2))) rfl) rfl
 have g:=zy (Q:=eb) h.l (im h.j (by decide)) (λn v=>(h.i n v).1) v (k:=k+2);rw[show(PP t T n).filter (nR t)=[n] by rw[lx h.e v,X];exact xy (decide_eq_true S)] at g;have r7:Ex (dd eb (k+3)) t b (.a 97 (.h oj (.c (.a 66) 22) (.j 17 (.a (.a 66) (.a (.a 53) .b))))) .a t I:=
  fO (gG (ji (f:=6) (v:=.a t.i) rfl rfl h.f) (gI rfl g) rfl) rfl
 let q:=t.m p ((t.a p).a.erase n);have r8:Ex (dd eb (k+3)) t I (.B 55 (.a 53)) .a q I:=by
  have:=LG (d:=dd eb (k+3)) (t:=t) (F:=I) (o:=55) (n:=p) (k:=n) (e:=.a 53) rfl rfl rfl r (by lia);rwa [←List.erase_eq_eraseIdx_of_idxOf rfl] at this
 have R:∀m,(q.a m).c=(t.a m).c∧∀y∈(q.a m).a,y∈(t.a m).a:=λm=>by
  show(if m=p then _ else _:gE).c=_∧∀y∈(if m=p then _ else _:gE).a,_;by_cases e:m=p
  ·rw[if_pos e,e];exact⟨rfl,λy B=>List.mem_of_mem_erase B⟩
  ·rw[if_neg e];exact⟨rfl,λU B=>B⟩
 have pn:n≠p:=λe=>by rw[←e,X] at r;cases r
 have af:∀m∈t.b,(q.a m).a.Nodup:=λm hm=>by
  show((if m=p then _ else _:gE).a).Nodup;by_cases e:m=p
  ·rw[if_pos e];exact(h.m p z).erase n
  ·rw[if_neg e];exact h.m m hm
 have uR:Un q T:={ d:=λm hm y B=>h.d m hm y ((R m).2 y B),k:=λm hm y B=>(R y).1.trans (h.k m hm y ((R m).2 y B)),m:=af };have fo:=Qk (Q:=eb) (k:=k+1) uR (im h.j (by decide)) v (by show(if n=p then _ else _:gE).a=[];rw[if_neg pn];exact X);have r9:Ex (dd eb (k+3)) q I (.h (.j 21 (.a (.a 66) (.a (.a 53) .b)))) .a (ko t p n) I:=j5 (gI rfl fo);have ak:Ex (dd eb (k+3)) (ko t p n) I (.h (.j 24 (.a (.a 66) (.a (.a 96) (.a (.a 56) (.a (.a 57) .b)))))) .a (f8 (ko t p n) a A) I:=j5 (gI rfl c2);have aq:Ex (dd eb (k+3)) (f8 (ko t p n) a A) I (.h (.j 35 (.a (.a 66) (.a (.c (.a 55) 0) .b)))) .a C I:=j5 (gI rfl c3);have au:Ex (dd eb (k+3)) C I (.h (.j 25 (.a (.a 66) .b))) .a (gz C P) I:=j5 (gI rfl J);have aa:∀O s,Ex (dd eb (k+3)) (gz C P) I s .a O I->f7 (dd eb (k+3)) t Y (.a (.a 68 (.v (.a 66) 29 (.a (.a 53) .b))) (.a (.c (.h fZ (.c (.a 68) 2) (.d 0)) (.a (.p) .b) .b) (.a _ (.a _ (.a _ (.a _ (.a _ (.a _ (.a _ (.a _ (.a _ (.a _ (.a s .b))))))))))))) .a O I:=λO s S=>
  eG r1 (eG (gU (oq (y:=0) pe rfl p0) fp) (eG r3 (eG r4 (eG r5 (eG r6 (eG r7 (eG r8 (eG r9 (eG ak (eG aq (eG au (eG S fp))))))))))))
 have es:(gz C P).i=t.i:=N.b;by_cases c:t.i=n
 ·refine sZ (g3.Z (P:=P)) λm l d=>?_
  have lv:=HP (g3.Z (P:=P)) (k:=k+2);have mr:=Rs (Q:=eb) (t:=gz C P) (n:=m) (r:=l) (k:=k+2) g3.f λx Z=>((sY g3.Z).1 (d▸Z)).1;rw[d] at lv;have i:Ev (dd eb (k+3)) (gz C P) I (.a 97) (.d eb) (gz C P):=decide_eq_true (gR.2 c)▸fg (v:=.d (eU (t.i∈[n]))) rfl;rw[if_pos c,show oA (gz C P) T=md (gz C P) m (m::l) by unfold oA;rw[d];rfl];have:f7 (dd eb (k+3)) t Y vI .a { gz C P with i:=md (gz C P) m (m::l) } I:=aa _ _ (jj i (eG (nF (v:=.a (md (gz C P) m (m::l))) (u:=.b .c) (gI (eV (ip rfl) (eV (gI (eV (ip rfl) (eV (ji (f:=5) (v:=.a (gz C P).d) rfl rfl g3.f) fJ)) lv) fJ)) mr) (ip rfl) (Da g3.f)) fp));exact congrArg gP this
 ·have i:Ev (dd eb (k+3)) (gz C P) I (.a 97) (.d em) (gz C P):=decide_eq_false (λe=>c (gR.1 e))▸fg (v:=.d (eU (t.i∈[n]))) rfl
  rw[if_neg c];have:f7 (dd eb (k+3)) t Y vI .a (gz C P) I:=aa _ _ (gU i fp);exact congrArg gP this
noncomputable abbrev BU:Ss:=.a (.c (.h gd (.a 72) (.a 53)) (.a (.q 66 (.a 72)) .b) .b) .b
structure BB(n:Int)(F0 F:Fr):Prop where
 a:∀i,i≠72->F i=F0 i
theorem PZ{k:Nat}{V:Fr}(v:V 66=d9 (.b .c))(J:V 53=d9 (.a n)){P:eB->Fr->Bool}(S:∀l F,P (jq t l) F=eb):∀(W l:List Int) (F:Fr),BB n V F->l.length≤60->W.Nodup->(∀c∈W,c∈l)->
  ∃M B,BB n V M∧B.Sublist l∧(∀x,x∈B↔x∈l∧(x=n∨x∉W))∧j9 P [72] (λt F=>BU.c (dd eb k) t F) ((eF W).map λx=>[x]) (jq t l) F=d9 (.a,jq t B,M):=by
 intro A
 induction A with
 |nil=>
  intro l F f U U U;exact(kM F l f (Wt l) (λx=>⟨λh=>⟨h,eI iI⟩,And.left⟩) (nP (S l F)))
 |cons c r s=>
  intro l F f C G X;rw[kG] at G;have j:BB n V (fV F [72] [.a c]):=⟨λi D=>(if_neg D).trans (f.a i D)⟩;have p:=(j.a 53 (by decide)).trans J;by_cases e:c=n
  ·have I:f7 (dd eb k) (jq t l) (fV F [72] [.a c]) BU .a (jq t l) (fV F [72] [.a c]):=eG (gU (lV (x:=c) (y:=n) rfl (fu p) e) fp) fp
   refine jD (s l _ j C G.2 λx Z=>X x (gC _ Z)) λM B u N m g=>?_;exact(kM M B u N (λx=>(m x).trans ⟨λY=>fe Y λa b=>⟨a,b.elim eH λb=>if h:x=n then eH h else eI λq=>(gy.1 q).elim (λq=>h (q.trans e)) b⟩,λo=>fe o λa b=>⟨a,b.imp id λb q=>b (gC _ q)⟩⟩) ((mB (S l F) I).trans g))
  ·have I:f7 (dd eb k) (jq t l) (fV F [72] [.a c]) BU .a (jq t (l.filter λm=>eU (m≠c))) (fV F [72] [.a c]):=
    eG (jj (u8 (x:=c) (y:=n) (fu rfl) (fu p) e) (eG (yi (fu (n:=c) rfl) ((j.a 66 (by decide)).trans v) (X c (gp ..)) (im C (by decide))) fp)) fp
   refine jD (s (l.filter λm=>eU (m≠c)) _ j (im (qC ..) C) G.2 λx Z=>lH.2 ⟨X x (gC _ Z),by rw(occs:=eO) [decide_eq_true_iff];exactλq=>G.1 (q▸Z)⟩) λM B u N m g=>?_;refine(kM M B u (N.trans WC) (λx=>(m x).trans ?_) ((mB (S l F) I).trans g));rw(occs:=eO) [lH,decide_eq_true_iff];exact⟨λy=>fe y λz d=>fe z λa b=>⟨a,d.imp id λd q=>(gy.1 q).elim b d⟩,λw=>fe w λa d=>⟨⟨a,λq=>d.elim (λd=>e (q.symm.trans d)) λd=>d (q▸gp ..)⟩,d.imp id λd q=>d (gC _ q)⟩⟩
theorem SK{l:List Int}(m:∀x,x∈l↔x=n)(G:l.Nodup):l=[n]:=by
 cases l with
 |nil=>exact absurd ((m n).2 rfl) iI
 |cons x r=>
  have e:=(m x).1 (gp ..);cases r with
  |nil=>rw[e]
  |cons y r=>exact absurd (e.trans ((m y).1 (gC _ (gp ..))).symm) λe=>(kG.1 G).1 (e▸gp ..)
def zX(t:eB)(n:Int):gE:={ t.a n with c:=0,g:=0,h:=0,d:=sz t 0 t.d,e:=sz t 1 t.d }
theorem PR(h:Gx t T 0 0)(W:n∈t.b)(v:(t.a n).b=0){k:Nat}:
  ∃O,gF eb (k+3) 38 [.b .c,.a n] t=d9 (.b .e,O)∧Gx O T 0 0∧Po O∧O.d=n∧O.i=n∧O.a n=zX t n∧O.b=[n]∧O.e=t.e∧O.k=t.k:=by
 have hc:=(h.i n W).1 v;have wu:=xr (Q:=eb) h.l (im h.j (by decide)) h.h (k:=k+1);rw[iB (M:=[66,53]) (b:=yO) (by decide) rfl rfl];let Y:Fr:=fh [66,53] [.b .c,.a n];let K:Fr:=eL Y 68 (.b (.d n));let H:Fr:=eL K 88 (.b (.d t.d));let D:Fr:=fV H [60,59] [.a (t.a t.d).e,.a (t.a t.d).d];have Z:Ex (dd eb (k+2)) t Y (.a 68 (.v (.a 66) 30 (.a (.a 53) .b))) .a t K:=fO (iL rfl rfl rfl (HH (Q:=eb) (k:=k) h.f W v)) rfl;have d:∀F:Fr,F 66=d9 (.b .c)->Ev (dd eb (k+2)) t F (.c (.a 66) 21) (.a t.d) t:=λF h6=>ji (f:=5) (v:=.a t.d) h6 rfl h.f;have L:Ex (dd eb (k+2)) t K (.a 88 (.n (.c (.a 66) 16) (.c (.a 66) 21))) .a t H:=fO (iG h.f rfl (d _ rfl) h.h) rfl;have M:Ex (dd eb (k+2)) t H (.l eb [59,60] (.A (.a (.c (.a 88) 6) (.a (.c (.a 88) 7) .b)))) .a t D:=
  oS (as:=[.a (t.a t.d).d,.a (t.a t.d).e]) rfl rfl rfl
 refine jD (PZ (t:=t) (n:=n) (k:=k+2) (V:=D) (P:=lR (.a (.j 19 (.a (.a 66) (.a (.c (.a 66) 21) .b)))) [.c eb (eF (PP t T t.d))] t D) rfl rfl (λU U=>rfl) (PP t T t.d) t.b D ⟨λU U=>rfl⟩ h.j (BK h.l h.h) (j7 h.e h.h)) λQ l R N X V=>?_;have w:l=[n]:=SK (λx=>(X x).trans ⟨λA=>fe A λa b=>b.elim id λb=>absurd (h.aa a) b,λe=>⟨e▸W,eH e⟩⟩) (N.nodup h.C);clear N X;subst w;let E:=jq t [n];let S:=E.f n { t.a n with c:=0 };let C:=E.f n (zX t n);let p:eB:={ C with d:=n };have I:Q 68=d9 (.b (.d n)):=R.a 68 (by decide);have q:Ex (dd eb (k+2)) E Q (.d (.a 68) 2 (.d 0)) .a S Q:=pX (n:=n) (x:=0) rfl (i4 I) rfl;have r6:Ex (dd eb (k+2)) S Q (.s 68 [4,5,6,7] (.A (.a (.d 0) (.a (.d 0) (.a (.a 59) (.a (.a 60) .b)))))) .a C Q:=by
  refine u9 (n:=n) (as:=eF [0,0,(t.a t.d).d,(t.a t.d).e]) rfl (ki (J:=[.a 0,.a 0,.a (t.a t.d).d,.a (t.a t.d).e]) (eV rfl (eV rfl (eV (fu (R.a 59 (by decide))) (eV (fu (R.a 60 (by decide))) fJ)))) rfl (iO rfl)) I ?_;show d9 ((((S.f n { S.a n with g:=0 }).f n { ((S.f n { S.a n with g:=0 }).a n) with h:=0 }).f n _).f n _)=_;rw[lQ,m8,lQ,m8,lQ,m8,lQ,m8];rfl
 have r7:Ex (dd eb (k+2)) C Q (.d (.a 66) 21 (.a 53)) .a p Q:=EV (fu (R.a 53 (by decide))) (R.a 66 (by decide)) h.f;have g:p.a n=zX t n:=if_pos rfl;have z:∀b,Ax b->sz p b n=sz t b t.d:=λb j=>by
  show(if b=0 then(p.a n).d else(p.a n).e)=_;rw[g];rcases j with rfl|rfl<;>rfl
 have o:∀m∈p.b,m=n:=λm f=>gR.1 f;have r:(p.a n).a=[]:=by rw[g];exact hc
 have P:(p.a n).b=0:=by rw[g];exact v
 have G:Gx { p with i:=n } T 0 0:=
  {
   d:=λm f y B=>by rw[o m f] at B;rw[show(p.a n).a=[] from r] at B;cases B
   k:=λm f y B=>by rw[o m f] at B;rw[show(p.a n).a=[] from r] at B;cases B
   m:=λm f=>by rw[o m f];show(p.a n).a.Nodup;rw[r];exact og
   f:=h.f
   j:=iO rfl
   i:=λm f=>by rw[o m f];exact⟨λU=>r,λU=>P⟩
   h:=lS n
   o:=by show(p.a n).c=0;rw[g];rfl
   g:=λm f=>by rw[o m f];exact h.g n W
   C:=xC _ n
   D:=λm f e=>absurd (o m f) e
   B:=λm f=>by rw[o m f];exact eH P
   v:=λm f s U=>by rw[o m f] at s;exact absurd P s
   A:=λm f U y B=>by rw[o m f] at B;rw[show(p.a n).a=[] from r] at B;cases B
   x:=λb j m f U=>by rw[o m f];exact(z b j).symm▸jY (FD h.y j h.h) (h.U j h.h)
   z:=λb j=>(z b j).symm▸h.z b j
   u:=λb j m f s=>by rw[o m f] at s;exact absurd P s }
 have u:Po { p with i:=n }:=⟨by show(p.a n).g=0;rw[g];rfl,by show(p.a n).h=0;rw[g];rfl,λm f=>by
  rw[o m f];exact⟨λU=>⟨r,G.x 0 (eH rfl) n (lS n) P,G.x 1 (eI rfl) n (lS n) P⟩,λs=>absurd P s⟩⟩
 have r8:Ex (dd eb (k+2)) p Q (.c (.h xJ (.c (.a 66) 22) (.c (.a 66) 16)) (.a (.d (.a 66) 22 (.a 53)) .b) .b) .a { p with i:=n } Q:=by
  have J:=R.a 66 (by decide);have i:Ev (dd eb (k+2)) p Q (.h xJ (.c (.a 66) 22) (.c (.a 66) 16)) (.d (!eU (t.i∈[n]))) p:=gG (v:=.a t.i) (u:=.j) (ji (f:=6) J rfl h.f) (ji (f:=0) J rfl h.f) rfl;by_cases c:t.i=n
  ·rw[decide_eq_true (gR.2 c)] at i
   have:({ p with i:=n }:eB)=p:=by show({ p with i:=n }:eB)={ p with i:=t.i };rw[c]
   rw[this];exact gU i fp
  ·rw[decide_eq_false λe=>c (gR.1 e)] at i
   exact jj i (eG (nF (v:=.a n) (u:=.b .c) (fu (R.a 53 (by decide))) (ip J) (Da h.f)) fp)
 have:f7 (dd eb (k+2)) t Y yO .a { p with i:=n } Q:=
  eG Z (eG L (eG M (eG (mQ (lL (gI (eV rfl (eV (d _ rfl) fJ)) wu)) (kP rfl) rfl rfl V) (eG q (eG r6 (eG r7 (eG r8 fp)))))))
 exact(Co ({ p with i:=n }) (congrArg gP this) G u rfl rfl ⟨g,rfl,rfl,rfl⟩)
theorem LC{T:eW}{Y:List (Nat×fX)}{f:Int->Int}(D:F i=d9 (.b (.d n)))(C:(t.a n).a.length≤60)(b:∀c∈(t.a n).a,Ev d t (iS Y F [73] [.a c]) T (.a (f c)) t):
  Ev d t F (.B T [73] (.a (.c (.a i) 3)) .b Y) (.c eb (eF ((t.a n).a.map f))) t:=by
 have:=pV (d:=d) (t:=t) (F:=F) (T:=T) (W:=[73]) (N:=.a (.c (.a i) 3)) (Y:=Y) (L:=(eF (t.a n).a).map λx=>[x])
  (r1 .e λc=>.a (f c)) (lL (gv (fg D) rfl)) (kP jL) (by rw[fC,gB];lia) ?_
 ·rw(occs:=eO) [gJ,gJ] at this;rw(occs:=eO) [eF,gJ];exact this
 ·intro r a
  (refine fP a λy B P=>?_;(clear a;obtain rfl:=P))
  (refine fP B λc X V=>?_;(clear B;obtain rfl:=V))
  exact b c X
theorem Qe{L:Type}{l:List L}:l.filter (λU=>em)=[]:=List.filter_eq_nil_iff.2 λU U=>AB
theorem EO{T:eW}{W:List Nat}{N:iF}{a:Es}{Y:List (Nat×fX)}{J:List eD}{L:List (List eT)}(h:N.c d t F=d9 (J,t))(g:pD t N.h J=d9 L)(C:L.length≤100000)
  (z:∀r∈L,a.g d t (iS Y F W r)=d9 (em,t)):Ev d t F (.B T W N a Y) (.c eb []) t:=by
 have:=Ba (T:=T) (λU=>em) (λU=>.e) h g C z λU U e=>AB e;rwa [Qe] at this
theorem LD(h:Ev d t F e v E)(N:v.s=eb):Ex d t F (.a i e) .a E (eL (λj=>(F j).map eD.e) i v):=by
 show(e.q d t F).map _=_;rw[h];show d9 (Fl.a,E,oJ F i v)=_;unfold oJ;rw[N];rfl
theorem M3(l:d.a=eb)(h:Ev d t F P v t)(g:Ev d t F V u t)(k:Ev d t F X w t):(iF.f P V X).c d t F=d9 ([v,u,w],t):=by
 show(if _ then _ else _)=_;rw[if_pos l];show(P.q d t F).bind _=_;rw[h];show(V.q d t F).bind _=_;rw[g];show(X.q d t F).map _=_;rw[k];rfl
theorem Tl{z l N:List eT}(h:ia t v=d9 z)(g:ia t u=d9 l)(k:ia t w=d9 N)(C:z.length=l.length∧z.length=N.length):pD t 1 [v,u,w]=d9 ((z.zip (l.zip N)).map λp=>[p.1,p.2.1,p.2.2]):=by
 show(uM ((ia t v).bind _) _)=_;rw[h];show(uM (((ia t u).bind _).map _) _)=_;rw[g];show(uM ((((ia t w).bind _).map _).map _) _)=_;rw[k];show(if _ then _ else _)=_;rw[if_pos ⟨rfl,C⟩]
theorem Dk{l:List Int}(h:F i=d9 (.c f (eF l))):mK F (.a i) v=true:=by
 show(!(jE F i).isSome||(iY F i).isSome)=eb;unfold iY jE;rw[h];cases f with
 |true=>show(_||((l6 (eF l)).isSome))=eb;rw[nQ];rfl
 |false=>rfl
theorem C7(h:F i=Y i):m0 Y F (.a i)=true:=by
 show(!(iY Y i).isSome||eU (iY F i=iY Y i))=eb;unfold iY jE;rw[h,decide_eq_true rfl,pI]
noncomputable abbrev B1:Ss:=.a (.m 102 (.p gS (.p gS (.a 101) (.a 80)) (.p pP (.p jb (.p gS (.a 57) (.w 1 (.a 76))) (.a 85)) (.w 1 (.a 84))))) .b
theorem Vs{m N:Int}{M s:List Int}{E B:Bool}{k:Nat}(Z:Y 57=d9 (.a m))(W:Y 76=d9 (.c E (eF M)))(Q:Y 84=d9 (.c B (eF s)))(S:s.sum=N)(O:N≠0∧iZ N)(v:iZ (m-M.sum)){n:eB->Fr->Bool}(q:∀F,(∀i,i≠101->i≠80->i≠85->i≠102->F i=Y i)->n t F=eb):
  ∀(rs:List (Int×Int×Int)) (dn:List Int) F,(∀i,i≠101->i≠80->i≠85->i≠102->F i=Y i)->F 102=d9 (.c eb (eF dn))->(∀p∈rs,iZ p.2.2)->dn.length+rs.length≤1000->
   ∃F',(∀i,i≠101->i≠80->i≠85->i≠102->F' i=Y i)∧F' 102=d9 (.c eb (eF (dn++rs.map λp=>p.1-p.2.1-((m-M.sum)*p.2.2).fdiv N)))∧j9 n [101,80,85] (λt F=>B1.c (dd eb k) t F) (rs.map λp=>[.a p.1,.a p.2.1,.a p.2.2]) t F=d9 (.a,t,F'):=by
 intro H
 induction H with
 |nil=>
  intro dn F f I U U;exact(fQ F f (by rw[uI,mL];exact I) (nP (q F f)))
 |cons V r A=>
  intro dn F f I z C;obtain⟨x,y,w⟩ :=V;rw[lG] at C;have g:=z (x,y,w) (gp ..);let K:Fr:=fV F [101,80,85] [.a x,.a y,.a w];have j:∀i,i≠101->i≠80->i≠85->i≠102->K i=Y i:=λi a b c d=>by
   show(if i=85 then _ else if i=80 then _ else if i=101 then _ else F i)=_;rw[if_neg c,if_neg b,if_neg a];exact f i a b c d
  have D:∀{i:Nat} {o:Bool} {l:List Int},K i=d9 (.c o (eF l))->Ev (dd eb k) t K (.w 1 (.a i)) (.a l.sum) t:=λh=>jN (fg h) rj;have G:f7 (dd eb k) t K B1 .a t (eL K 102 (.c eb (eF (dn++[x-y-((m-M.sum)*w).fdiv N])))):=by
   refine eG ?_ fp;rw[←oM];have P:Ev (dd eb k) t K (.p jb (.p gS (.a 57) (.w 1 (.a 76))) (.a 85)) (.a ((m-M.sum)*w)) t:=hZ (hZ (fu ((j 57 (by decide) (by decide) (by decide) (by decide)).trans Z)) (D ((j 76 (by decide) (by decide) (by decide) (by decide)).trans W)) rfl) (fu (n:=w) rfl) (um (Ah v) (Ah g));exact qO (y:=.a (x-y-((m-M.sum)*w).fdiv N)) (hZ (hZ rfl rfl rfl) (hZ P (S▸D ((j 84 (by decide) (by decide) (by decide) (by decide)).trans Q)) (yW O.1 O.2)) rfl) I (by rw[gB];lia)
  refine f5 (A (dn++[x-y-((m-M.sum)*w).fdiv N]) (eL K 102 (.c eb (eF (dn++[x-y-((m-M.sum)*w).fdiv N])))) (λi a b c d=>(if_neg d).trans (j i a b c d)) rfl (λp J=>z p (gC _ J)) (by rw[il];show dn.length+1+_≤_;lia)) λF' u e L=>?_;refine(fQ F' u ?_ ((mB (q F f) G).trans L));rw[nq] at e;exact e
theorem V9(a b c:List Int):((eF a).zip ((eF b).zip (eF c))).map (λp=>[p.1,p.2.1,p.2.2])=(a.zip (b.zip c)).map λp=>[eT.a p.1,.a p.2.1,.a p.2.2]:=by
 rw(occs:=eO) [pH,eF,List.zip_map,gJ];rfl
theorem CO{x n:Int}(d:0≤n)(K:n≤1000):rl jb (.c eb [.a x]) (.a n)=d9 (.c eb (eF (iJ n.toNat x))):=by
 show(eh<|>(if _ then _ else _))=_;rw(occs:=eO) [if_pos ⟨rfl,by lia,by lia⟩,eF,WN];rfl
noncomputable abbrev Do:List (Nat×fX):=[(48,eu),(73,eu),(56,gb),(66,gb)]
noncomputable abbrev Jk:List (Nat×fX):=[(48,eu),(101,eu),(57,gb)]
noncomputable abbrev xd:List (Nat×fX):=[(48,eu),(73,eu),(80,eu),(100,gb),(56,gb)]
noncomputable abbrev z8:List (Nat×fX):=[(48,eu),(73,eu),(41,eY),(100,gb),(56,gb),(66,gb)]
abbrev Dc:eW:=.B (.p gS (.n (.n (.a 100) (.a 73)) (.a 56)) (.a 80)) [73,80] (.b (.c (.a 72) 3) (.a 76)) .b xd
noncomputable abbrev IW:eW:=.C (.h lh (.w 1 (.a 84)) (.d 0)) (.a 84) (.p jb (.z (.a (.d 1) .b)) (.w 0 (.a 84)))
abbrev Ur:js:=.g (.h fZ (.B (.d 1) [73] (.a (.c (.a 72) 3)) (.a (.M (.j 41 (.a (.a 66) (.a (.a 73) (.a (.a 56) (.a (.a 100) .b)))))) .b) z8) (.z .b))
abbrev IY:Ss:=.a (.a 102 (.z .b)) (.a (.j [101,80,85] (.f (.a 65) (.a 76) (.a 84)) B1) (.a (.a 99 (.w 1 (.a 102))) (.a (.c (.D jw (.a (.h gd (.a 102) (.p io (.p jb (.z (.a (.d 1) .b)) (.a 99)) (.p jb (.z (.a (.d 0) .b)) (.p gS (.w 0 (.a 102)) (.a 99))))) (.a (.h gd (.w 1 (.a 65)) (.a 57)) .b))) (.a (.g (.I em)) .b) .b) .b)))
abbrev IX:js:=.c (.h gd (.h fZ (.c (.a 72) 1) (.x 11)) (.h fZ (.a 56) (.x 14)))
 (.a (.c (.h gd (.B (.a 101) [101] (.a (.a 65)) (.a (.h gd (.a 101) (.a 57)) .b) Jk) (.z .b)) (.a (.g (.I em)) .b) .b) .b)
 (.a (.a 76 Ci) (.a (.a 84 Dc) (.a (.a 84 IW) IY)))
structure SF(n a:Int)(kvs:List (Int×eT))(m:Int)(F:Fr):Prop where
 e:F 66=d9 (.b .c)
 g:F 53=d9 (.a n)
 c:F 56=d9 (.a a)
 f:F 100=d9 (.g em kvs)
 b:F 72=d9 (.b (.d n))
 d:F 57=d9 (.a m)
theorem RC:mU t gd (.c eb []) (.c eb [])=d9 false:=CR (t:=t) (X:=[])
theorem U4{m:Int}{G:List (Int×eT)}{y M f:List Int}{o1 B z:Bool}{k:Nat}(aa:SF n a G m F)(u:F 65=d9 (.c o1 (eF y)))(W:F 76=d9 (.c B (eF M)))(Q:F 84=d9 (.c z (eF (jz f M))))(l:y=kf m f M)
  (C:f.length=M.length) (hb:M.length≤60) (g:∀x∈f,0≤x∧iZ x) (E:M≠[]) (Y:M.sum≤m) (ac:iZ (m-M.sum)) (O:iZ (mI f M)):
  ∃F',SF n a G m F'∧f7 (dd eb k) t F IY .a t F':=by
 have P:∀x∈f,0≤x:=λx Z=>(g x Z).1;refine eR (Ut (m:=m) C P E Y) λN kl w=>?_;have j:y.length=M.length:=by rw[l];exact Dg C
 have wl:=wZ C;have N0:=De P E;let K:Fr:=eL F 102 (.c eb []);have tn:∀p∈y.zip (M.zip (jz f M)),iZ p.2.2:=λp J=>by
  have I:p.2.2∈jz f M:=(rI (rI J).2).2;unfold jz at I;by_cases c:f.sum=0
  ·rw[if_pos c] at I;rw[(KG.1 I).2];decide
  ·rw[if_neg c] at I;exact(g _ I).2
 have q:∀F',(∀i,i≠101->i≠80->i≠85->i≠102->F' i=K i)->lR (.f (.a 65) (.a 76) (.a 84)) [.c em (eF y),.c em (eF M),.c em (eF (jz f M))] t K t F'=true:=λF' h=>by
  show(_&&(m0 K F' (.a 65)&&(m0 K F' (.a 76)&&(m0 K F' (.a 84)&&eb))))=eb;rw[C7 (h 65 (by decide) (by decide) (by decide) (by decide)),C7 (h 76 (by decide) (by decide) (by decide) (by decide)),C7 (h 84 (by decide) (by decide) (by decide) (by decide))];rfl
 refine f5 (Vs (t:=t) (k:=k) (Y:=K) (m:=m) aa.d W Q I0 ⟨by lia,O⟩ ac q (y.zip (M.zip (jz f M))) [] K (λU U U U U=>rfl) rfl tn (by rw[kZ];show 0+_≤_;lia)) λH f2 T L=>?_;rw[AL,l,w] at T;rw[←V9] at L;let D:Fr:=eL H 99 (.a N);have R:∀i,i≠101->i≠80->i≠85->i≠102->i≠99->D i=F i:=λi a b c d e=>(if_neg e).trans ((f2 i a b c d).trans (if_neg d));have S:SF n a G m D:=⟨(R 66 (by decide) (by decide) (by decide) (by decide) (by decide)).trans aa.e,(R 53 (by decide) (by decide) (by decide) (by decide) (by decide)).trans aa.g,(R 56 (by decide) (by decide) (by decide) (by decide) (by decide)).trans aa.c,(R 100 (by decide) (by decide) (by decide) (by decide) (by decide)).trans aa.f,
  (R 72 (by decide) (by decide) (by decide) (by decide) (by decide)).trans aa.b,(R 57 (by decide) (by decide) (by decide) (by decide) (by decide)).trans aa.d⟩
 have sk:(iJ N (1:Int)++iJ (M.length-N) 0).sum=((N:Nat):Int):=by rw[w8,xb,xb];lia
 have X:(iJ N (1:Int)++iJ (M.length-N) 0).length=M.length:=by rw[il,xA,xA];lia
 have c2:((iF.f (.a 65) (.a 76) (.a 84)).d.zip [eD.c em (eF y),.c em (eF M),.c em (eF (jz f M))]).all (λp=>mK K p.1 p.2)=true:=by
  show(mK K (.a 65) _&&(mK K (.a 76) _&&(mK K (.a 84) _&&eb)))=eb;rw[Dk (F:=K) (i:=65) u,Dk (F:=K) (i:=76) W,Dk (F:=K) (i:=84) Q];rfl
 have ae:D 102=d9 (.c eb (eF (iJ N 1++iJ (M.length-N) 0))):=T;have r:Ev (dd eb k) t D (.a 102) (.c em (eF (iJ N 1++iJ (M.length-N) 0))) t:=fg ae;have v:Ev (dd eb k) t D (.a 99) (.a N) t:=fu rfl;have ln:Ev (dd eb k) t D (.w 0 (.a 102)) (.a M.length) t:=by
  have:=jN (d:=dd eb k) r (sG (Q:=eb) rfl rfl (by rw[gB,X];lia));rwa [gB,X] at this
 have s1:Ev (dd eb k) t D (.p io (.p jb (.z (.a (.d 1) .b)) (.a 99)) (.p jb (.z (.a (.d 0) .b)) (.p gS (.w 0 (.a 102)) (.a 99)))) (.c eb (eF (iJ N 1++iJ (M.length-N) 0))) t:=by
  have o:Ev (dd eb k) t D (.p jb (.z (.a (.d 1) .b)) (.a 99)) (.c eb (eF (iJ (N:Int).toNat 1))) t:=hZ rfl v (CO (by lia) (by lia));have m2:Ev (dd eb k) t D (.p jb (.z (.a (.d 0) .b)) (.p gS (.w 0 (.a 102)) (.a 99))) (.c eb (eF (iJ ((M.length:Int)-N).toNat 0))) t:=
   hZ rfl (hZ ln v rfl) (CO (by lia) (by lia))
  rw[DJ] at o;rw[show((M.length:Int)-N).toNat=M.length-N by lia] at m2;refine hZ o m2 ?_;show(eh<|>(if _ then _ else _))=_;rw[if_pos (by rw[gB,gB,xA,xA];lia),oM];rfl
 have s:Ev (dd eb k) t D (.D jw (.a (.h gd (.a 102) (.p io (.p jb (.z (.a (.d 1) .b)) (.a 99)) (.p jb (.z (.a (.d 0) .b)) (.p gS (.w 0 (.a 102)) (.a 99))))) (.a (.h gd (.w 1 (.a 65)) (.a 57)) .b))) (.d em) t:=
  pW (jS (gG r s1 (CQ rfl)) (jS (lV (jN (fg ((R 65 (by decide) (by decide) (by decide) (by decide) (by decide)).trans u)) rj) (fu S.d) (by rw[l];exact Dh C P E Y)) rfl))
 refine(ey D S (eG (fO rfl rfl) (eG (mQ (M3 rfl (fg (F:=K) u) (fg (F:=K) W) (fg (F:=K) Q)) (Tl rfl rfl rfl ⟨by rw[gB,gB,j],by rw[gB,gB,wl,j]⟩) rfl c2 L) (eG (fO (v:=.a N) (jN (fg T) (sk▸rj)) rfl) (eG (gU s fp) fp)))))
theorem OY{m:Int}{G:List (Int×eT)}(f:SF n a G m F)(M:Ax a)(S:(t.a n).b=1∨(t.a n).b=2):Ev d t F (.h gd (.h fZ (.c (.a 72) 1) (.x 11)) (.h fZ (.a 56) (.x 14))) (.d (!eU (fA (t.a n).b=a))) t:=by
 rw[←FO S M];exact gG (v:=.d (eU ((t.a n).b=1))) (u:=.d (eU (a=1))) (gG (gv (i4 f.b) rfl) rfl rfl) (gG (fu f.c) rfl rfl) RB
theorem OW{m:Int}{G:List (Int×eT)}{o:Int->Int->Int}(f:SF n a G m F)(M:Ax a)(W:F 76=d9 (.c eb (eF ((t.a n).a.map (LL t T a)))))(C:(t.a n).a.length≤60)(z:∀x∈(t.a n).a,G.lookup x=d9 (.f [.a (o 0 x),.a (o 1 x)])){Q:Bool}{k:Nat}(l:Q=eb):
  Ev (dd Q k) t F Dc (.c eb (eF ((t.a n).a.map λc=>o a c-LL t T a c))) t:=by
 have:=pV (d:=dd Q k) (t:=t) (F:=F) (T:=.p gS (.n (.n (.a 100) (.a 73)) (.a 56)) (.a 80)) (W:=[73,80]) (N:=.b (.c (.a 72) 3) (.a 76)) (Y:=xd) (L:=((eF (t.a n).a).zip (eF ((t.a n).a.map (LL t T a)))).map λp=>[p.1,p.2])
  (r2 .e λc x=>.a (o a c-x)) (ym l (gv (i4 f.b) rfl) (fg W)) (zR jL rfl (by rw[gB,gB,fC])) (by rw[fC,kZ,gB];lia) ?_
 ·rw(occs:=eO) [pH,Av,gJ,gJ,gJ] at this;rw(occs:=eO) [eF,gJ];exact this
 ·intro r E
  rw[pH,Av,gJ,gJ] at E
  (refine fP E λc X P=>?_;(clear E;obtain rfl:=P))
  have g:iS xd F [73,80] [.a c,.a (LL t T a c)] 100=d9 (.g em G):=congrArg (kH eD.e) f.f;have K:iS xd F [73,80] [.a c,.a (LL t T a c)] 56=d9 (.a a):=congrArg (kH eD.e) f.c;have P:Ev (dd Q k) t (iS xd F [73,80] [.a c,.a (LL t T a c)]) (.n (.a 100) (.a 73)) (.b (.f [.a (o 0 c),.a (o 1 c)])) t:=jh (v:=.g em G) (fg g) (fu (n:=c) rfl) (by show(G.lookup c).map eD.b=_;rw[z c X];rfl);exact hZ (jh P (fu K) (w:=.a (o a c)) (by(clear f W g K P;rcases M with rfl|rfl)<;>rfl)) (fu (n:=LL t T a c) rfl) rfl
theorem QE{G:List (Int×eT)}{o:Int->Int->Int}(h:Ok t T)(hs:BM t)(M:Ax a)(hk:∀x∈t.b,G.lookup x=d9 (.f [.a (o 0 x),.a (o 1 x)]))(hd:∀x∈t.b,Dn t T a (o a) (sz t a) x)
  (P:∀x∈t.b,LL t T a x≤o a x∧o a x≤8000) (ag:∀x∈t.b,LL t T a x≤sz t a x∧sz t a x≤8000) (W:n∈t.b):∀k,T n<k->gF eb (k+4) 41 [.b .c,.a n,.a a,.g em G] t=d9 (.d eb,t):=by
 refine h.e.M (P:=λn=>∀k,T n<k->gF eb (k+4) 41 [.b .c,.a n,.a a,.g em G] t=d9 (.d eb,t)) ?_ W;intro n W ih k L;cases k with
 |zero=>exact absurd L (pK _)
 |succ k=>
  rw[iB (M:=[66,53,56,100]) (b:=vL) (by decide) rfl rfl];let Y:Fr:=fh [66,53,56,100] [.b .c,.a n,.a a,.g em G];let K:Fr:=eL Y 72 (.b (.d n));have s1:Ex (dd eb (k+4)) t Y (.a 72 (.n (.c (.a 66) 16) (.a 53))) .a t K:=fO (iG h.f rfl (fu (n:=n) rfl) W) rfl;by_cases q:(t.a n).b=0
  ·have:f7 (dd eb (k+4)) t Y vL (.b (.d eb)) t K:=eG s1 (iq (jj (decide_eq_true q▸my rfl) (iq (i7 rfl rfl))))
   exact congrArg gP this
  ·have ne:(t.a n).a≠[]:=λr=>q ((h.i n W).2 r)
   have U:=im (ly h.l W) h.j;let H:Fr:=eL K 57 (.a (sz t a n));let D:Fr:=eL H 65 (.c eb (eF ((t.a n).a.map (sz t a))));have w:SF n a G (sz t a n) H:=⟨rfl,rfl,rfl,rfl,rfl,rfl⟩;have S:SF n a G (sz t a n) D:=⟨rfl,rfl,rfl,rfl,rfl,rfl⟩;have s3:Ex (dd eb (k+4)) t K (.a 57 (.v (.a 72) 23 (.a (.a 56) .b))) .a t H:=fO (iL (i4 (n:=n) rfl) (eV (fu (n:=a) rfl) fJ) rfl (mJ (k:=k+3))) rfl;have s4:Ex (dd eb (k+4)) t H (.a 65 (.B (.v (.n (.c (.a 66) 16) (.a 73)) 23 (.a (.a 56) .b)) [73] (.a (.c (.a 72) 3)) .b Do)) .a t D:=by
    refine fO (LC (f:=sz t a) w.b U λc hc=>?_) rfl;have J:iS Do H [73] [.a c] 66=d9 (.b .c):=congrArg (kH eD.e) w.e;have aa:iS Do H [73] [.a c] 56=d9 (.a a):=congrArg (kH eD.e) w.c;exact iL (iG h.f J (fu (n:=c) rfl) (h.d n W c hc).1) (eV (fu aa) fJ) rfl (mJ (k:=k+3))
   have v:=hd n W q;have i:=OY (d:=dd eb (k+4)) (t:=t) S M ((hs n W).resolve_left q);have br:∃F',SF n a G (sz t a n) F'∧Ex (dd eb (k+4)) t D IX .a t F':=by
    by_cases c:fA (t.a n).b=a
    ·rw[if_pos c] at v
     rw[decide_eq_true c] at i;have e:=lX (a:=a) h.e W;rw[if_neg q,if_pos c] at e;have R:∀x∈(t.a n).a.map (λc=>o a c-LL t T a c),0≤x∧x≤8000:=λx Z=>by
      (refine fP Z λc hc V=>?_;(clear Z;obtain rfl:=V))
      have O:=(h.d n W c hc).1;have:=P c O;have:=qX (a:=a) h.e O;lia
     have hw:∀x∈(t.a n).a.map (λc=>o a c-LL t T a c),0≤x∧iZ x:=λx Z=>by have:=R x Z;unfold iZ;lia
     have C:((t.a n).a.map λc=>o a c-LL t T a c).length=((t.a n).a.map (LL t T a)).length:=by rw[fC,fC]
     have p:((t.a n).a.map (LL t T a)).length≤60:=by rw[fC];exact U
     have ak:(t.a n).a.map (LL t T a)≠[]:=λr=>ne (ny.1 r);have aq:=Jd λx Z=>(R x Z).2;have zn:=ag n W;have aj:=qX (a:=a) h.e W;rw[e] at zn aj;have av:=w9 λx Z=>(R x Z).1;have au:iZ (((t.a n).a.map λc=>o a c-LL t T a c).sum):=by
      rw[C] at aq;have:(((t.a n).a.map (LL t T a)).length:Int)*8000≤60*8000:=Int.mul_le_mul_of_nonneg_right (by lia) (by decide);unfold iZ;lia
     have tN:iZ (mI ((t.a n).a.map λc=>o a c-LL t T a c) ((t.a n).a.map (LL t T a))):=by
      unfold mI
      split
      ·unfold iZ;lia
      ·exact au
     let Q:Fr:=eL D 76 (.c eb (eF ((t.a n).a.map (LL t T a))));let b:Fr:=eL Q 84 (.c eb (eF ((t.a n).a.map λc=>o a c-LL t T a c)));have f4:SF n a G (sz t a n) Q:=⟨rfl,rfl,rfl,rfl,rfl,rfl⟩;have r1:Ex (dd eb (k+4)) t D (.a 76 Ci) .a t Q:=fO (HI h W S.e S.c S.b λc hc=>HF h hs M (h.d n W c hc).1 (k+4) (by have:=(h.d n W c hc).2;lia)) rfl;have r2:Ex (dd eb (k+4)) t Q (.a 84 Dc) .a t b:=fO (OW (k:=k+4) f4 M rfl U (λc hc=>hk c (h.d n W c hc).1) rfl) rfl;have s:Ev (dd eb (k+4)) t b (.h lh (.w 1 (.a 84)) (.d 0)) (.d (eU (0<((t.a n).a.map λc=>o a c-LL t T a c).sum))) t:=EQ (jN (fg rfl) rj) (y:=0) rfl;have ac:∀I o1 o2 z,SF n a G (sz t a n) I->I 65=d9 (.c o1 (eF ((t.a n).a.map (sz t a))))->I 76=d9 (.c o2 (eF ((t.a n).a.map (LL t T a))))->I 84=d9 (.c z (eF (jz ((t.a n).a.map λc=>o a c-LL t T a c) ((t.a n).a.map (LL t T a)))))->Ex (dd eb (k+4)) t b (.a 84 IW) .a t I->∃F',SF n a G (sz t a n) F'∧Ex (dd eb (k+4)) t D IX .a t F':=λI o1 o2 z F f l N r3=>by
      refine eR (U4 (k:=k+4) (t:=t) F f l N v C p hw ak (by lia) (by unfold iZ;lia) tN) λF' u g=>?_;exact(ey F' u (gU i (eG r1 (eG r2 (eG r3 g)))))
     by_cases s0:0<((t.a n).a.map λc=>o a c-LL t T a c).sum
     ·rw[decide_eq_true s0] at s
      have e:jz ((t.a n).a.map λc=>o a c-LL t T a c) ((t.a n).a.map (LL t T a))=((t.a n).a.map λc=>o a c-LL t T a c):=if_neg (by lia);exact ac (eL (λj=>(b j).map eD.e) 84 (.c em (eF ((t.a n).a.map λc=>o a c-LL t T a c)))) em em em ⟨rfl,rfl,rfl,rfl,rfl,rfl⟩ rfl rfl (e.symm▸rfl) (LD (lU s (fg (v:=.c eb (eF ((t.a n).a.map λc=>o a c-LL t T a c))) rfl)) rfl)
     ·rw[decide_eq_false s0] at s
      have e:jz ((t.a n).a.map λc=>o a c-LL t T a c) ((t.a n).a.map (LL t T a))=iJ ((t.a n).a.map (LL t T a)).length 1:=if_pos (by lia);have ln:Ev (dd eb (k+4)) t b (.w 0 (.a 84)) (.a ((t.a n).a.map (LL t T a)).length) t:=by
       have:=jN (d:=dd eb (k+4)) (t:=t) (F:=b) (fg (i:=84) rfl) (sG (Q:=eb) (z:=eF ((t.a n).a.map λc=>o a c-LL t T a c)) rfl rfl (by rw[gB,C];lia));rwa [gB,C] at this
      have mu:=CO (x:=1) (n:=(((t.a n).a.map (LL t T a)).length:Int)) (by lia) (by lia);rw[DJ] at mu;exact ac (eL b 84 (.c eb (eF (iJ ((t.a n).a.map (LL t T a)).length 1)))) eb eb eb ⟨rfl,rfl,rfl,rfl,rfl,rfl⟩ rfl rfl (e.symm▸rfl) (fO (lT s (hZ (qN (eV (v:=.a 1) rfl fJ) rfl (iO rfl)) ln mu)) rfl)
    ·rw[if_neg c] at v
     rw[decide_eq_false c] at i;refine(ey D S (jj i (eG (gU (gG (EO (lL (fg rfl)) (kP rfl) (by rw[fC,gB,fC];lia) λr E=>?_) (qN fJ rfl (pL _)) RC) fp) fp)))
     (refine fP E λy B X=>?_;(clear E;obtain rfl:=X))
     (refine fP B λx Z d=>?_;(clear B;obtain rfl:=d))
     (refine fP Z λc hc e5=>?_;obtain rfl:=e5)
     have af:iS Jk D [101] [.a (sz t a c)] 57=d9 (.a (sz t a n)):=congrArg (kH eD.e) S.d;exact si (lV (x:=sz t a c) (fu rfl) (fu af) (v c hc))
   refine eR br λF' u m=>?_;have rr:Ex (dd eb (k+4)) t F' Ur (.b (.d eb)) t F':=by
    refine i7 (gG (v:=.c eb []) (u:=.c eb []) (EO (lL (gv (i4 u.b) rfl)) (kP jL) (by rw[fC,gB];lia) λr E=>?_) (qN fJ rfl (pL _)) rfl) rfl
    (refine fP E λy B e6=>?_;(clear E;obtain rfl:=e6))
    (refine fP B λc hc e7=>?_;(clear B;obtain rfl:=e7))
    have J:iS z8 F' [73] [.a c] 66=d9 (.b .c):=congrArg (kH eD.e) u.e;have aa:iS z8 F' [73] [.a c] 56=d9 (.a a):=congrArg (kH eD.e) u.c;have ae:iS z8 F' [73] [.a c] 100=d9 (.g em G):=congrArg (kH eD.e) u.f;have:=ih c hc k (by have:=(h.d n W c hc).2;lia);exact si (yf (b:=eb) (gI (eV (ip J) (eV (fu (n:=c) rfl) (eV (fu aa) (eV (fg ae) fJ)))) this))
   have:f7 (dd eb (k+4)) t Y vL (.b (.d eb)) t F':=eG s1 (eG (gU (decide_eq_false q▸my rfl) fp) (eG s3 (eG s4 (eG m (iq rr)))));exact congrArg gP this
theorem BH{P:Int->Int×Int}(h:Ok t T)(W:n∈t.b):LL (gz t P) T a n=LL t T a n:=yA h.e h.ac.e W λx Z=>⟨j7 h.e W x Z,rfl,rfl⟩
theorem Dn.h(c:Dn t T a z A x):Dn (f8 t b y) T a z A x:=by
 intro s;have P:((Internal.f8 t b y).a x).b=(t.a x).b:=m7;have V:((Internal.f8 t b y).a x).a=(t.a x).a:=nW;rw[P,V,show LL (Internal.f8 t b y) T a=LL t T a from funext λm=>qY];exact c (P▸s)
theorem Dn.k{P:Int->Int×Int}(b:Dn t T a z A x)(F:Ok t T)(Z:x∈t.b):Dn (gz t P) T a z A x:=by
 intro s;have e:=b s;show if fA (t.a x).b=a then(t.a x).a.map A=kf (A x) ((t.a x).a.map λc=>z c-LL (Internal.gz t P) T a c) ((t.a x).a.map (LL (Internal.gz t P) T a)) else∀c∈(t.a x).a,A c=A x;rwa [kh (f:=LL (Internal.gz t P) T a) λc X=>BH F (F.d x Z c X).1,kh (f:=λc=>z c-LL (Internal.gz t P) T a c) λc X=>by rw[BH F (F.d x Z c X).1]]
theorem ID(h:Gx t T 0 0)(M:Ax a)(d:LL t T a t.d≤s)(K:s≤100){k:Nat}:∃A,gF eb (k+3) 24 [.b .c,.a t.d,.a a,.a s] t=d9 (.b .e,f8 t a A)∧A t.d=s∧Gx (f8 t a A) T 0 0∧∀x∈t.b,Dn t T a (sz t a) A x:=by
 refine f5 (IV (k:=k) h.y h.h d (jY K (by decide)) λx Z=>⟨h.U M (j7 h.e h.h x Z),jY (h.W M (j7 h.e h.h x Z)) (by decide)⟩) λA g P o=>?_;have L:=λx Z=>o.d t.d (lS _) x (h.aa Z);refine(lP A g P ({ h.O.af M (λn W s=>?_) (by rw[P];exact K) with u:=λb j n W=>GX M j (λU=>h.u b j n W) λs=>GW h.y W (λy B=>h.U M (h.d n W y B).1) (L n W).1 (L n W).2.2 s }) (λx Z=>(L x Z).2.2));have:=(L n W).1;rw[lX h.e W,if_pos s] at this;exact this
noncomputable abbrev Tj:eW:=.D jw (.a (.h lj (.a 59) (.j 22 (.a (.a 66) (.a (.c (.a 66) 21) (.a (.x 13) .b))))) (.a (.h lj (.a 60) (.j 22 (.a (.a 66) (.a (.c (.a 66) 21) (.a (.x 14) .b))))) .b))
abbrev wX(E z:Int):Fr:=fh [66,59,60] [.b .c,.a E,.a z]
theorem IJ{E z:Int}{k:Nat}(h:Gx t T q r):Ev (dd eb (k+2)) t (wX E z) Tj (.d (eU (E<LL t T 0 t.d)||eU (z<LL t T 1 t.d))) t:=by
 have d:Ev (dd eb (k+2)) t (wX E z) (.c (.a 66) 21) (.a t.d) t:=ji (f:=5) (v:=.a t.d) rfl rfl h.f;exact ER (gG (v:=.a E) (fu rfl) (gI (eV (ip rfl) (eV d (eV (v:=.a 0) rfl fJ))) (zx h.y h.h (k:=k))) rfl)
  (gG (v:=.a z) (fu rfl) (gI (eV (ip rfl) (eV d (eV (v:=.a 1) rfl fJ))) (zx h.y h.h (k:=k))) rfl)
theorem Tf{E z:Int}{k:Nat}(h:Gx t T 0 0)(K:LL t T 0 t.d≤E∧E≤100)(I:LL t T 1 t.d≤z∧z≤100):
  ∃O,gF eb (k+4) 26 [.b .c,.a E,.a z] t=d9 (.b .e,O)∧Gx O T 0 0∧Po O∧Kp g t O∧(sz O 0 O.d=E∧sz O 1 O.d=z)∧O.b=t.b∧∀a,Ax a->∀x∈t.b,Dn O T a (sz t a) (sz O a) x∧LL O T a x=LL t T a x:=by
 refine nU (ID (k:=k) h (eH rfl) K.1 K.2) λC Y f o J=>?_;refine nU (ID (k:=k) o (eI rfl) (show LL (f8 t 0 C) T 1 t.d≤z from qY.symm▸I.1) I.2) λD p P L q=>?_;refine eR (C4 (k:=k+1) L) λb e u=>?_;have S:∀m,sz (gz (f8 (f8 t 0 C) 1 D) b) 0 m=C m:=λm=>by rw[C5,xc (eI rfl) (eH rfl) (by decide),rF]
 have c:∀m,sz (gz (f8 (f8 t 0 C) 1 D) b) 1 m=D m:=λm=>by rw[C5,rF]
 have j:sz (f8 t 0 C) 1=sz t 1:=funext λm=>xc (eH rfl) (eI rfl) (by decide);have i:Kp g (f8 (f8 t 0 C) 1 D) (gz (f8 (f8 t 0 C) 1 D) b):=⟨λU Z U U=>Z,λx Z=>eH ⟨Z,rfl,rfl⟩,ja _,λx Z=>(L.g x Z).2,rfl,rfl,rfl,rfl⟩;refine(Co _ ?_ L.Z u (((zP λx Z=>(h.g x Z).2).f (zP λx Z=>(o.g x Z).2)).f i) ⟨(S _).trans f,(c _).trans P⟩ ⟨rfl,(λa M x Z=>⟨?_,?_⟩)⟩)
 ·rw[iB (M:=[66,59,60]) (b:=vP) (by decide) rfl rfl]
  have s:=IJ (E:=E) (z:=z) (k:=k+1) h;rw[decide_eq_false (tq.2 K.1),decide_eq_false (tq.2 I.1)] at s;have d:∀t:eB,t.g=7->Ev (dd eb (k+3)) t (wX E z) (.c (.a 66) 21) (.a t.d) t:=λt G=>ji (f:=5) (v:=.a t.d) rfl rfl G;have:f7 (dd eb (k+3)) t (wX E z) vP .a (gz (f8 (f8 t 0 C) 1 D) b) (wX E z):=
   eG (gU s fp) (eG (j5 (gI (eV (ip rfl) (eV (d t h.f) (eV (v:=.a 0) rfl (eV (fu (n:=E) rfl) fJ)))) Y)) (eG (j5 (gI (eV (ip rfl) (eV (d (f8 t 0 C) h.f) (eV (v:=.a 1) rfl (eV (fu (n:=z) rfl) fJ)))) p)) (eG (j5 (gI (eV (ip rfl) fJ) e)) fp)))
  exact congrArg gP this
 ·rcases M with rfl|rfl
  ·rw[show sz (gz (f8 (f8 t 0 C) 1 D) b) 0=C from funext S];exact(((J x Z).h (b:=0) (y:=C)).h (b:=1) (y:=D)).k L.y Z
  ·rw[show sz (gz (f8 (f8 t 0 C) 1 D) b) 1=D from funext c,←j];exact((q x Z).h (b:=1) (y:=D)).k L.y Z
 ·exact(BH L.y Z).trans (qY.trans qY)
def o9(n:Nat)(x:eT):Prop:=∃q,pd x=d9 q∧q.canLay0=eb∧q.depth≤n
theorem v7{n:Nat}:∀{l:List eT},(∀x∈l,o9 n x)->o9 (n+1) (.f l):=λ{l} h=>by
 have:∃q,kO l=d9 q∧Ei q=eb∧Ej q≤n:=by
  induction l with
  |nil=>exact(fQ ([]) rfl rfl (pL _))
  |cons x r D=>
   refine f5 (h x (gp ..)) λq K I W=>?_;refine f5 (D λy B=>h y (gC _ B)) λj L T a=>?_;refine(fQ (q::j) ?_ ?_ ?_)
   ·show(pd x).bind _=_;rw[K];show(kO r).map _=_;rw[L];rfl
   ·show(_&&_)=eb;rw[I,T];rfl
   ·exact Nat.max_le.2 ⟨W,a⟩
 refine f5 this λq K I W=>?_;exact(fQ (xT q) (by show(kO l).map _=_;rw[K];rfl) I (D9 W))
theorem pf{n:Nat}{i:Int}:o9 n (.a i):=(fQ (mo i) rfl rfl (pL _))
theorem v6{n:Nat}{l:List Int}:o9 (n+1) (.f (eF l)):=v7 λx Z=>by(refine fP Z λy U P=>?_;(clear Z;obtain rfl:=P));exact pf
theorem HY{l:List eT}{n:Nat}(h:o9 n (.f l))(a:n≤500):mU t gd (.b (.f l)) (.b (.f l))=d9 false:=by
 refine f5 h λq K I W=>?_;show(yZ (pd (.f l)) (pd (.f l))).map _=_;rw[K];show(if min q.depth q.depth≤500 then d9 (AY q q) else eh).map _=_;rw[if_pos (by lia),SeqAt.eqv_refl q I];rfl
theorem OJ(h:Sh t T)(W:n∈t.b):o9 (2*T n+2) (ND t T n):=by
 refine h.M (P:=λn=>o9 (2*T n+2) (ND t T n)) ?_ W;intro n W D;rw[FE h W];have Z:∀{a b:Nat} {x:eT},a≤b->o9 a x->o9 b x:=λl Y=>f5 Y λq K I d=>⟨q,K,I,im d l⟩
 split
 ·exact v7 (gV pf (gV pf (gV pf (gV (v6 (l:=[_,_,_,_])) (gV (fQ (.bool em) rfl rfl (pL _)) (gV pf (gV (v6 (l:=[])) (gV (v6 (l:=[])) lZ))))))))
 ·refine v7 (gV pf (gV pf (gV pf (gV pf (gV (v7 λy B=>?_) lZ)))))
  (refine fP B λc X V=>?_;(clear B;obtain rfl:=V))
  exact Z (by have:=(h.d n W c X).2;lia) (D c X)
theorem OF(h:Gx t T q r):o9 (2*T t.d+3) (CF t T):=v7 (gV (v6 (l:=[_,_])) (gV (OJ h.e h.h) (gV pf lZ)))
noncomputable def li:List Int->Int->Int
 |[],_=>0
 |z::r,x=>if x=z then r.length+1 else li r x
theorem Q8:∀(R:List Int) (x:Int),0≤li R x∧li R x≤R.length:=by
 intro N
 induction N with
 |nil=>
  intro U;exact⟨ja 0,ja 0⟩
 |cons z r D=>
  intro x;have:=D x;show 0≤(if x=z then(r.length:Int)+1 else li r x)∧(if x=z then(r.length:Int)+1 else li r x)≤((r.length+1:Nat):Int)
  split<;>lia
theorem HL:∀{R:List Int} {x:Int},x∉R->li R x=0:=by
 intro N
 induction N with
 |nil=>
  intro U U;exact rfl
 |cons z r D=>
  intro x h;exact(if_neg λ(e:x=z)=>h (e▸gp ..)).trans (D λq=>h (gC _ q))
theorem Q9{a:Int->Bool}{z:Int}{l:List Int}:∀{R:List Int},R.filter a=z::l->∀x,a x=eb->x≠z->li R x<li R z:=by
 intro N
 induction N with
 |nil=>
  intro h U U U;exact nL h
 |cons y r D=>
  intro h x Z E;have o:a z=true:=(lH.1 (h▸gp (a:=z) (l:=l))).2;by_cases I:a y=eb
  ·rw[xy I] at h
   (refine fe (Ww h) λP U=>?_;(clear h o;obtain rfl:=P))
   have:=(Q8 r x).2;rw[show li (y::r) x=li r x from if_neg E,show li (y::r) y=r.length+1 from if_pos rfl];lia
  ·rw[Kw I] at h
   rw[show li (y::r) x=li r x from if_neg λ(e:x=y)=>I (e▸Z),show li (y::r) z=li r z from if_neg λ(e:z=y)=>I (e▸o)];exact D h x Z E
structure Us(t:eB)(R:List Int):Prop where
 d:t.l=R.length
 b:∀u∈R,u≤t.c
 c:∀u∈R,u∈t.b->(t.a u).b=0
 a:∀x∈t.b,(t.a x).b=0->(t.a x).f=li R x
theorem Us.h(h:Us t R)(k:Kp g t O):Us O R where
 d:=k.i.trans h.d
 b u a:=jY (h.b u a) k.h
 c u a M:=by
  rcases k.a u M with ⟨K,s,_⟩ |⟨l,_⟩
  ·exact s.trans (h.c u a K)
  ·exact absurd (h.b u a) (rH.2 l)
 a x Z s:=by
  rcases k.a x Z with ⟨K,e,u⟩ |⟨l,u⟩
  ·exact u.trans (h.a x K (e.symm.trans s))
  ·rw[u,HL λq=>absurd (h.b x q) (rH.2 l)]
theorem Rt{z:Int}:∀(l:List Int) (f:Int),(z=f∨z∈l)->(∀x,x=f∨x∈l->x≠z->(t.a x).f<(t.a z).f)->md t f l=z:=by
 intro N
 induction N with
 |nil=>
  intro f h U;exact(h.resolve_right iI).symm
 |cons n r D=>
  intro f h m;show md t (if _ then n else f) r=z;by_cases q:(t.a f).f<(t.a n).f
  ·rw[if_pos q]
   refine D n ?_ λx Z=>m x (eI (Z.elim (λe=>e▸gp ..) (gC _)));rcases h with rfl|h
   ·by_cases e:n=z
    ·exact eH e.symm
    ·exact absurd (m n (eI (gp ..)) e) (by lia)
   ·exact gy.1 h
  ·rw[if_neg q]
   refine D f ?_ λx Z=>m x (Z.imp id (gC _));rcases h with e|h
   ·exact eH e
   ·rcases gy.1 h with rfl|h
    ·by_cases e:f=z
     ·exact eH e.symm
     ·exact absurd (m f (eH rfl) e) q
    ·exact eI h
theorem Ru:∀(l:List Int) (f:Int),(t.a f).f=0->(∀x∈l,(t.a x).f=0)->md t f l=f:=by
 intro N
 induction N with
 |nil=>
  intro f U U;exact rfl
 |cons n r D=>
  intro f h m;show md t (if _ then n else f) r=f;rw[if_neg (by rw[h,m n (gp ..)];exact Int.lt_irrefl 0)];exact D f h λx Z=>m x (gC _ Z)
noncomputable def mC(t:eB)(x:Int):Bool:=eU (x∈t.b)
theorem HU(h:Gx t T q r)(g:Us t R):oA t T=((R.filter (mC t)).head?).getD ((iW t T).headD 0):=by
 refine sZ h λm l d=>?_;have X:∀x,x∈m::l↔x∈t.b∧(t.a x).b=0:=λx=>d▸sY h;unfold oA;rw[d];show md t m (m::l)=_;cases e:R.filter (mC t) with
 |nil=>
  have z:∀x∈m::l,(t.a x).f=0:=λx Z=>by
   refine fe ((X x).1 Z) λK I=>?_;rw[g.a x K I];exact HL λq=>absurd (lH.2 ⟨q,decide_eq_true K⟩) (e▸iI)
  exact Ru _ m (z m (gp ..)) z
 |cons z r=>
  have P:=lH.1 (e▸gp (a:=z) (l:=r));have o:=of_decide_eq_true P.2;have N:=g.c z P.1 o;refine Rt _ m (eI ((X z).2 ⟨o,N⟩)) λx Z E=>?_;refine fe ((X x).1 (Z.elim (λe=>e▸gp ..) id)) λK I=>?_;show(t.a x).f<(t.a z).f;rw[g.a x K I,g.a z o N];exact Q9 e x (decide_eq_true K) E
theorem Rv(h:Gx t T q r)(g:Us t R):oA t T∈t.b∧(t.a (oA t T)).b=0:=by
 rw[HU h g];cases e:R.filter (mC t) with
 |nil=>
  refine sZ h λm l d=>?_;have:m∈iW t T:=by rw[d];exact gp ..
  rw[d];exact(sY h).1 this
 |cons z r=>
  have P:=lH.1 (e▸gp (a:=z) (l:=r));exact⟨of_decide_eq_true P.2,g.c z P.1 (of_decide_eq_true P.2)⟩
structure Lw(t:eB)(R:List Int)(A:Nat)(B:Int):Prop where
 d:∃rk,Gx t rk 0 0
 c:t.i∈t.b
 g:(t.a t.i).b=0
 e:Us t R
 i:0≤t.e
 a:t.e≤B
 h:t.k.length≤100
 b:t.b.length≤A
theorem Gx.ab(h:Gx t T q r)(x:Int):Gx { t with e:=x } T q r:=
 { d:=h.d,k:=h.k,m:=h.m,f:=h.f,j:=h.j,i:=h.i,h:=h.h,o:=h.o,g:=h.g,C:=h.C,D:=h.D,B:=h.B,v:=h.v,A:=h.A,x:=h.x,z:=h.z,u:=h.u }
theorem Gx.ak(h:Gx t T q r)(x:Int):Gx { t with i:=x } T q r:=
 { d:=h.d,k:=h.k,m:=h.m,f:=h.f,j:=h.j,i:=h.i,h:=h.h,o:=h.o,g:=h.g,C:=h.C,D:=h.D,B:=h.B,v:=h.v,A:=h.A,x:=h.x,z:=h.z,u:=h.u }
theorem Us.f(h:Us t R)(x:Int):Us { t with e:=x } R:=⟨h.d,h.b,h.c,h.a⟩
theorem Us.k(h:Us t R)(x:Int):Us { t with i:=x } R:=⟨h.d,h.b,h.c,h.a⟩
theorem Lw.k{A:Nat}{B:Int}(h:Lw t R A B):Lw { t with e:=t.e+1 } R A (B+1):=
 let⟨T,g⟩ :=h.d;⟨⟨T,g.ab _⟩,h.c,h.g,h.e.f _,by have:=h.i;show 0≤t.e+1;lia,by have:=h.a;show t.e+1≤_;lia,h.h,h.b⟩
theorem SU(h:E.a=t.a):∀k n,ta E k n=ta t k n:=by
 intro N
 induction N with
 |zero=>
  intro U;exact rfl
 |succ k D=>
  intro n;show n::((E.a n).a.flatMap (ta E k))=_;rw[h,funext (D)];rfl
theorem Rk(h:E.a=t.a)(a:E.d=t.d):iW E T=iW t T:=by
 unfold iW PP nR;rw[SU h,h,a]
theorem wx(h:Gx t T q r){k:Nat}:gF eb (k+2) 18 [.b .c] t=d9 (.c eb (eF (iW t T)),t):=by
 rw[iB (M:=[66]) (b:=yP) (by decide) rfl rfl];have:f7 (dd eb (k+1)) t (fh [66] [.b .c]) yP (.b (.c eb (eF (iW t T)))) t _:=iq (i7 (gI (eV (ip rfl) (eV (ji (f:=5) (v:=.a t.d) rfl rfl h.f) fJ)) (HP h)) rfl);exact congrArg gP this
theorem P3{m:Int}{k:Nat}(D:F 98=d9 .h)(Y:0<m)(d:0≤t.e)(K:t.e≤10000)(C:t.k.length≤100)(h:Ev (dd eb (k+1)) t F e (.a m) t):
  ∃r,Ev (dd eb (k+1)) t F (.j 39 (.a (.a 98) (.a e .b))) (.a r) { t with e:=t.e+1 }∧0≤r∧r<m:=by
 refine eR (P4 (k:=k) Y d K C) λr g b=>?_;exact(ey r (gI (eV (fg (v:=.h) D) (eV h fJ)) g) b)
theorem v8{m:Int}{k:Nat}(D:F 98=d9 .h)(Y:0<m)(d:0≤t.e)(K:t.e≤10000)(C:t.k.length≤100)(h:Ev (dd eb (k+1)) t F e (.a m) t){G:Prop}(N:∀r,Ev (dd eb (k+1)) t F (.j 39 (.a (.a 98) (.a e .b))) (.a r) { t with e:=t.e+1 }->0≤r->r<m->G):G:=f5 (P3 D Y d K C h) N
theorem UR{n:Int}{z:List eT}{o:Bool}:m9 t (.c o z) (.a n)=pq z n:=rfl
theorem SO{l:List Int}{o:Bool}{r:Int}(d:0≤r)(K:r<l.length)(C:l.length≤900):∃x∈l,m9 t (.c o (eF l)) (.a r)=d9 (.a x):=by
 (refine fL (Kq d) λi V=>?_;(clear d;obtain rfl:=V))
 have D:i<l.length:=by lia
 refine(ey (l[i]) (uH D) ?_);rw[UR];have e:(eF l)[i]? =d9 (.a l[i]):=by rw[lF,jF D,KR]
 exact Hh e (by lia)
theorem zO{l:List Int}{o:Bool}{r:Int}(d:0≤r)(K:r<l.length)(C:l.length≤900){G:Prop}(N:∀x,(x∈l)->m9 t (.c o (eF l)) (.a r)=d9 (.a x)->G):G:=eR (SO d K C) N
theorem HE{z:Int}{r:List Int}{o:Bool}(C:r.length≤900):m9 t (.c o (eF (z::r).reverse)) (.a (-1))=d9 (.a z):=by
 have:m9 t (.c o (eF (z::r).reverse)) (.a (-1))=pq (eF (z::r).reverse) (-1):=rfl;rw[this];unfold pq;rw[if_neg (by decide),if_pos ⟨by rw[gB,n9,lG];lia,by decide⟩,gB,n9,lG,show((-1:Int)+(r.length+1:Nat)).toNat=r.length by lia,oh,←oM,List.getElem?_append_right (by rw[gB,n9];exact ig _),gB,n9,Xa];rfl
theorem OM{W:List Int}(h:E.a=t.a):∀{p q:Int},Sq t a p W q->Sq E a p W q:=by
 induction W with
 |nil=>exactλh=>h
 |cons c r D=>intro p q ⟨K,I⟩;unfold pl sz at*;rw[←h] at K I;exact⟨K,D I⟩
theorem Po.f(h:Po t)(x:Int):Po { t with i:=x }:=⟨h.c,h.b,λn W=>⟨(h.a n W).a,λs=>let f:=(h.a n W).b s;⟨f.b,f.d,OM (t:=t) (E:={ t with i:=x }) rfl f.a⟩⟩⟩
noncomputable abbrev GO:eW:=.C (.h fZ (.j 39 (.a (.a 98) (.a (.d 2) .b))) (.d 0)) (.c (.a 66) 22) (.n (.a 65) (.j 39 (.a (.a 98) (.a (.w 0 (.a 65)) .b))))
theorem RP{k:Nat}{A:Nat}{B:Int}(h:Lw t R A B)(i:B≤9000)(g:Gx t T 0 0)(U:F 66=d9 (.b .c))(K:F 98=d9 .h)(J:F 65=d9 (.c eb (eF (iW t T)))):
  ∃n x,Ev (dd eb (k+1)) t F GO (.a n) { t with e:=x }∧n∈t.b∧(t.a n).b=0∧t.e≤x∧x≤t.e+2:=by
 have:=h.i;have:=h.a;refine v8 (e:=.d 2) (k:=k) K (by decide) h.i (by lia) h.h rfl λr q u Z=>?_;by_cases c:r=0
 ·exact(zf t.i (t.e+1) (lU (nE (y:=0) q rfl c) (ji (t:={ t with e:=t.e+1 }) (f:=6) U rfl g.f)) h.c h.g (by lia) (by lia))
 ·refine sZ g λm l d=>?_
  have p:(iW t T).length≤60:=im (qC ..) (im (oW g.l g.h) g.j);have D:0<(iW t T).length:=by rw[d];exact Nat.succ_pos _
  have O:Ev (dd eb (k+1)) { t with e:=t.e+1 } F (.w 0 (.a 65)) (.a (iW t T).length) { t with e:=t.e+1 }:=by
   have:=jN (d:=dd eb (k+1)) (t:={ t with e:=t.e+1 }) (fg J) (sG (Q:=eb) (z:=eF (iW t T)) rfl rfl (by rw[gB];lia));rwa [gB] at this
  refine v8 (t:={ t with e:=t.e+1 }) (k:=k) K (by lia) (by show 0≤t.e+1;lia) (by show t.e+1≤_;lia) h.h O λL I j Y=>?_;refine zO (t:={ t with e:=t.e+1+1 }) (o:=em) j Y (by lia) λn W N=>?_;refine fe ((sY g).1 W) λM f=>?_;exact(zf n (t.e+1+1) (lT (oq (y:=0) q rfl c) (jh (fg J) I N)) M f (by lia) (by lia))
noncomputable abbrev z7:List (Nat×fX):=[(48,eu),(101,eu),(66,gb)]
abbrev GN:eW:=.B (.a 101) [101] (.a (.a 103)) (.a (.h oj (.a 101) (.c (.a 66) 16)) .b) z7
theorem Q0{k:Nat}{l:List Int}{o:Bool}(G:t.g=7)(U:F 66=d9 (.b .c))(W:F 103=d9 (.c o (eF l)))(C:l.length≤900):Ev (dd eb k) t F GN (.c eb (eF (l.filter (mC t)))) t:=by
 have:=Ba (d:=dd eb k) (t:=t) (F:=F) (T:=.a 101) (W:=[101]) (N:=.a (.a 103)) (a:=.a (.h oj (.a 101) (.c (.a 66) 16)) .b) (Y:=z7) (L:=(eF l).map λx=>[x])
  (r1 em λc=>mC t c) (r1 .e λc=>.a c) (lL (fg W)) (kP rfl) (by rw[fC,gB];lia) ?_ ?_
 ·rw[gJ,Kx,gJ] at this;exact this
 ·intro r E
  (refine fP E λy B P=>?_;(clear E;obtain rfl:=P))
  (refine fP B λc b V=>?_;(clear B;obtain rfl:=V))
  have J:iS z7 F [101] [.a c] 66=d9 (.b .c):=congrArg (kH eD.e) U;have P:Ev (dd eb k) t (iS z7 F [101] [.a c]) (.h oj (.a 101) (.c (.a 66) 16)) (.d (mC t c)) t:=gG (v:=.a c) (u:=.j) rfl (ji (f:=0) J rfl G) rfl;cases q:mC t c with
  |true=>rw[q] at P;exact(vz P rfl).trans (by show _=d9 (mC t c,t);rw[q])
  |false=>rw[q] at P;exact(si P).trans (by show _=d9 (mC t c,t);rw[q])
 ·intro r E _
  (refine fP E λy B X=>?_;(clear E;(clear a;obtain rfl:=X)))
  (refine fP B λc b d=>?_;obtain rfl:=d)
  exact fu rfl
theorem QD{k:Nat}{A:Nat}{B:Int}(h:Lw t R A B)(hB:B≤9000)(hR:R.length≤900):∃O,gF eb (k+5) 43 [.h,.b .c,.c em (eF R.reverse)] t=d9 (.d eb,O)∧Lw O R A (B+2):=by
 refine fL h.d λT G=>?_;rw[iB (M:=[98,66,103]) (b:=uc) (by decide) rfl rfl];let Y:Fr:=fh [98,66,103] [.h,.b .c,.c em (eF R.reverse)];let K:Fr:=eL Y 65 (.c eb (eF (iW t T)));refine oE (RP (k:=k+3) (F:=K) h hB G rfl rfl rfl) λn x dn na ns x0 x1=>?_;have aD:=h.i;have aE:=h.a;let E:eB:={ t with e:=x };have W:Gx E T 0 0:=G.ab x;have J:Lw E R A (B+2):=⟨⟨T,W⟩,h.c,h.g,h.e.f x,by show 0≤x;lia,by show x≤_;lia,h.h,h.b⟩;let H:Fr:=eL K 53 (.a n);let D:Fr:=eL H 72 (.b (.d n));have r1:Ex (dd eb (k+4)) t Y (.a 65 (.j 18 (.a (.a 66) .b))) .a t K:=fO (gI rfl (wx (k:=k+2) G)) rfl;have L:Ex (dd eb (k+4)) t K (.a 53 GO) .a E H:=fO dn rfl;have r3:Ex (dd eb (k+4)) E H (.a 72 (.n (.c (.a 66) 16) (.a 53))) .a E D:=fO (iG W.f rfl rfl na) rfl;have P:Ev (dd eb (k+4)) E D (.c (.a 72) 2) (.a (t.a n).c) E:=gv rfl rfl;by_cases nr:n=t.d
 ·have:f7 (dd eb (k+4)) t Y uc (.b (.d eb)) E D:=eG r1 (eG L (eG r3 (iq (jj (nE (y:=0) P rfl (nr▸G.o)) (iq (i7 rfl rfl))))))
  exact(ey E (congrArg gP this) J)
 ·refine W.N n na nr λpa r=>?_
  refine fe (Ir W na nr) λo1 o2=>?_
  (refine uq (PS (k:=k) W na ns nr) λS au g u N aw g5=>?_;refine gY g5 λso aG la=>?_)
  have f:=λ(F:Fr) i j=>Iq (d:=dd eb (k+4)) (F:=F) (i:=i) (j:=j) W na nr;have p0:(t.a n).c≠0:=λe=>by have:=(W.g _ pa).1;have e:(E.a n).c=0:=e;lia
  have kl:=im (ly W.l pa) W.j;have sp:(E.a (E.a n).c).b≠0:=λs=>by rw[(W.i _ pa).1 s] at r;cases r
  have oa:=(W.d _ pa _ o1).1;let p:=(E.a n).c;let o:=nT E n;let a:=vA E n;let ix:Nat:=(E.a p).a.idxOf n;let af:=sz E a o+sz E a n;let Q:Fr:=eL D 92 (.b (.d p));let b:Fr:=fV Q [82,56] [.a ix,.a a];let F6:Fr:=eL b 96 (.b (.d o));let X:Fr:=fV F6 [106,105] [.a t.i,.a af];have r5:Ex (dd eb (k+4)) E D (.a 92 (.n (.c (.a 66) 16) (.c (.a 72) 2))) .a E Q:=fO (iG W.f rfl P pa) rfl;have ea:Ev (dd eb (k+4)) E Q (.C (.h fZ (.c (.a 92) 1) (.x 11)) (.x 14) (.x 13)) (.a a) E:=by
   have sa:Ev (dd eb (k+4)) E Q (.c (.a 92) 1) (.a (E.a p).b) E:=gv rfl rfl;rcases(W.B p pa).resolve_left sp with I|I
   ·rw[show a=1 by show fA (E.a p).b=1;rw[I];rfl];exact lU (nE (y:=1) sa rfl I) rfl
   ·rw[show a=0 by show fA (E.a p).b=0;rw[I];rfl];exact lT (oq (y:=1) sa rfl (by rw[I];decide)) rfl
  have r6:Ex (dd eb (k+4)) E Q (.l eb [56,82] (.A (.a (.C (.h fZ (.c (.a 92) 1) (.x 11)) (.x 14) (.x 13)) (.a (.J (.c (.a 92) 3) (.a 53)) .b)))) .a E b:=
   oS (as:=[.a a,.a ix]) rfl (ki (J:=[.a a,.a ix]) (eV ea (eV (Hk r (im kl (by decide)) rfl rfl) fJ)) rfl (iO rfl)) rfl
  have r7:Ex (dd eb (k+4)) E b (.a 96 (.n (.c (.a 66) 16) (.n (.c (.a 92) 3) (.C (.h lh (.a 82) (.d 0)) (.p gS (.a 82) (.d 1)) (.d 1))))) .a E F6:=fO (iG W.f rfl (f b 92 82 rfl rfl).2 oa) rfl;have r8:Ex (dd eb (k+4)) E F6 (.l eb [105,106] (.A (.a (.p io (.v (.a 96) 23 (.a (.a 56) .b)) (.v (.a 72) 23 (.a (.a 56) .b))) (.a (.c (.a 66) 22) .b)))) .a E X:=
   oS (as:=[.a af,.a t.i]) rfl (ki (J:=[.a af,.a t.i]) (eV (hZ (v:=.a (sz E a o)) (u:=.a (sz E a n)) (iL rfl rfl rfl (mJ (k:=k+3))) (iL rfl rfl rfl (mJ (k:=k+3))) rfl) (eV (ji (f:=6) (v:=.a t.i) rfl rfl W.f) fJ)) rfl (iO rfl)) rfl
  let s2:Int:=if t.i=n then oA S T else S.i;let C:eB:={ S with i:=s2 };have U2:Us S R:=(h.e.f x).h N;have Z:Gx C T 0 0:=g.ak s2;have w:S.i=t.i:=N.b;have ac:s2∈S.b∧(S.a s2).b=0:=by
   show(if t.i=n then oA S T else S.i)∈_∧(S.a (if t.i=n then oA S T else S.i)).b=0;by_cases c:t.i=n
   ·rw[if_pos c];exact Rv g U2
   ·rw[if_neg c,w]
    have aa:=N.e t.i h.c h.g c;rcases N.a t.i aa with ⟨_,e,_⟩ |⟨l,_⟩
    ·exact⟨aa,e.trans h.g⟩
    ·exact absurd (G.g _ h.c).2 (rH.2 l)
  have aq:S.b.length≤A:=by
   refine im (CW g.C λy hy=>?_) h.b;rcases N.a y hy with ⟨h1,_⟩ |⟨l,_⟩
   ·exact h1
   ·exact absurd (g.g y hy).2 (by rw[la];exact rH.2 l)
  have L3:Lw C R A (B+2):=⟨⟨T,Z⟩,ac.1,ac.2,U2.k s2,by show 0≤S.e;rw[N.c];exact J.i,by show S.e≤_;rw[N.c];exact J.a,by show S.k.length≤_;rw[N.d];exact h.h,aq⟩;have r9:Ex (dd eb (k+4)) E X (.h (.j 37 (.a (.a 66) (.a (.a 53) .b)))) .a C X:=j5 (gI rfl au);have te:=Z.te (k:=k+1) (u.f s2) ac.1 ac.2;have az:Ex (dd eb (k+4)) C X (.c (.D jw (.a (.h uO (.j 28 (.a (.a 66) .b)) (.F)) (.a (.h oj (.a 53) (.c (.a 66) 16)) .b))) (.a (.g (.I em)) .b) .b) .a C X:=
   gU (pW (jS (gG (v:=.b .e) (u:=.b .e) (gI rfl te) rfl rfl) (jS (gG (v:=.a n) (u:=.j) (fu rfl) (ji (f:=0) rfl rfl Z.f) (congrArg d9 (decide_eq_false aw))) rfl))) fp
  have aj:Ev (dd eb (k+4)) C X (.c (.a 96) 1) (.a (S.a o).b) C:=gv rfl rfl;have aA:Ex (dd eb (k+4)) C X (.c (.D oO (.a (.h fZ (.c (.a 96) 1) (.x 10)) (.a (.h gd (.v (.a 96) 23 (.a (.a 56) .b)) (.a 105)) .b))) (.a (.g (.I em)) .b) .b) .a C X:=by
   refine gU (ye ?_) fp;by_cases c:(S.a o).b=0
   ·exact vz (nE (y:=0) aj rfl c) (si (lV (iL rfl rfl rfl (mJ (k:=k+3))) rfl so))
   ·exact si (oq (y:=0) aj rfl c)
  let lf:=(R.reverse).filter (mC C);let d:Fr:=eL X 86 (.c eb (eF lf));have aB:Ex (dd eb (k+4)) C X (.a 86 GN) .a C d:=fO (Q0 (o:=em) Z.f rfl rfl (by rw[n9];exact hR)) rfl;have aF:Ev (dd eb (k+4)) C d (.c (.a 66) 22) (.a s2) C:=ji (f:=6) (v:=.a s2) rfl rfl Z.f;have ag:∀M,M 66=d9 (.b .c)->Ex (dd eb (k+4)) C d (.c (.h fZ (.a 106) (.a 53)) (.a (.a 106 (.C (.h gd (.a 86) (.z .b)) (.n (.a 86) (.K (.d 1))) (.n (.j 18 (.a (.a 66) .b)) (.d 0)))) .b) .b) .a C M->M 106=d9 (.a s2)->∃O,gP (uc.c (dd eb (k+4)) t Y)=d9 (.d eb,O)∧Lw O R A (B+2):=λM f6 aC av=>by
   have:f7 (dd eb (k+4)) t Y uc (.b (.d eb)) C M:=
    eG r1 (eG L (eG r3 (eG (gU (oq (y:=0) P rfl p0) fp) (eG r5 (eG r6 (eG r7 (eG r8 (eG r9 (eG az (eG aA (eG aB (eG aC
     (iq (i7 (nE (x:=s2) (y:=s2) (ji (f:=6) (v:=.a s2) f6 rfl Z.f) (fu av) rfl) rfl))))))))))))))
   exact(ey C (congrArg gP this) L3)
  have ak:Ev (dd eb (k+4)) C d (.a 106) (.a t.i) C:=fu rfl;by_cases c:t.i=n
  ·have m:s2=((R.filter (mC C)).head?).getD ((iW C T).headD 0):=by
    show(if t.i=n then oA S T else S.i)=_;rw[if_pos c,HU g U2,show iW C T=iW S T from Rk rfl rfl];rfl
   refine ag (eL d 106 (.a s2)) rfl (jj (nE ak rfl c) (eG (fO ?_ rfl) fp)) rfl;have ae:Ev (dd eb (k+4)) C d (.h gd (.a 86) (.z .b)) (.d (!eU (lf=[]))) C:=gG rfl rfl CR;have U:lf=(R.filter (mC C)).reverse:=List.filter_reverse;cases q:R.filter (mC C) with
   |nil=>
    rw[q] at m U;rw[U,show(!eU (([]:List Int).reverse=[]))=em from rfl] at ae;refine sZ Z λaa l el=>?_;rw[el] at m;have lo:=wx (k:=k+2) Z;rw[el] at lo;exact lT ae (jh (v:=.c eb (eF (aa::l))) (u:=.a 0) (gI rfl lo) rfl (by rw[m];rfl))
   |cons z l=>
    rw[q] at m U;have ln:l.length≤900:=by have:=qC (mC C) R;rw[q,lG] at this;lia
    rw(occs:=eO) [decide_eq_false λe=>by rw(occs:=eO) [U,oh] at e;exact absurd (congrArg qB e) (by rw(occs:=eO) [il];exact KQ _)] at ae;have v:Ev (dd eb (k+4)) C d (.a 86) (.c em (eF (z::l).reverse)) C:=U▸fg (v:=.c eb (eF lf)) rfl;exact lU ae (jh v (u:=.a (-1)) rfl (by rw[m];exact HE ln))
  ·exact ag d rfl (gU (oq ak rfl c) fp) (by show d9 (eD.a t.i)=d9 (eD.a (if t.i=n then _ else S.i));rw[if_neg c,w])
noncomputable abbrev BV:Ss:=.a (.a 64 (.v (.a 50) 28 (.a (.x 10) (.a (.d 0) .b)))) (.a (.d (.a 64) 6 (.a 59)) (.a (.d (.a 64) 7 (.a 60)) (.a (.d (.a 64) 8 (.a 61)) (.a (.d (.a 50) 21 (.c (.a 64) 0)) (.a (.d (.a 50) 22 (.c (.a 64) 0)) (.a (.h (.v (.a 50) 31 (.a (.c (.a 64) 0) .b))) .b))))))
noncomputable def w1(E z:Int):gE:=⟨0,0,[],0,0,E,z,1,1,1,0,1⟩
structure T5(t:eB):Prop where
 a:t.g=5
 b:t.b=[]
 d:t.c=0
 c:t.l=0
def ku(t:eB)(E z:Int):eB:={ t.f 1 (w1 E z) with c:=1,b:=[1],l:=1,d:=1,i:=1,g:=7 }
theorem Qv{E z:Int}{k:Nat}(h:T5 t)(Y:F 50=d9 (.b .c))(U:F 59=d9 (.a E))(b:F 60=d9 (.a z))(g:F 61=d9 (.a 1)):∃f,f7 (dd eb (k+4)) t F BV .a (ku t E z) f:=by
 obtain⟨w,p,N,D,X,G,y,R,S,d⟩ :=t;obtain⟨rfl,rfl,rfl,rfl⟩ :=h;let t:eB:=⟨w,0,[],0,X,G,5,R,S,d⟩;let B:=mG t 0 0;let K:Fr:=eL F 64 (.b (.d 1));let O:gE:={ w0 0 with d:=E };let a:gE:={ O with e:=z };let s:gE:={ a with i:=1 };let J:=B.f 1 s;let o:eB:={ J with d:=1,g:=6 };let j:eB:={ o with i:=1,g:=7 };have Z:Ex (dd eb (k+4)) t F (.a 64 (.v (.a 50) 28 (.a (.x 10) (.a (.d 0) .b)))) .a B K:=fO (iL (ip Y) (eV (v:=.a 0) rfl rfl) rfl (Cm (t:=t) (k:=k) (pL _))) rfl;have L:Ex (dd eb (k+4)) B K (.d (.a 64) 6 (.a 59)) .a (B.f 1 O) K:=pX (x:=E) (fu U) rfl (C:=O) ((congrArg (λw:gE=>w.m E 6) (show B.a 1=w0 0 from lQ (t:=t) (m:=1) (w:=w0 0))).trans rfl);have M:Ex (dd eb (k+4)) (B.f 1 O) K (.d (.a 64) 7 (.a 60)) .a (B.f 1 a) K:=by
  rw[←m8 (t:=B) (a:=O) (C:=a)];exact pX (x:=z) (fu b) rfl (by show d9 _=d9 _;rw[lQ])
 have l:Ex (dd eb (k+4)) (B.f 1 a) K (.d (.a 64) 8 (.a 61)) .a (B.f 1 s) K:=by
  rw[←m8 (t:=B) (a:=a) (C:=s)];exact pX (x:=1) (fu g) rfl (by show d9 _=d9 _;rw[lQ])
 have q:Ex (dd eb (k+4)) J K (.d (.a 50) 21 (.c (.a 64) 0)) .a o K:=nF (v:=.a 1) (u:=.b .c) rfl (ip Y) rfl;have c:Ex (dd eb (k+4)) o K (.d (.a 50) 22 (.c (.a 64) 0)) .a j K:=nF (v:=.a 1) (u:=.b .c) (gv rfl rfl) (ip Y) rfl;have I:Ex (dd eb (k+4)) j K (.h (.v (.a 50) 31 (.a (.c (.a 64) 0) .b))) .a (kX j 1) K:=j5 (iL (ip Y) rfl rfl (J1 (t:=j) (Q:=eb) (k:=k+3) rfl (lS _)));have r:(kX j 1).a=(ku t E z).a:=funext λx=>by
  show(if x=1 then{ j.a 1 with f:=1 } else if x=1 then s else if x=1 then w0 0 else w x)=if x=1 then w1 E z else w x;by_cases h:x=1
  ·rw[if_pos h,if_pos h,show j.a 1=s from lQ (t:=B) (m:=1) (w:=s)];rfl
  ·rw[if_neg h,if_neg h,if_neg h,if_neg h]
 have e:kX j 1=ku t E z:=by
  show({ ku t E z with a:=(kX j 1).a }:eB)=ku t E z;rw[r]
 exact⟨K,e▸eG Z (eG L (eG M (eG l (eG q (eG c (eG I fp))))))⟩
theorem Vb{E z:Int}(c:3≤E∧E≤100)(a:2≤z∧z≤100)(P:0≤t.e)(X:t.k.length≤100):Lw (ku t E z) [1] 1 t.e:=by
 have R:(ku t E z).a 1=w1 E z:=lQ (t:=t) (m:=1) (w:=w1 E z);have F:∀n∈(ku t E z).b,n=1:=λn W=>gR.1 W;have C:sz (ku t E z) 0 1=E:=by unfold sz;rw[R];rfl
 have D:sz (ku t E z) 1 1=z:=by unfold sz;rw[R];rfl
 have p:((ku t E z).a 1).a=[]:=by rw[R];rfl
 have I:((ku t E z).a 1).b=0:=by rw[R];rfl
 have G:Gx (ku t E z) (λU=>0) 0 0:=
  {
   d:=λm Y y B=>by rw[F m Y,p] at B;cases B
   k:=λm Y y B=>by rw[F m Y,p] at B;cases B
   m:=λm Y=>by rw[F m Y,p];exact og
   f:=rfl
   j:=iO rfl
   i:=λm Y=>by rw[F m Y];exact⟨λU=>p,λU=>I⟩
   h:=lS _
   o:=by show((ku t E z).a 1).c=0;rw[R];rfl
   g:=λm Y=>by rw[F m Y];exact⟨ja _,ja _⟩
   C:=xC _ _
   D:=λm Y e=>absurd (F m Y) e
   B:=λm Y=>by rw[F m Y];exact eH I
   v:=λm Y s U=>by rw[F m Y] at s;exact absurd I s
   A:=λm Y U y B=>by rw[F m Y,p] at B;cases B
   x:=λb j m Y U=>by rw[F m Y];exact j.elim (λe=>by rw[e,C];exact c.1) λe=>by rw[e,D];exact a.1
   z:=λb j=>j.elim (λe=>by rw[e];exact C.symm▸c.2) λe=>by rw[e];exact D.symm▸a.2
   u:=λb j m Y s=>by rw[F m Y] at s;exact absurd I s }
 exact⟨⟨_,G⟩,lS _,I,⟨rfl,λu g=>by rw[gR.1 g];exact ja _,λu g U=>by rw[gR.1 g];exact I,λx Z U=>by rw[F x Z,R];rfl⟩,P,ja _,X,ig _⟩
theorem Gx.aj(h:Gx t T q r)(M:O.b=t.b)(E:O.d=t.d)(C:O.c=t.c)(G:O.g=7)(g:∀m,(O.a m).b=(t.a m).b∧(O.a m).c=(t.a m).c∧(O.a m).a=(t.a m).a∧(O.a m).d=(t.a m).d∧(O.a m).e=(t.a m).e):Gx O T q r:=by
 have o:∀a m,sz O a m=sz t a m:=λa m=>by unfold sz;rw[(g m).2.2.2.1,(g m).2.2.2.2]
 exact{
     d:=λm Y y B=>by rw[(g m).2.2.1] at B;rw[M] at Y ⊢;exact h.d m Y y B
     k:=λm Y y B=>by rw[(g m).2.2.1] at B;rw[M] at Y;exact(g y).2.1.trans (h.k m Y y B)
     m:=λm Y=>by rw[(g m).2.2.1];exact h.m m (M▸Y)
     f:=G
     j:=M▸h.j
     i:=λm Y=>by rw[(g m).1,(g m).2.2.1];exact h.i m (M▸Y)
     h:=by rw[E,M];exact h.h
     o:=by rw[E];exact(g _).2.1.trans h.o
     g:=λm Y=>by rw[C];exact h.g m (M▸Y)
     C:=M▸h.C
     D:=λm Y e=>by rw[(g m).2.1,(g _).2.2.1,M];exact h.D m (M▸Y) (E▸e)
     B:=λm Y=>by rw[(g m).1];exact h.B m (M▸Y)
     v:=λm Y s e=>by rw[(g m).2.2.1];exact h.v m (M▸Y) ((g m).1▸s) e
     A:=λm Y e y B=>by rw[(g m).1,(g y).1];exact h.A m (M▸Y) e y ((g m).2.2.1▸B)
     x:=λb j m Y s=>by rw[o];exact h.x b j m (M▸Y) ((g m).1▸s)
     z:=λb j=>by rw[o,E];exact h.z b j
     u:=λb j m Y s=>by
      rw[(g m).1] at s ⊢;rw[(g m).2.2.1,show sz O b=sz t b from funext (o b)];exact h.u b j m (M▸Y) s }
theorem Lw.m{A:Nat}{B:Int}(h:Lw t R A B)(a:n∈t.b)(S:(t.a n).b=0):Lw (kX { t with i:=n } n) (n::R) A B:=by
 refine fL h.d λT G=>?_;have v:∀m,(kX { t with i:=n } n).a m=if m=n then{ t.a n with f:=t.l+1 } else t.a m:=λm=>rfl;have O:∀m,((kX { t with i:=n } n).a m).b=(t.a m).b∧((kX { t with i:=n } n).a m).c=(t.a m).c∧((kX { t with i:=n } n).a m).a=(t.a m).a∧((kX { t with i:=n } n).a m).d=(t.a m).d∧((kX { t with i:=n } n).a m).e=(t.a m).e:=λm=>by
  rw[v];by_cases e:m=n
  ·rw[if_pos e,e];exact⟨rfl,rfl,rfl,rfl,rfl⟩
  ·rw[if_neg e];exact⟨rfl,rfl,rfl,rfl,rfl⟩
 refine⟨⟨T,G.aj rfl rfl rfl G.f O⟩,a,(O n).1.trans S,⟨?_,λu g=>?_,λu g M=>?_,λx Z s=>?_⟩,h.i,h.a,h.h,h.b⟩
 ·show t.l+1=((R.length+1:Nat):Int);rw[h.e.d];rfl
 ·show u≤t.c
  rcases gy.1 g with e|g
  ·rw[e];exact(G.g n a).2
  ·exact h.e.b u g
 ·rw[(O u).1]
  rcases gy.1 g with e|g
  ·rw[e];exact S
  ·exact h.e.c u g M
 ·rw[v]
  show(if x=n then _ else _:gE).f=if x=n then(R.length:Int)+1 else li R x;by_cases e:x=n
  ·rw[if_pos e,if_pos e,←h.e.d]
  ·rw[if_neg e,if_neg e];exact h.e.a x Z ((O x).1▸s)
structure BF(F:Fr)(R:List Int):Prop where
 a:F 98=d9 .h
 b:F 66=d9 (.b .c)
 c:F 103=d9 (.c eb (eF R.reverse))
theorem BF.f(h:BF F R){i:Nat}{v:eD}(D:i≠98∧i≠66∧i≠103):BF (eL F i v) R:=⟨(if_neg D.1.symm).trans h.a,(if_neg D.2.1.symm).trans h.b,(if_neg D.2.2.symm).trans h.c⟩
noncomputable abbrev CB:js:=.a 95 (.w 3 (.c (.a 66) 16))
noncomputable abbrev HB:js:=.l eb [53,56] (.A (.a (.n (.a 95) (.j 39 (.a (.a 98) (.a (.w 0 (.a 95)) .b)))) (.a (.n (.z (.a (.x 14) (.a (.x 13) .b))) (.j 39 (.a (.a 98) (.a (.d 2) .b)))) .b)))
noncomputable abbrev zr:Es:=.a (.a 66) (.a (.a 53) (.a (.n (.z (.a (.F) (.a (.d 4) (.a (.K (.d 4)) .b)))) (.j 39 (.a (.a 98) (.a (.d 3) .b)))) (.a (.a 56) (.a (.h fZ (.j 39 (.a (.a 98) (.a (.d 2) .b))) (.d 1)) .b))))
noncomputable abbrev HC:js:=.c (.h fZ (.j 39 (.a (.a 98) (.a (.d 2) .b))) (.d 1)) (.a (.a 65 (.j 18 (.a (.a 66) .b))) (.a (.m 103 (.n (.a 65) (.j 39 (.a (.a 98) (.a (.w 0 (.a 65)) .b))))) (.a (.h (.v (.a 66) 32 (.a (.n (.a 103) (.K (.d 1))) .b))) .b))) .b
theorem CE{i:Nat}{l:List Int}{o:Bool}(h:F i=d9 (.c o (eF l)))(C:l.length≤900):Ev (dd Q j) t F (.w 0 (.a i)) (.a l.length) t:=by
 have:=jN (d:=dd Q j) (t:=t) (fg h) (sG (Q:=Q) (z:=eF l) (by(clear h;cases o)<;>rfl) (by(clear h;cases o)<;>rfl) (by rw[gB];lia));rwa [gB] at this
theorem Lw.l{A:Nat}{B:Int}(h:Lw t R A B):t.b.length≤60:=let⟨_,g⟩ :=h.d;g.j
theorem LW{A:Nat}{B m:Int}{k:Nat}(h:Lw t R A B)(i:B≤9000)(D:F 98=d9 .h)(Y:0<m)(n:Ev (dd eb (k+1)) t F e (.a m) t):
  ∃r,Ev (dd eb (k+1)) t F (.j 39 (.a (.a 98) (.a e .b))) (.a r) { t with e:=t.e+1 }∧0≤r∧r<m∧Lw { t with e:=t.e+1 } R A (B+1):=by
 have:=h.a;refine v8 (k:=k) D Y h.i (by lia) h.h n λr q u Z=>?_;exact(lP r q u Z h.k)
theorem Lw.f{A:Nat}{B m:Int}{k:Nat}(h:Lw t R A B)(i:B≤9000)(D:F 98=d9 .h)(Y:0<m)(n:Ev (dd eb (k+1)) t F e (.a m) t){G:Prop}(N:∀r,Ev (dd eb (k+1)) t F (.j 39 (.a (.a 98) (.a e .b))) (.a r) { t with e:=t.e+1 }->0≤r->r<m->Lw { t with e:=t.e+1 } R A (B+1)->G):G:=nU (LW h i D Y n) N
theorem UU{r:Int}(h:r=0∨r=1):∃a,Ax a∧m9 t (.c eb [.a 1,.a 0]) (.a r)=d9 (.a a):=by
 rcases h with rfl|rfl
 ·exact(ey 1 (eI rfl) rfl)
 ·exact(ey 0 (eH rfl) rfl)
theorem UV{r:Int}(h:r=0∨r=1∨r=2):∃f,m9 t (.c eb [.e,.a 4,.a (-4)]) (.a r)=d9 (jX f):=by
 rcases h with rfl|rfl|rfl
 ·exact⟨eh,rfl⟩
 ·exact⟨d9 4,rfl⟩
 ·exact⟨d9 (-4),rfl⟩
theorem QN{A:Nat}{B:Int}{k:Nat}(h:Lw t R A B)(i:B≤8000)(f:BF F R):
  ∃n a K H E,Ex (dd eb (k+1)) t F CB .a t K∧Ex (dd eb (k+1)) t K HB .a E H∧Lw E R A (B+2)∧n∈E.b∧Ax a∧BF H R∧H 53=d9 (.a n)∧H 56=d9 (.a a):=by
 refine fL h.d λT G=>?_;have C:=h.l;let l:=uC t.b;have X:∀x,x∈l↔x∈t.b:=λx=>(AK _ _).mem_iff;have p:l.length=t.b.length:=(AK _ _).length_eq;have D:0<l.length:=by rw[p];exact DX G.h
 let K:Fr:=eL F 95 (.c eb (eF l));have j:BF K R:=f.f (by decide);have Z:Ex (dd eb (k+1)) t F CB .a t K:=fO (jN (ji (f:=0) (v:=.j) f.b rfl G.f) (I2 (by lia))) rfl;refine h.f (k:=k) (F:=K) (by lia) j.a (by lia:(0:Int)<l.length) (CE (i:=95) (o:=eb) rfl (by lia)) λr q w d J=>?_;refine J.f (m:=2) (k:=k) (F:=K) (by lia) j.a (by decide) (e:=.d 2) rfl λL I b y c=>?_;refine zO (t:={ t with e:=t.e+1 }) (o:=em) w d (by lia) λn W N=>?_;refine eR (UU (t:={ t with e:=t.e+1+1 }) (by lia:L=0∨L=1)) λa M U=>?_;refine⟨n,a,K,(fV K [56,53] [.a a,.a n]),({ t with e:=t.e+1+1 }),Z,?_,(by rw[show B+2=B+1+1 by lia];exact c),((X n).1 W),M,((j.f (i:=56) (by decide)).f (by decide)),rfl,rfl⟩;exact oS (as:=[.a n,.a a]) rfl (ki (J:=[.a n,.a a]) (eV (jh (v:=.c em (eF l)) rfl q N) (eV (jh rfl I U) fJ)) rfl (iO rfl)) rfl
theorem QP{A:Nat}{B:Int}{k:Nat}(h:Lw t R A B)(i:B≤8000)(f:BF F R)(O:F 53=d9 (.a n))(K:F 56=d9 (.a a)):∃l m E,lW (dd eb (k+1)) t F zr [.b .c,.a n,jX l,.a a,.d m] E∧Lw E R A (B+2)∧E.b=t.b:=by
 refine h.f (m:=3) (k:=k) (F:=F) (by lia) f.a (by decide) (e:=.d 3) rfl λr q w c J=>?_;refine J.f (m:=2) (k:=k) (F:=F) (by lia) f.a (by decide) (e:=.d 2) rfl λL I b y x=>?_;refine fL (UV (t:={ t with e:=t.e+1 }) (by lia:r=0∨r=1∨r=2)) λl U=>?_;exact(mV l (eU (L=1)) _ (eV (ip f.b) (eV (fu O) (eV (jh rfl q U) (eV (fu K) (eV (gG I (u:=.a 1) rfl rfl) fJ))))) (by rw[show B+2=B+1+1 by lia];exact x) rfl)
theorem Lw.M{A:Nat}{B:Int}{j:Option Int}{o:Bool}(h:Lw t R A B)(D:A≤40)(W:n∈t.b)(M:Ax a){k:Nat}:
  (∃T,Gx t T 0 0∧(eU (sz t a n-jn j (sz t a n)<LL t T a n)||eU (jn j (sz t a n)<kr a))=eb)∨∃v O,gF eb (k+6) 33 [.b .c,.a n,jX j,.a a,.d o] t=d9 (v,O)∧Lw O R (A+2) B:=by
 refine fL h.d λT G=>?_;by_cases K:sz t a n-jn j (sz t a n)<LL t T a n
 ·exact eH (ey T G (by rw[decide_eq_true K];rfl))
 by_cases I:jn j (sz t a n)<kr a
 ·exact eH (ey T G (by rw[decide_eq_true I];exact pI _))
 have:=h.b;refine mZ (UH (g:=0) (o:=o) (k:=k) G (by lia) W M (λk=>UI (j:=j) (k:=k) G.y W (tq.1 K) (tq.1 I)) (by lia) (tq.1 K) (tq.1 I)) λv O L c z N l=>?_;have S:t.i≠0:=λe=>by have:=(G.g _ h.c).1;lia
 have f:=N.e _ h.c h.g S;refine eI (ib v O c ⟨⟨L,z⟩,N.b▸f,?_,h.e.h N,N.c▸h.i,N.c▸h.a,N.d▸h.h,by lia⟩);rw[N.b];rcases N.a _ f with ⟨_,e,_⟩ |⟨l,_⟩
 ·exact e.trans h.g
 ·exact absurd (G.g _ h.c).2 (rH.2 l)
theorem QO{A:Nat}{B:Int}{k:Nat}(h:Lw t R A B)(i:B≤8000)(g:R.length≤800)(f:BF F R):∃O Z U,Ex (dd eb (k+3)) t F HC .a O U∧Lw O Z A (B+2)∧BF U Z∧Z.length≤R.length+1:=by
 refine h.f (m:=2) (k:=k+2) (F:=F) (by lia) f.a (by decide) (e:=.d 2) rfl λr q w o J=>?_;by_cases c:r=1
 ·refine fL J.d λT G=>?_
  refine sZ G λm l d=>?_;have Y:=wx (k:=k+1) G;have p:(iW { t with e:=t.e+1 } T).length≤60:=im (qC ..) (im (oW G.l G.h) G.j);let K:Fr:=eL F 65 (.c eb (eF (iW { t with e:=t.e+1 } T)));have j:BF K R:=f.f (by decide);refine J.f (k:=k+2) (F:=K) (by lia) j.a (by rw[d];show(0:Int)<((l.length+1:Nat):Int);lia) (CE (i:=65) (o:=eb) rfl (by lia)) λs I b y x=>?_;refine zO (t:={ t with e:=t.e+1+1 }) (o:=em) b y (by lia) λn W N=>?_;refine fe ((sY G).1 W) λD X=>?_;let S:eB:={ t with e:=t.e+1+1 };let H:Fr:=eL K 103 (.c eb (eF (n::R).reverse));have L:Ex (dd eb (k+3)) { t with e:=t.e+1 } K (.m 103 (.n (.a 65) (.j 39 (.a (.a 98) (.a (.w 0 (.a 65)) .b))))) .a S H:=by
   have e:eF R.reverse++[(.a n:Internal.eT)]=eF (n::R).reverse:=by rw[oh,←oM];rfl
   have v:Ev (dd eb (k+3)) { t with e:=t.e+1 } K (.n (.a 65) (.j 39 (.a (.a 98) (.a (.w 0 (.a 65)) .b)))) (.b (.a n)) S:=jh (v:=.c em (eF (iW { t with e:=t.e+1 } T))) rfl I N;have:=qO v j.c (by rw[gB,n9];lia);rw[e] at this;exact this
  have a:Ev (dd eb (k+3)) S H (.n (.a 103) (.K (.d 1))) (.a n) S:=jh (v:=.c em (eF (n::R).reverse)) (u:=.a (-1)) rfl rfl (HE (by lia));have M:Ex (dd eb (k+3)) S H (.h (.v (.a 66) 32 (.a (.n (.a 103) (.K (.d 1))) .b))) .a (kX { S with i:=n } n) H:=j5 (iL (ip j.b) (eV a fJ) rfl (Uh (Q:=eb) (t:=S) (k:=k) G.f D X));refine(pj _ (n::R) H (jj (nE (y:=1) q rfl c) (eG (fO (gI (eV (ip f.b) fJ) Y) rfl) (eG L (eG M fp)))) ?_ ⟨j.a,j.b,rfl⟩ (ig _));rw[show B+2=B+1+1 by lia];exact x.m D X
 ·exact(pj _ R F (gU (oq (y:=1) q rfl c) fp) ({ J with a:=by have:=J.a;lia }) f (xH _))
noncomputable abbrev zt:js:=.l eb [108,109] (.A (.a (.p io (.d 3) (.j 39 (.a (.a 98) (.a (.d 70) .b)))) (.a (.p io (.d 2) (.j 39 (.a (.a 98) (.a (.d 50) .b)))) .b)))
theorem QU{A:Nat}{B:Int}{k:Nat}(h:Lw t R A B)(i:B≤8000)(C:F 98=d9 .h):∃m l O,Ex (dd eb (k+1)) t F zt .a O (fV F [109,108] [.a l,.a m])∧Lw O R A (B+2)∧m≤100∧l≤100:=by
 refine h.f (m:=70) (k:=k) (F:=F) (by lia) C (by decide) (e:=.d 70) rfl λr q w f J=>?_;refine J.f (m:=50) (k:=k) (F:=F) (by lia) C (by decide) (e:=.d 50) rfl λL I b y x=>?_;refine(pj (3+r) (2+L) ({ t with e:=t.e+1+1 }) ?_ (by rw[show B+2=B+1+1 by lia];exact x) (by lia) (by lia));exact oS (as:=[.a (3+r),.a (2+L)]) rfl (ki (J:=[.a (3+r),.a (2+L)]) (eV (hZ (v:=.a 3) rfl q rfl) (eV (hZ (v:=.a 2) rfl I rfl) fJ)) rfl (iO rfl)) rfl
theorem J5(G:t.g=7)(h:F 66=d9 (.b .c)):Ev d t F (.c (.a 66) 21) (.a t.d) t:=ji (f:=5) (v:=.a t.d) h rfl G
noncomputable abbrev ge(i g:Nat):eW:=.h .GtE (.a i) (.j 40 (.a (.a 66) (.a (.c (.a 66) 21) (.a (.x g) .b))))
theorem Hc{A:Nat}{B m:Int}{k:Nat}(h:Gx t T q r)(j:∀n∈t.b,T n<61)(M:Ax a){i g:Nat}(J:F 66=d9 (.b .c))(D:F i=d9 (.a m))(l:wf g=d9 a):Ev (dd eb (k+61)) t F (ge i g) (.d (eU (LL t T a t.d≤m))) t:=
 gG (v:=.a m) (fu D) (gI (eV (ip J) (eV (J5 h.f J) (eV (v:=.a a) (by show(wf g).map _=_;rw[l];rfl) fJ))) (HF h.y h.B M h.h (k+61) (by have:=j _ h.h;lia))) rfl
noncomputable abbrev uh:eW:=.n (.j 30 (.a (.a 66) .b)) (.d 0)
theorem Di{k:Nat}(h:Gx t T q r)(J:F 66=d9 (.b .c)):Ev (dd Q (k+3)) t F uh (.b (tp [sz t 0 t.d,sz t 1 t.d])) t:=
 jh (v:=.b (CF t T)) (u:=.a 0) (gI (eV (ip J) fJ) (Ca (Q:=Q) (k:=k) h.y h.h)) rfl rfl
theorem HZ{l m:List Int}(h:l=m):mU t gd (.b (tp l)) (.b (tp m))=d9 false:=h▸HY (n:=1) (v6 (n:=0)) (by decide)
theorem FP{x y z:eW}(K:Ev d t F x (.d em) t)(I:Ev d t F y (.d em) t)(W:Ev d t F z (.d em) t):Ev d t F (.D jw (.a x (.a y (.a z .b)))) (.d em) t:=pW (jS K (jS I (jS W rfl)))
noncomputable abbrev yX:eW:=.h uO (.j 28 (.a (.a 66) .b)) .F
theorem JY{k:Nat}(h:Gx t T 0 0)(p:Po t)(S:t.i∈t.b)(C:(t.a t.i).b=0)(J:F 66=d9 (.b .c)):Ev (dd eb (k+3)) t F yX (.d em) t:=
 gG (v:=.b .e) (u:=.b .e) (gI (eV (ip J) fJ) (h.te (k:=k) p S C)) rfl rfl
noncomputable abbrev no(e:eW):js:=.c e (.a (.g (.I em)) .b) .b
abbrev Af:js:=no (.D jw (.a (.M (.a 111)) (.a yX (.a (.h gd uh (.A (.a (.a 108) (.a (.a 109) .b)))) .b))))
theorem U5{k:Nat}{E z:Int}(h:Gx t T 0 0)(p:Po t)(S:t.i∈t.b)(C:(t.a t.i).b=0)(J:F 66=d9 (.b .c))(K:F 111=d9 (.d eb))(w:F 108=d9 (.a E))(Z:F 109=d9 (.a z))(P:sz t 0 t.d=E∧sz t 1 t.d=z):Ex (dd eb (k+3)) t F Af .a t F:=
 gU (FP (yf (b:=eb) (fg (v:=.d eb) K)) (JY h p S C J) (gG (Di (k:=k) h J) (ki (J:=[.a E,.a z]) (eV (fu w) (eV (fu Z) fJ)) rfl (iO rfl)) (HZ (l:=[sz t 0 t.d,sz t 1 t.d]) (m:=[E,z]) (by rw[P.1,P.2])))) fp
abbrev Ag:js:=no (.M (.j 41 (.a (.a 66) (.a (.c (.a 66) 21) (.a (.a 56) (.a (.a 100) .b))))))
theorem U6{k:Nat}{G:List (Int×eT)}{o:Int->Int->Int}(h:Gx t T 0 0)(j:∀n∈t.b,T n<61)(M:Ax a)(J:F 66=d9 (.b .c))(K:F 56=d9 (.a a))(g:F 100=d9 (.g eb G))(z:∀x∈t.b,G.lookup x=d9 (.f [.a (o 0 x),.a (o 1 x)]))
  (D:∀x∈t.b,Dn t T a (o a) (sz t a) x) (P:∀x∈t.b,LL t T a x≤o a x∧o a x≤100):Ex (dd eb (k+65)) t F Ag .a t F:=
 gU (yf (b:=eb) (gI (eV (ip J) (eV (J5 h.f J) (eV (fu K) (eV (fg g) fJ)))) (QE h.y h.B M z D (λx Z=>⟨(P x Z).1,jY (P x Z).2 (by decide)⟩) (λx Z=>⟨h.U M Z,jY (h.W M Z) (by decide)⟩) h.h (k+61) (by have:=j _ h.h;lia)))) fp
abbrev ze:js:=no (.D jw (.a (.a 111) (.a (.h gd (.j 30 (.a (.a 66) .b)) (.a 110)) .b)))
theorem Qu{k:Nat}(h:Gx t T q r)(j:∀n∈t.b,T n<61)(J:F 66=d9 (.b .c))(K:F 111=d9 (.d em))(B:F 110=d9 (.b (CF t T))):Ex (dd em (k+3)) t F ze .a t F:=
 gU (pW (jS (fg (v:=.d em) K) (jS (gG (v:=.b (CF t T)) (u:=.b (CF t T)) (gI (eV (ip J) fJ) (Ca (Q:=em) (k:=k) h.y h.h)) (fg (v:=.b (CF t T)) B) (HY (OF h) (by have:=j _ h.h;lia))) rfl))) fp
abbrev zw:js:=no (.M (.j 43 (.a (.a 98) (.a (.a 66) (.a (.a 103) .b)))))
theorem QV{A:Nat}{B:Int}{k:Nat}{o:Bool}(h:Lw t R A B)(i:B≤9000)(a:R.length≤900)(J:F 66=d9 (.b .c))(C:F 98=d9 .h)(Z:F 103=d9 (.c o (eF R.reverse))):∃O,Ex (dd eb (k+5)) t F zw .a O F∧Lw O R A (B+2):=by
 refine eR (QD (k:=k) h i a) λO g L=>?_;exact(ey O (gU (yf (b:=eb) (gI (eV (fg (v:=.h) C) (eV (ip J) (eV (fg Z) fJ))) g)) fp) L)
abbrev wv:Ss:=.a (.a 65 (.j 18 (.a (.a 66) .b))) (.a (.l eb [53,57] (.A (.a (.n (.a 65) (.j 39 (.a (.a 98) (.a (.w 0 (.a 65)) .b)))) (.a uh .b)))) (.a (.h (.j 38 (.a (.a 66) (.a (.a 53) .b))))
 (.a (no (.D jw (.a yX (.a (.h gd uh (.a 57)) (.a (.h gd (.j 18 (.a (.a 66) .b)) (.z (.a (.a 53) .b))) .b))))) (.a (.g (.h fZ (.c (.a 66) 22) (.a 53))) .b))))
theorem QW{A:Nat}{B:Int}{k:Nat}(h:Lw t R A B)(V:B≤8000)(J:F 66=d9 (.b .c))(a:F 98=d9 .h):∃O f,f7 (dd eb (k+4)) t F wv (.b (.d eb)) O f:=by
 refine fL h.d λT G=>?_;refine sZ G λm l d=>?_;have Y:=wx (k:=k+2) G;have p:(iW t T).length≤60:=im (qC ..) (im (oW G.l G.h) G.j);let K:Fr:=eL F 65 (.c eb (eF (iW t T)));refine h.f (k:=k+3) (F:=K) (by lia) a (by rw[d];show(0:Int)<((l.length+1:Nat):Int);lia) (CE (i:=65) (o:=eb) rfl (by lia)) λr I b y x=>?_;let E:eB:={ t with e:=t.e+1 };refine zO (t:=E) (o:=em) b y (by lia) λn c N=>?_;refine fe ((sY G).1 c) λD X=>?_;have W:Gx E T 0 0:=G.ab _;let j:Internal.eT:=tp [sz E 0 E.d,sz E 1 E.d];let H:Fr:=fV K [57,53] [j,.a n];have v:Ev (dd eb (k+4)) t K (.n (.a 65) (.j 39 (.a (.a 98) (.a (.w 0 (.a 65)) .b)))) (.a n) E:=jh (v:=.c em (eF (iW t T))) (fg (v:=.c eb (eF (iW t T))) rfl) I N;have o:Ex (dd eb (k+4)) t K (.l eb [53,57] (.A (.a (.n (.a 65) (.j 39 (.a (.a 98) (.a (.w 0 (.a 65)) .b)))) (.a uh .b)))) .a E H:=
  oS (as:=[.a n,j]) rfl (ki (J:=[.a n,.b j]) (eV v (eV (Di (k:=k+1) W J) fJ)) rfl (iO rfl)) rfl
 (refine uq (PR (k:=k+1) W D X) λO w z u C Z L=>?_;refine i8 L λg i U U=>?_)
 have P:(O.a O.i).b=0:=by rw[Z,g];exact X
 have s:O.i∈O.b:=by rw[Z,i];exact lS n
 have S:[sz O 0 O.d,sz O 1 O.d]=[sz E 0 E.d,sz E 1 E.d]:=by
  rw[C];unfold sz;rw[g];rfl
 have e:iW O T=[n]:=by
  unfold iW;rw[C,lx z.e (by rw[i];exact lS n),g,show(zX E n).a=[] from(W.i n D).1 X];exact xy (decide_eq_true (by rw[g];exact X))
 have q:=wx (k:=k+2) z;rw[e] at q;have M:Ex (dd eb (k+4)) E H (.h (.j 38 (.a (.a 66) (.a (.a 53) .b)))) .a O H:=j5 (gI (eV (ip J) (eV (fu (n:=n) rfl) fJ)) w);have Q:Ex (dd eb (k+4)) O H (no (.D jw (.a yX (.a (.h gd uh (.a 57)) (.a (.h gd (.j 18 (.a (.a 66) .b)) (.z (.a (.a 53) .b))) .b))))) .a O H:=
  gU (FP (JY (k:=k+1) z u s P J) (gG (Di (k:=k+1) z J) (fg (v:=.b j) rfl) (HZ S)) (gG (gI (eV (ip J) fJ) q) (qN (eV (fu (n:=n) rfl) fJ) rfl (iO rfl)) (CQ (l:=[n]) (m:=[n]) rfl))) fp
 exact⟨O,H,eG (fO (gI (eV (ip J) fJ) Y) rfl) (eG o (eG M (eG Q (iq (i7 (nE (ji (f:=6) (v:=.a O.i) J rfl z.f) (fu (n:=n) rfl) Z) rfl)))))⟩
end
section
variable{c:Cx}{V:eJ}{H M:AH}{P:iE}{d:ir}{D:Bool}{Y:gZ}{B:AH}{F:Fr}{a w:Ad}{t O I:eB}
theorem zW:oV (KK P) 38 37 35:=⟨⟨_,_,_,_,_,_,_,_,_,_,_,_,_,rfl⟩,by kernel_rfl,by kernel_rfl,by kernel_rfl,(ey _ rfl rfl)⟩
theorem Ux{k:Nat}{e t:et}{u A:ed}{Q:ed->AH->Prop}(F:c.e=KK P)(O:c.d)(R:Lv c (k+1))(i:H e=d9 (.c (l5 38 t eh)))
  (h:∀j G f,H j=eh->j≠e->Q ez (eQ (eQ (eQ H e (.c (l5 38 t (d9 j)))) j (.c G)) j (.c f))):lM c (ec 35) [ec e,u,A] V H Q:=by
 refine Bp (n:=ei "__init__") (q:=ei "LispSignal.__init__") (E:=(eC (ei "emacs.errors") 194)) (T:=ez) (s:=34) (u:=Internal.fW 2 0) F O R ["self","symbol","data"] rfl (by kernel_rfl) (by exact ij λa b d=>.a (by kernel_rfl)) (by kernel_rfl) rfl λg L m=>?_;have n:oV (iM c g L (kS (ei "LispSignal.__init__") (fD (Internal.fW 2 0)) L 35 (ec 34) [])).e 38 37 35:=by
  show oV c.e 38 37 35;rw[F];exact zW
 have M:∀x,jg (KK P) 37 x=d9 eh->jg c.e 37 x=d9 none:=λx h=>by rw[F];exact h
 refine kJ (pY (lw m (by kernel_rfl) (v:=u) rfl (lw m (by kernel_rfl) (v:=ec e) rfl (ey e rfl (Ot (a:="symbol") m n (M _ (by kernel_rfl)) (by kernel_rfl) i λj G D Y p=>?_)) (by kernel_rfl)) (by kernel_rfl)) rfl);refine kJ (pY (lw m (by kernel_rfl) (v:=A) rfl (lw m (by kernel_rfl) (v:=ec e) rfl (ey e rfl (Ou (a:="data") m n (M _ (by kernel_rfl)) (by kernel_rfl) ((fw _ _ Y.symm).trans (gA _ _ _)) (gA _ _ _) Y p λf=>?_)) (by kernel_rfl)) (by kernel_rfl)) rfl);exact qV (h j G f D Y)
end
section
variable{c:Cx}{V:eJ}{H M:AH}{P:iE}{d:ir}{Y:gZ}{B:AH}{F:Fr}{a w:Ad}{t O I:eB}
def XQ(a:Ad)(t:eB)(H:AH)(O:eB):et->AH->Prop:=λC M=>C=38∧∃s,fk a t H s O M
theorem vg{s:Ad}{E S:eB}(c:fk a t H s E M):∀C b,XQ s E M S C b->XQ a t H S C b:=λ_ _ ⟨e,l,Y⟩ =>⟨e,l,c.d Y⟩
noncomputable abbrev w5(w:String):Es:=.a (.G "error") (.a (.z (.a (.G w) .b)) .b)
theorem S8{k:Nat}{w:String}{z:List eP}{y L C:fE}{Q:gr->eJ->AH->Prop}(b:Bd d P em Y c B F a t V H)(m:c.b.handled=eh)(R:Lv c (k+2))(v:jU Y 44 eY=eb)(Z:(w5 w).c z=z)(X:(w5 w).f em Y em z=eb):
  qd c (Em (d9 (jr (gk (ei "LispSignal") y) z [] L)) eh C) V H Q (XQ a t H t):=by
 have K:=b.b.b;refine Ni (C:=38) (N:=37) (W:=35) b.b.a m (K▸zW) (by rw[←Z];exact mH _ _) (tU (v:=ec 38) K b.b.a (j' b.b v) (by kernel_rfl) ⟨rfl,?_⟩ (by kernel_rfl));rw[←Z];refine(mP (d:=d) (P:=P) (w5 w)).1 (J:=[.b (.h "error"),.c eb [.h w]]) (O:=t) (F:=F) X rfl b λJ l T p N U=>⟨by rw[N.e];exact iO rfl,λe u i n=>yq ?_⟩;clear U;obtain⟨E,f,rfl,_,N⟩ :=N;obtain⟨A,f,rfl,_,N⟩ :=N;obtain rfl:f=[]:=N;refine Ux (c:=cA c 38 i) (k:=k) K b.b.a.l R.h (gA _ _ _) λj G I D g=>⟨rfl,j,?_,rfl,l,p.d (.i p.b λx o Z=>?_)⟩
 ·rw[fw _ _ g.symm,fw _ _ g.symm];exact gA _ _ _
 ·have r:x≠e:=λq=>by rw[q,n] at Z;exact nS Z
  have h:x≠j:=λq=>by rw[q] at Z;rw[fw _ _ g,Z] at D;exact iX D
  rw[Cc _ r,fw _ _ h,fw _ _ h,fw _ _ r,fw _ _ r];exact Z
end
section
variable{c:Cx}{V:eJ}{H M:AH}{P:iE}{d:ir}{Y:gZ}{B:AH}{F K:Fr}{a w:Ad}{t O I E:eB}{Q:gr->eJ->AH->Prop}{X:et->AH->Prop}
theorem tV.b{X j:et->AH->Prop}{e:ed}{s:eZ}(k:∀C M,X C M->j C M)(h:tV c X e s):tV c j e s:=by
 refine iH h λL C R n=>?_;exact⟨L,C,R,n.imp (λY=>iH Y λV H f x=>⟨V,H,f,k _ _ x⟩) λo=>ut o λV H p d w K I W a=>mf a λO J U P x=>⟨V,H,p,d,w,K,I,W,O,J,U,P,k _ _ x⟩⟩
theorem mS.b{Z:List fG}{X j:et->AH->Prop}(h:mS c Z V H Q X)(k:∀C M,X C M->j C M):mS c Z V H Q j:=λE s S a=>h E s S λe P n=>a e P (n.b k)
theorem qd.b{u:fG}{X j:et->AH->Prop}(h:qd c u V H Q X)(k:∀C M,X C M->j C M):qd c u V H Q j:=λE s S a=>h E s S λe P n=>a e P (n.b k)
theorem Bx{s:js}{r:Ss}{z:List fG}(e:(Ss.a s r).e Y z=eb)(h:Ex d t F s .a E K)(b:Bd d P em Y c B F a t V H)(i:fk w I B a t H)
  (k:r.e Y z.tail=eb->∀f o Z,Bd d P em Y c B K f E o Z->fk w I B f E Z->mS c (r.d z.tail) o Z Q X):mS c ((Ss.a s r).d z) V H Q X:=by
 refine fq e λv j=>?_;refine yu (Nh (yk s v h b i λg f o Z p l=>?_));rw[show g=fY from l];exact k j f o Z (p.g b) p.a
noncomputable def rX:fG->eP
 |Em (d9 x) eh _=>x
 |_=>fU
def rS(u:fG):Stmt:=Em (d9 (jr (gk (ei "LispSignal") (x1 (rX u)).pos) (xl (rX u)) [] (rX u).pos)) eh u.pos
theorem Fw{q:eW}{r:Ss}{z:List fG}{w:String}{k:Nat}(X:(Ss.a (.c q (.a .p .b) .b) r).e Y z=eb)(h:Ev d t F q (.d eb) E)(b:Bd d P em Y c B F a t V H)(e:c.b.handled=eh)(R:Lv c (k+2))(g:jU Y 44 eY=eb)
  (i:(sB (z.headD gH)).headD gH=rS ((sB (z.headD gH)).headD gH)) (l:(w5 w).c (xl (rX ((sB (z.headD gH)).headD gH)))=xl (rX ((sB (z.headD gH)).headD gH))) (m:(w5 w).f em Y em (xl (rX ((sB (z.headD gH)).headD gH)))=eb):mS c ((Ss.a (.c q (.a .p .b) .b) r).d z) V H Q (XQ a t H E):=by
 refine fq X λv j=>?_;refine fq v λC y=>?_;refine fq C λO n=>?_;refine yu (Ng ((fR q).2 O h b λf Z p=>?_));rw[if_pos rfl];show mS c [(sB (z.headD gH)).headD gH] V Z _ _;rw[i];exact yu ((S8 (b.e p) e R g l m).b (vg p))
theorem Bq{g:Nat}{M:List Nat}{s:et}{u:fG}{n q:ft}{E T:ed}{k:Nat}{w:List eD}{A:List ed}{Q:ed->AH->Prop}(Y:gZ)(ok:vj d P k)(F:c.e=KK P)(O:c.d)(R:Lv c (k+1))(l:c.b.handled=eh)(ac:c.i=eh)
  (K:(KK P).lookup (i6 g)=d9 ⟨eK "function",eh,gQ u n q T E (ec s),#[]⟩) (I:pR (KK P) (ec s) q=eb) (hb:sH (lK n q (qi u) (fj u) (fD u) T ez ez E eh (ec s) ez) (M.map nm)) (hc:qt (fD u) (M.map nm)=eb)
  (S:(fD u).names=(fN Y).names) (W:((Y.all λag=>eU (ag.1<113))&&(M.all λi=>eU (i<113))&&eU M.Nodup)=eb) (hl:w.length=M.length) (N:jd H a t w A)
  (aa:∀b,jA d P em Y b->FR b H a t (fh M (w.map eD.e)) (iR (M.map nm) A) H->Lv b k->b.b.handled=eh->mS b (fj u) (iR (M.map nm) A) H (λj U H2=>Q (pC j) H2) X):mR c (ec (i6 g)) A V H Q X:=by
 refine fq W λaf ae=>?_;refine fq af λB r=>?_;refine wO hc λp c2 z J c5=>?_;have hn:A.length=(M.map nm).length:=by rw[fC,N.e,hl]
 refine NM O ac (F▸K) (F▸I) R.g (M.map nm) (λau vs N=>Ee (hb vs (N.trans hn))) p c2 z J c5 λg L m=>?_;generalize C:iM c g L (kS q (fD u) L (i6 _) (ec s) [])=b at m;have f:∀x,b.a.kindOf x=(fD u).names.lookup x:=λx=>by rw[←C];rfl
 have h:∀x,b.a.kindOf x≠d9 fK:=λx e=>by rw[f] at e;exact c2 _ (pB e) rfl
 refine aa b ⟨C▸F,m,?_,?_,λi k' D=>?_,λq=>C▸l,λU=>C▸rfl,(ey k (C▸R.e) ok)⟩ ⟨λi v D=>?_,λi ak v v' aq U D U y=>?_,λx e=>absurd e (h x),λx av ad e=>absurd e (h x),C▸.a l⟩ (C▸R.e) (C▸l)
 ·unfold rP;rw[m.b];rfl
 ·unfold xM;rw[m.b];rfl
 ·rw[f,S];exact(mY (sX B)).trans D
 ·(refine gY (o8 (l8 r) N D) λo m2 g1=>?_;refine eR g1 λaj G Z=>?_)
  exact(fQ aj (eH ⟨(f _).trans (p _ (jZ o)),vZ (of_decide_eq_true ae) (l8 r) Z⟩) G (by rw[m2];nofun))
 ·refine gY (o8 (l8 r) N D) λU m2 U=>?_
  rw[m2] at y;exact nB y
variable{n m:Int}{j:Option Int}{T:Int->Nat}{A:List ed}{Q:ed->AH->Prop}
theorem I8(n m:Int)(j:Option Int):[eD.b .c,.a n,jX j,.a m].map eD.e=[.b .c,.a n,jX j,.a m]:=by cases j<;>rfl
theorem UJ{k:Nat}(F:c.e=KK P)(O:c.d)(R:Lv c (k+5))(B:c.b.handled=eh)(i:c.i=eh)(w:Wd H a t)(N:jd H a t [.b .c,.a n,jX j,.a m] A)(G:Ok t T)(W:n∈t.b)
  (E:(eU (sz t m n-jn j (sz t m n)<LL t T m n)||eU (jn j (sz t m n)<kr m))=eb):mR c (ec 279) A V H Q (XQ a t H t):=by
 refine Bq (g:=31) (d:=dd eb (k+4)) (k:=k+4) (M:=[66,53,57,56]) (n:=ei "split_parts") (q:=ei "split_parts") (E:=(eC (ei "emacs.splits") 572)) (T:=ez) (s:=278) (u:=(eS 30)) Ae (qh ql _) F O R B i rfl (by kernel_rfl) (by exact ij λa b d e=>.a (by kernel_rfl)) (by kernel_rfl) IP (by kernel_rfl) rfl N λx S g K I=>?_;rw[I8] at g;have z:ud.e Ae (fj (eS 30))=true:=by kernel_rfl
 have C:=I7 (j:=j) (k:=k+2) (a:=m) G W;rw[E] at C;rw[←Ki];refine Bx z (I3 (k:=k+2) G.f W) ⟨S,g,w⟩ (.e w) λz f o Z y h=>?_;refine Bx z I4 y h λz l D p u Y=>?_;refine Bx z I6 u Y λz q X L v r=>?_;exact(Fw (w:="Window too small for splitting") (k:=k+2) z C v I K (by kernel_rfl) (by kernel_rfl) (by kernel_rfl) (by kernel_rfl)).b (vg r)
end
section
variable{c:Cx}{V:eJ}{H M:AH}{P:iE}{d:ir}{Y:gZ}{B:AH}{F K:Fr}{a w:Ad}{t O I E:eB}{X:et->AH->Prop}{n m:Int}{j:Option Int}{T:Int->Nat}{A:List ed}{Q:ed->AH->Prop}
theorem B7{g:Nat}{w:Es}{x:eP}{J:List eD}{R:List ed->AH->Prop}(X:(eW.j g w).y em Y em x=eb)(h:lW d t F w J E)(b:Bd d P em Y c B F a t V H)
  (k:∀A f Z,fk a t H f E Z->jd Z f E (J.map eD.e) A->R A Z):
  TE c (jy g (x1 x)) V H (λi M=>i=ec (i6 g)∧nv (ec (i6 g))=ec (i6 g)∧(∀u,nv u=ec (i6 g)->u=ec (i6 g))∧nH c (ec (i6 g))∧TA c (w.c (xl x)) V M R):=by
 refine fq X λv j=>?_;refine fq v λC y=>?_;refine fe (G7 (P:=P) (of_decide_eq_true y)) λL T=>?_;exact tU b.b.b b.b.a (j' b.b C) L ⟨rfl,rfl,λu e=>gX e,vc (b.b.b▸T),(mP w).1 j h b λA f Z p N U=>k A f Z p N.b⟩ (ju g)
theorem Og{g:Nat}{w:Es}{x:eP}{J:List eD}(e:(eW.j g w).y em Y em x=eb)(h:lW d t F w J E)(b:Bd d P em Y c B F a t V H)
  (k:∀A f Z,fk a t H f E Z->jd Z f E (J.map eD.e) A->mR c (ec (i6 g)) A V Z Q X):BO c ((eW.j g w).u x) V H Q X:=
 Of b.b.a (mH _ _) (B7 e h b k)
theorem Fp{C:eJ->et->AH->Prop}{g:Nat}{w:Es}{x:eP}{J:List eD}(X:(eW.j g w).y em Y em x=eb)(h:lW d t F w J E)(b:Bd d P em Y c B F a t V H)
  (k:∀A f Z,fk a t H f E Z->jd Z f E (J.map eD.e) A->mR c (ec (i6 g)) A V Z Q (C V)):BN c ((eW.j g w).u x) V H Q C:=
 Oe b.b.a (mH _ _) (B7 X h b k)
theorem mR.b{f:ed}{j:et->AH->Prop}(h:mR c f A V H Q X)(e:∀C M,X C M->j C M):mR c f A V H Q j:=λE s J S N d=>h E s J S N λa C M P k q=>d a C M P k (e _ _ q)
theorem Vk{d:ir}{t:eB}{F:Fr}{i:Nat}(h:F i=d9 (jX j).e):Ev d t F (.a i) (jX j) t:=by
 cases j with
 |none=>exact fg (v:=.b .e) h
 |some s=>exact fu h
theorem UK{k:Nat}{o:Bool}(F:c.e=KK P)(O:c.d)(R:Lv c (k+6))(B:c.b.handled=eh)(i:c.i=eh)(w:Wd H a t)(N:jd H a t [.b .c,.a n,jX j,.a m,.d o] A)(G:Ok t T)(W:n∈t.b)
  (h:(eU (sz t m n-jn j (sz t m n)<LL t T m n)||eU (jn j (sz t m n)<kr m))=eb):mR c (ec 293) A V H Q (XQ a t H t):=by
 refine Bq (g:=33) (d:=dd eb (k+5)) (k:=k+5) (M:=[66,53,57,56,93]) (n:=ei "split") (q:=ei "split") (E:=(eC (ei "emacs.splits") 572)) (T:=ez) (s:=292) (u:=(eS 32)) Ac (qh ql _) F O R B i rfl (by kernel_rfl) (by exact ij λa l d e q=>.a (by kernel_rfl)) (by kernel_rfl) IO (by kernel_rfl) rfl N λb S g K I=>?_;let e:eW:=.j 31 (.a (.a 66) (.a (.a 53) (.a (.a 57) (.a (.a 56) .b))));let x:Stmt:=(fj (eS 32)).headD gH;have z:e.y em Ac em (sE x)=true:=by kernel_rfl
 rw[←Kh];refine yu (Nf (Og z (eV (ip rfl) (eV (fu (n:=n) rfl) (eV (Vk rfl) (eV (fu (n:=m) rfl) fJ)))) ⟨S,g,w⟩ λA f Z p N=>?_) (n6 (e:=e) rfl (sE x) (d9 (iD (jV [69,70] (xl (sT x))) (xk (sT x)) (sT x).pos)) x.pos.line b.a) (z6 (e:=e) rfl _ _ _ _ _));rw[I8] at N;exact(UJ (k:=k) S.b S.a K I (S.h rfl) p.b N G W h).b (vg p)
theorem Th{k:Nat}{E z:Int}{q r:Int}(F:c.e=KK P)(O:c.d)(R:Lv c (k+5))(B:c.b.handled=eh)(i:c.i=eh)(w:Wd H a t)(N:jd H a t [.b .c,.a E,.a z] A)(G:Gx t T q r)
  (g:(eU (E<LL t T 0 t.d)||eU (z<LL t T 1 t.d))=eb):mR c (ec 246) A V H Q (XQ a t H t):=by
 refine Bq (g:=26) (d:=dd eb (k+4)) (k:=k+4) (M:=[66,59,60]) (n:=ei "resize_frame") (q:=ei "resize_frame") (E:=(eC (ei "emacs.sizes") 490)) (T:=ez) (s:=245) (u:=(eS 23)) Ab (qh ql _) F O R B i rfl (by kernel_rfl) (by exact ij λa b d=>.a (by kernel_rfl)) (by kernel_rfl) IN (by kernel_rfl) rfl N λh S e K I=>?_;have f:vP.e Ab (fj (eS 23))=true:=by kernel_rfl
 have C:=IJ (E:=E) (z:=z) (k:=k+2) G;rw[g] at C;rw[←Kg];exact Fw (w:="Frame too small") (k:=k+2) f C ⟨S,e,w⟩ I K (by kernel_rfl) (by kernel_rfl) (by kernel_rfl) (by kernel_rfl)
end
section
variable{c:Cx}{V:eJ}{H M:AH}{P:iE}{d:ir}{Y:gZ}{B:AH}{F K:Fr}{a w:Ad}{t O I E:eB}{Q:ed->AH->Prop}
theorem xh:makesIn (KK P) 164=eb∧rL (KK P) (ec 164) "__init__"=d9 (d9 (ec 112))∧typeIn (KK P) (ec 112)=d9 (eK "function")∧tG (KK P) (ec 164)=eb∧jg (KK P) j4 (eE (nm 45))=d9 (d9 (ec 164)):=⟨by kernel_rfl,by kernel_rfl,by kernel_rfl,by kernel_rfl,by kernel_rfl⟩
theorem zg{f:Nat}{e:eW}{s:fG}{o:List fG}{y L:List (String×ed)}{x j:et}{u:ed}{R:gr->eJ->AH->Prop}(F:c.e=KK P)(O:c.d)(z:c.a.kindOf (eE (nm 50))=d9 eu)(b:V (nm 50)=d9 (ec x))(Z:H x=d9 (.h 164 j))(Y:x≠j)(l:16≤f∧f<23)(C:y.length<1000)(W:e.N=eh)(a:kW (gf f) u y=L)
  (N:∀R,R u (eQ H j (.b y))->TE c (e.u (sE s)) V (eQ H j (.b y)) R) (h:TS c o V (eQ H j (.b L)) R):TS c ((js.d (.a 50) f e).v s::o) V (eQ H j (.b y)) R:=
 kJ (pY (N _ (lw O z b (ey x rfl (pZ O ((fw _ _ Y).trans Z) (gA _ _ _) (qg F l).2 C (by rw(occs:=eO) [An,a];exact h))) (ju 50))) (n6 W _ _ _ _))
noncomputable def ua(a:Ad)(x j D:et):Ad:={ a with e:=x,i:=j,c:=D }
noncomputable def t5(t:eB):eB:={ t with g:=5,c:=0,b:=[],l:=0 }
theorem U0{x j D:et}(w:Wd H a t)(J:t.g<5)(Z:H x=eh)(g:H j=eh)(q:H D=eh)(B:(D==mO)=em)(k:∀y o,H y=d9 o->M y=d9 o)(L:M x=d9 (.h 164 j))(T:M j=d9 (.b (jv (ua a x j D) (t5 t))))(A:M D=d9 (.e [])):fk a t H (ua a x j D) (t5 t) M:=by
 have V:∀n,¬(t5 t).j n:=λn h=>by have K:=h.1;have I:n≤0:=h.2;lia
 refine⟨⟨k _ _ w.c,k _ _ w.d,w.e,λU=>⟨L,T,A,B,⟨og,ja _⟩,λn W=>absurd W iI,λn W=>absurd W (V n),λn m W=>absurd W (V n),λn W=>absurd W (V n)⟩⟩,λy o h U=>k y o h,λy o h=>⟨o,k y o h⟩,?_,?_,rfl,rfl,rfl,λh=>absurd h (by lia)⟩
 ·rintro y (h|⟨_,h|h|⟨n,W,_⟩⟩)
  ·exact eH (eH h)
  ·exact eI (h▸g)
  ·exact eI (h▸q)
  ·exact absurd W (V n)
 ·rintro y ((h|⟨_,h|h|⟨n,W,_⟩⟩)|h|⟨_,h|⟨n,W,_⟩⟩)
  ·exact eH (eH (eH h))
  ·exact eI (h▸g)
  ·exact eI (h▸q)
  ·exact absurd W (V n)
  ·exact eH (eI (eH h))
  ·exact eI (h▸Z)
  ·exact absurd W (V n)
theorem Qx{k:Nat}{x j:et}{E z:Int}(F:c.e=KK P)(O:c.d)(R:Lv c (k+5))(hh:c.b.handled=eh)(aA:Wd H a t)(J:t.g<5)(Z:H x=eh)(ae:H j=eh)(Y:x≠j)
  (G:∀a' M,fk a t H a' (ku t E z) M->a'.e=x->Q ez M):lM c (ec 112) [ec x,vi E,vi z,vi 1,vi 3,vi 2] V (eQ (eQ H j (.b [])) x (.h 164 j)) Q:=by
 have aj:((xe.all λp=>eU (p.1<113))&&(([50,59,60,61,62,63]:List Nat).all λi=>eU (i<113))&&eU ([50,59,60,61,62,63]:List Nat).Nodup)=true:=by kernel_rfl
 refine fq aj λau aq=>?_;refine fq au λak r=>?_;have hc:qt (fD (fW 10 0)) (([50,59,60,61,62,63]:List Nat).map nm)=true:=by kernel_rfl
 refine wO hc λc1 c2 c3 c4 c5=>?_;have K:(KK P).lookup 112=d9 ⟨eK "function",eh,gQ (fW 10 0) (ei "__init__") (ei "WindowTree.__init__") (ec 105) (eC (ei "emacs.windows") 227) (ec 111),#[]⟩ :=rfl;refine E9 O (F▸K) (F▸(by kernel_rfl:pR (KK P) (.ref 111) (ei "WindowTree.__init__")=true)) R.g (([50,59,60,61,62,63]:List Nat).map nm) (λaB vs ag N=>?_) c1 c2 c3 c4 c5 λg L m=>?_
 ·(refine oy (n:=5) N λa U e1 K=>?_;(clear N;obtain rfl:=e1))
  (refine oy K λaC U e2 h2=>?_;(clear K;obtain rfl:=e2))
  (refine oy h2 λd U e3 W=>?_;(clear K h2;obtain rfl:=e3))
  (refine oy W λe U e4 h4=>?_;(clear W;obtain rfl:=e4))
  (refine oy h4 λaD U e5 J=>?_;obtain rfl:=e5)
  (refine oy J λg U n h6=>?_;obtain rfl:=n)
  obtain rfl:=oN.mp h6;exact binds_K (F▸ag) rfl rfl rfl rfl rfl
 generalize C:iM c g L (kS (ei "WindowTree.__init__") (fD (fW 10 0)) L 112 (ec 111) [])=b at m;have f:∀x,b.a.kindOf x=(fD (fW 10 0)).names.lookup x:=λx=>by rw[←C];rfl
 have af:∀x,b.a.kindOf x≠d9 fK:=λx e=>by rw[f] at e;exact c2 _ (pB e) rfl
 have I:∀i k,xe.lookup i=d9 k->b.a.kindOf (eE (nm i))=d9 k:=λi k hi=>by rw[f,Ts];exact(mY (sX ak)).trans hi
 have S:jA (dd eb (k+4)) P em xe b:=by
  refine⟨C▸F,m,?_,?_,I,λU=>C▸hh,λU=>C▸rfl,(ey (k+4) (C▸R.e) (qh ql _))⟩
  ·unfold rP;rw[m.b];rfl
  ·unfold xM;rw[m.b];rfl
 have A:=I 50 _ rfl;rw[←Vt];refine kJ (pY (Fi m λD q B=>lw m A (v:=ec x) rfl (ey x rfl (pZ (C:=164) (d:=j) (y:=[]) m ?_ ?_ (qg S.b (by decide)).2 (by decide) ?_)) (ju 50)) (n6 (e:=.O) rfl _ _ _ _))
 all_goals
  have D1:D≠x:=λe=>by rw[e,gA] at q;exact iX q
  have v:eQ H j (.b []) D=none:=(fw _ _ D1).symm.trans q;have w:D≠j:=λe=>by rw[e,gA] at v;exact iX v
  have ac:H D=none:=(fw _ _ w).symm.trans v
 ·rw[fw _ _ D1.symm];exact gA _ _ _
 ·rw[fw _ _ w.symm,fw _ _ Y.symm];exact gA _ _ _
 generalize aa:eQ (eQ (eQ H j (.b [])) x (.h 164 j)) D (.e [])=l;have bx:l x=d9 (.h 164 j):=by rw[←aa,fw _ _ D1.symm];exact gA _ _ _
 have bD:l D=d9 (.e []):=by rw[←aa];exact gA _ _ _
 have bk:∀y o,H y=d9 o->l y=d9 o∧y≠j:=λy o B=>by
  have y1:y≠D:=λe=>by rw[e,ac] at B;exact nS B
  have y2:y≠x:=λe=>by rw[e,Z] at B;exact nS B
  have X:y≠j:=λe=>by rw[e,ae] at B;exact nS B
  rw[←aa,fw _ _ y1,fw _ _ y2,fw _ _ X];exact⟨B,X⟩
 rw[show kW (gf 16) (ec D) []=[(gf 16,ec D)] from rfl];refine zg (L:=[(gf 16,ec D),(gf 17,vi 0)]) S.b m A rfl bx Y (by decide) (iO rfl) rfl (by kernel_rfl) mE ?_;refine zg (L:=[(gf 16,ec D),(gf 17,vi 0),(gf 18,vi 0)]) S.b m A rfl bx Y (by decide) (iO rfl) rfl (by kernel_rfl) mE ?_;refine zg (L:=[(gf 16,ec D),(gf 17,vi 0),(gf 18,vi 0),(gf 19,vi 3)]) S.b m A rfl bx Y (by decide) (iO rfl) rfl (by kernel_rfl) (tj m (I 62 _ rfl) rfl) ?_;refine zg (L:=[(gf 16,ec D),(gf 17,vi 0),(gf 18,vi 0),(gf 19,vi 3),(gf 20,vi 2)]) S.b m A rfl bx Y (by decide) (iO rfl) rfl (by kernel_rfl) (tj m (I 63 _ rfl) rfl) ?_;generalize h:eQ l j (.b [(gf 16,ec D),(gf 17,vi 0),(gf 18,vi 0),(gf 19,vi 3),(gf 20,vi 2)])=T;have u:fk a t H (ua a x j D) (t5 t) T:=U0 aA J Z ae ac B (λy o B=>by rw(occs:=eO) [←h,fw _ _ (bk y o B).2];exact(bk y o B).1) (by rw(occs:=eO) [←h,fw _ _ Y];exact bx) (by rw(occs:=eO) [←h,gA];exact(by kernel_rfl:some (AO.b [(gf 16,ec D),(gf 17,vi 0),(gf 18,vi 0),(gf 19,vi 3),(gf 20,vi 2)])=some (AO.b (jv (ua a x j D) (t5 t))))) (by rw(occs:=eO) [←h,fw _ _ w];exact bD);have N:jd T (ua a x j D) (t5 t) [.b .c,.a E,.a z,.a 1,.a 3,.a 2] [ec x,vi E,vi z,vi 1,vi 3,vi 2]:=(fS _ _ rfl ⟨rfl,ig 5⟩ (fS _ _ rfl rfl (fS _ _ rfl rfl (fS _ _ rfl rfl (fS _ _ rfl rfl (fS _ _ rfl rfl rfl))))));have fr:FR b T (ua a x j D) (t5 t) (fh [50,59,60,61,62,63] ([eD.b .c,.a E,.a z,.a 1,.a 3,.a 2].map eD.e)) (iR (([50,59,60,61,62,63]:List Nat).map nm) [ec x,vi E,vi z,vi 1,vi 3,vi 2]) T:=by
  refine⟨λi az hi=>?_,λi aE az v' aF U hi U ho=>?_,λx e=>absurd e (af x),λx y ad e=>absurd e (af x),C▸.a hh⟩
  ·(refine gY (o8 (l8 r) N hi) λm1 m2 g7=>?_;refine eR g7 λaw m3 m4=>?_)
   exact(fQ aw (eH ⟨(f _).trans (c1 _ (jZ m1)),vZ (of_decide_eq_true aq) (l8 r) m4⟩) m3 (by rw[m2];nofun))
  ·refine gY (o8 (l8 r) N hi) λU m2 U=>?_
   rw[m2] at ho;exact nB ho
 refine fL (Qv (t:=t5 t) (k:=k) (E:=E) (z:=z) (F:=fh [50,59,60,61,62,63] ([eD.b .c,.a E,.a z,.a 1,.a 3,.a 2].map eD.e)) ⟨rfl,rfl,rfl,rfl⟩ rfl rfl rfl rfl) λF' av=>?_;have hk:BV.e xe ((fj (fW 10 0)).drop 5)=true:=by kernel_rfl
 refine qQ BV hk av ⟨S,fr,u.b⟩ (.e u.b) λg a' aG H2 p hf=>?_;rw[show g=fY from hf];exact G a' H2 (u.d p.a) (p.a.c (ig 5)).2.1
theorem Rl{k:Nat}{E z:Int}(F:c.e=KK P)(O:c.d)(R:Lv c (k+6))(B:c.b.handled=eh)(w:Wd H a t)(J:t.g<5)(G:∀s M,fk a t H s (ku t E z) M->Q (ec s.e) M):TC c (ec 164) [vi E,vi z,vi 1,vi 3,vi 2] V H Q:=
 E7 O (F▸xh.1) (F▸xh.2.1) (F▸xh.2.2.1) λx j i Z g Y=>Qx (c:=cA c 164 i) (k:=k) F O.l R.h B w J Z g Y λs M u e=>⟨rfl,e▸G s M u⟩
end
section
variable{c:Cx}{V:eJ}{H M:AH}{P:iE}{d:ir}{Y:gZ}{B:AH}{F K:Fr}{a w:Ad}{t O I E:eB}{Q:fH->gr->eJ->AH->Prop}{X:et->AH->Prop}{n m:Int}{j:Option Int}
theorem FR.p{g:fH}(f:FR c B a t F V H):FR (cg c g) B a t F V H:=⟨f.h,f.d,f.f,f.inj,f.b⟩
theorem FR.o{g:fH}(f:FR (Internal.cg c g) B a t F V H):FR c B a t F V H:=⟨f.h,f.d,f.f,f.inj,f.b⟩
theorem jA.o{g:fH}(b:jA d P em Y c)(O:(Internal.cg c g).d):jA d P em Y (cg c g):=⟨b.b,O,b.g,b.l,b.e,b.f,b.h,b.j.imp λn h=>⟨⟨h.1.b,h.1.a⟩,h.2⟩⟩
structure Gn(c:Cx)(k:Nat):Prop where
 h:c.a=c.n
 e:c.e.In c.m
 f:rK c.p (rM c.p []) c.r c.s c.m
 a:c.b.handled=eh
 d:c.i=eh
 b:Lv c k
theorem Gn.g{k:Nat}{g:fH}(h:Gn c k):Gn (cg c g) k:=⟨h.h,h.e,h.f,h.a,h.d,⟨h.b.b,h.b.a⟩⟩
theorem Gn.i{k:Nat}{p:List (et×fM)}(h:Gn c k):Gn (gO c p) k:=⟨h.h,h.e,h.f,h.a,h.d,⟨h.b.b,h.b.a⟩⟩
theorem Fv{s:js}{r:Ss}{z:List fG}(X:s.C Y (z.headD gH)=eb)(h:Ex d t F s .a E K)(b:Bd d P em Y c B F a t V H)(e:fk w I B a t H)
  (k:∀g f o Z,Bd d P em Y (cg c g) B K f E o Z->fk w I B f E Z->o6 (cg c g) (r.d z.tail) o Z Q):o6 c ((Ss.a s r).d z) V H Q:=by
 refine vf (Bm b.b.a (yk s X h b e λg f o Z p l=>?_));rw[show g=fY from l];exactλO=>k _ f o Z ⟨b.b.o O,p.d.p,p.a.b⟩ p.a
theorem Bw{s:js}{r:Ss}{z:List fG}(X:(Ss.a s r).e Y z=eb)(h:Ex d t F s .a E K)(b:Bd d P em Y c B F a t V H)(e:fk w I B a t H)
  (k:r.e Y z.tail=eb->∀g f o Z,Bd d P em Y (cg c g) B K f E o Z->fk w I B f E Z->o6 (cg c g) (r.d z.tail) o Z Q):o6 c ((Ss.a s r).d z) V H Q:=
 let⟨v,j⟩ :=nj.mp X;Fv v h b e (k j)
theorem Fc{f:ed}{A:List ed}{Q:ed->AH->Prop}(h:lM c f A V H Q):mR c f A V H Q X:=λE s J S N U=>h E s J S N
noncomputable def tB:fG->List fG
 |uW b _ _ _ _=>b
 |_=>[]
noncomputable def tH:fG->fE×List fG×fE
 |uW _ [uS (d9 x) eh b p] _ _ _=>(x.pos,b,p)
 |_=>(fU,[],fU)
def J2(u:fG):Stmt:=uW [qJ ((eW.j 33 zr).u (sE ((tB u).headD gH))) ((tB u).headD gH).pos] [uS (d9 (gk (ei "LispSignal") (tH u).1)) eh [.Pass ((tH u).2.1.headD gH).pos] (tH u).2.2] [] [] u.pos
def J3(V:eJ)(a:Ad)(t:eB)(H:AH)(O:eB):eJ->et->AH->Prop:=λl C M=>l=V∧XQ a t H O C M
theorem Ve{k:Nat}{u:fG}{R:List Int}{A:Nat}{r:Int}(b:Bd (dd eb (k+6)) P em Y c B F a t V H)(G:Gn c (k+6))(q:u=J2 u)(X:(eW.j 33 zr).y em Y em (sE ((tB u).headD gH))=eb)(z:jU Y 44 eY=eb)
  (L:Lw t R A r) (hA:A≤40) (hB:r≤8000) (e:BF F R) (O:F 53=d9 (.a n)) (K:F 56=d9 (.a m)) (W:n∈t.b) (hx:Ax m)
  (hq:∀g f E Z,Tn c g->fk a t H f E Z->Lw E R (A+2) (r+2)->Q g fY V Z):vq c u V H Q:=by
 rw[q];refine qr (QP (k:=k+5) L hB e O K) λI o E d J i=>?_;refine Nd (C:=38) (N:=37) (W:=35) (X:=J3 V a t H E) b.b.a G.d G.h G.e G.f (b.b.b▸zW) (b.b.b▸(by kernel_rfl:jg (KK P) j4 (ei "LispSignal")=some (some (.ref 38)))) (j' b.b z) (by kernel_rfl) ?_ (λU U U h=>h.2.1) ?_
 ·refine Ft (E2 (Fp X d b λus f Z p N=>?_) b.b.g rfl)
  have j:∀S,Lw S R (A+2) (r+2)->∀l T,fk f E Z l S T->(sf c [] V T (λe aa M=>Q c.f e aa M) (J3 V a t H E)):=λS x l T D=>Fu (qV (hq _ l S T (.a b.b.a) (p.d D) x));have y:[eD.b .c,.a n,jX I,.a m,.d o].map eD.e=[.b .c,.a n,jX I,.a m,.d o]:=by(clear d N;cases I)<;>rfl
  rw[y] at N;rcases J.M (j:=I) (o:=o) hA (i▸W) hx (k:=k) with ⟨rk,w,hr⟩ |⟨v,S,ac,x⟩
  ·exact(UK (k:=k) b.b.b b.b.a G.b G.a G.d p.b N w.y (i▸W) hr).b λC T h=>⟨rfl,vg p _ _ h⟩
  ·exact Fc (qh ql (k+6) c b.b.b b.b.a G.b (λU=>G.a) _ _ _ _ _ ac _ _ _ _ _ p.b (.a G.a) N λaf l T D U U=>j S x l T D)
 ·rintro g aa M hT ⟨rfl,_,f,ae⟩
  exact hq g f E M hT ae { J with b:=im J.b (xF _ _) }
end
section
variable{c:Cx}{V:eJ}{H M:AH}{P:iE}{d:ir}{Y:gZ}{B:AH}{F K:Fr}{a w:Ad}{t O I E:eB}{n m:Int}{j:Option Int}
abbrev BY:Ss:=.a CB (.a HB (.a .p (.a HC .b)))
structure LJ(c:Cx)(a0:Ad)(t0:eB)(B:AH)(i:Nat)(ρ:eJ)(H:AH):Prop where
 b:∃a t R F,FR c B a t F ρ H∧fk a0 t0 B a t H∧BF F R∧Lw t R (1+2*i) (30+10*i)∧R.length≤1+i
theorem QQ{k:Nat}{st:fG}{z:List fG}{i:Nat}{Q:fH->gr->eJ->AH->Prop}{R:List Int}(cx:jA (dd eb (k+6)) P em Y c)(G:Gn c (k+6))(X:BY.e Y z=eb)(q:z.tail.tail.headD gH=J2 (z.tail.tail.headD gH))
  (x:(eW.j 33 zr).y em Y em (sE ((tB (z.tail.tail.headD gH)).headD gH))=eb) (hk:jU Y 44 eY=eb) (fr:FR c B a t F V H) (S:fk w I B a t H) (f:BF F R) (aa:Lw t R (1+2*i) (30+10*i)) (hR:R.length≤1+i) (D:i<10)
  (hq:∀g l M,LJ c w I B (i+1) l M->Q g fY l M):o6 c (BY.d z) V H Q:=by
 (refine ut (QN (k:=k+5) aa (by lia) f) λn m K F2 E e1 O J L=>?_;refine mf L λW Z f2 ac ae=>?_)
 refine Bw X e1 ⟨cx,fr,S.b⟩ S λX L a1 aq H1 y s=>?_;refine Bw X O y s λX T a2 aj H2 u ag=>?_;refine fq X λU af=>?_;refine vf (Ve (k:=k) u G.g.g q x hk J (by lia) (by lia) f2 ac ae W Z λA N C H3 U r b h=>?_);refine mZ (QO (k:=k+3) b (by lia) (by lia) f2) λp R4 F4 e4 o f4 ak=>?_;have v:Bd (dd eb (k+6)) P em Y (cg (cg (cg c L) T) A) B F2 N C aj H3:=⟨u.b.o h,(u.e r).g.p,r.b⟩;refine Bw af e4 v (ag.d r) λU g4 a4 au H4 d j=>Os d.b.a (hq _ _ _ ⟨a4,p,R4,F4,d.g.o.o.o.o,j,f4,?_,by lia⟩);have e:(30:Int)+10*((i+1:Nat):Int)=30+10*i+10:=by lia
 rw[e];exact{ o with a:=by have:=o.a;lia,b:=by have:=o.b;lia }
theorem Ps{k:Nat}{Q:ed->AH->Prop}(hK:c.e=KK P)(aC:c.d)(lv:Lv c (k+7))(B:c.b.handled=eh)(aI:c.i=eh)(aP:c.o=[])(XB:c.e.In c.m)(TB:rK c.p (rM c.p []) c.r c.s c.m)(aX:Wd H a t)(h5:t.g<5)(p0:0≤t.e∧t.e≤10)(X:t.k.length≤100)
  (hq:∀a' O M R r l,fk a t H a' O M->Lw O R 15 100->R.length≤20->M r=d9 (.f [ec a'.e,ec l])->VR M a' O (.c eb (eF R.reverse)) (ec l)->H l=eh->Q (ec r) M):lM c (ec 352) [ec a.f] V H Q:=by
 have aJ:((n8.all λp=>eU (p.1<113))&&(([98]:List Nat).all λi=>eU (i<113))&&eU ([98]:List Nat).Nodup)=true:=by kernel_rfl
 refine fq aJ λaM aL=>?_;refine fq aM λaK ae=>?_;have hc:qt (fD (eS 42)) (([98]:List Nat).map nm)=true:=by kernel_rfl
 refine wO hc λc1 c2 c3 J c5=>?_;have h1:(KK P).lookup 352=d9 ⟨eK "function",eh,gQ (eS 42) (ei "_law_built") (ei "_law_built") ez (eC (ei "law_ok0064_01") 676) (ec 351),#[]⟩ :=rfl;have hb:sH (lK (ei "_law_built") (ei "_law_built") (qi (eS 42)) (fj (eS 42)) (fD (eS 42)) ez ez ez (eC (ei "law_ok0064_01") 676) eh (ec 351) ez) (([98]:List Nat).map nm):=ij λa=>.a (by kernel_rfl);refine NL aC aI aP (hK▸h1) (hK▸(by kernel_rfl:pR (KK P) (.ref 351) (ei "_law_built")=true)) lv.g (([98]:List Nat).map nm) (λba vs N=>Ee (hb vs N)) c1 c2 c3 J c5 λg av m=>?_;generalize C:iM c g av (kS (ei "_law_built") (fD (eS 42)) av 352 (ec 351) [])=b at m;have aj:∀x,b.a.kindOf x=(fD (eS 42)).names.lookup x:=λx=>by rw[←C];rfl
 have az:∀x,b.a.kindOf x≠d9 fK:=λx e=>by rw[aj] at e;exact c2 _ (pB e) rfl
 have kd:∀i k,n8.lookup i=d9 k->b.a.kindOf (eE (nm i))=d9 k:=λi k D=>by rw[aj,TX];exact(mY (sX aK)).trans D
 have ak:Lv b (k+6):=C▸lv.e;have cx:jA (dd eb (k+6)) P em n8 b:=by
  refine⟨C▸hK,m,?_,?_,kd,λU=>C▸B,λU=>C▸rfl,(ey (k+6) ak (qh ql _))⟩
  ·unfold rP;rw[m.b];rfl
  ·unfold xM;rw[m.b];rfl
 have G:Gn b (k+6):=⟨by rw[←C];rfl,C▸XB,C▸TB,C▸B,C▸rfl,ak⟩;have aQ:∀a o,¬b.j a o:=λa o h=>by rw[←C] at h;exact h
 have N:jd H a t [.h] [ec a.f]:=(fS _ _ rfl rfl rfl);let F0:Fr:=fh [98] [.h];have fr:FR b H a t F0 (iR (([98]:List Nat).map nm) [ec a.f]) H:=by
  refine⟨λi aW D=>?_,λi bf aW v' r U D U y=>?_,λx e=>absurd e (az x),λx aY ad e=>absurd e (az x),.a G.a⟩
  ·(refine gY (o8 (k:=[.h]) (l8 ae) N D) λm1 m2 g2=>?_;refine eR g2 λu m3 m4=>?_)
   exact(fQ u (eH ⟨(aj _).trans (c1 _ (jZ m1)),vZ (of_decide_eq_true aL) (l8 ae) m4⟩) m3 (by rw[m2];nofun))
  ·refine gY (o8 (k:=[.h]) (l8 ae) N D) λU m2 U=>?_
   rw[m2] at y;exact nB y
 have b0:Bd (dd eb (k+6)) P em n8 b H F0 a t (iR (([98]:List Nat).map nm) [ec a.f]) H:=⟨cx,fr,aX⟩;rw[←VO]
 --aA=bc(..)
 refine v8 (e:=.d 40) (k:=k+5) (t:=t) (F:=F0) rfl (by decide) p0.1 (by lia) X rfl λZ d1 q0 q1=>?_;refine v8 (e:=.d 30) (k:=k+5) (t:={ t with e:=t.e+1 }) (F:=F0) rfl (by decide) (by show 0≤t.e+1;lia) (by show t.e+1≤_;lia) X rfl λL d2 q2 q3=>?_;let E:eB:={ t with e:=t.e+1+1 };let w:Es:=.a (.p io (.d 24) (.j 39 (.a (.a 98) (.a (.d 40) .b)))) (.a (.p io (.d 16) (.j 39 (.a (.a 98) (.a (.d 30) .b)))) (.a (.d 1) (.a (.d 3) (.a (.d 2) .b))));have ev:lW (dd eb (k+6)) t F0 w [.a (24+Z),.a (16+L),.a 1,.a 3,.a 2] E:=eV (hZ (v:=.a 24) rfl d1 rfl) (eV (hZ (v:=.a 16) rfl d2 rfl) rfl);have aH:w.f em n8 em (xl (sE ((fj (eS 42)).headD gH)))=true:=by kernel_rfl
 have aO:js.C n8 (.a 103 (.z (.a (.c (.a 66) 22) .b))) ((fj (eS 42)).tail.headD gH)=true:=by kernel_rfl
 refine vf (Bm m (tP (tT (f:=ec 164) m (mH w _) (tU (v:=ec 164) cx.b m (kd 45 _ rfl) xh.2.2.2.2 ⟨rfl,rfl,λu hu=>gX hu,vc (cx.b▸xh.2.2.2.1),(mP w).1 aH ev b0 λus a1 H1 p N U=>?_⟩ (ju 45))) rfl));clear U;obtain⟨u1,f,rfl,rfl,N⟩ :=N;obtain⟨u2,f,rfl,rfl,N⟩ :=N;obtain⟨u3,f,rfl,rfl,N⟩ :=N;obtain⟨u4,f,rfl,rfl,N⟩ :=N;obtain⟨u5,f,rfl,rfl,N⟩ :=N;obtain rfl:f=[]:=N;refine Rl (k:=k) cx.b m ak G.a p.b h5 λa2 H2 Y=>?_;have L2:=Vb (t:=E) (E:=24+Z) (z:=16+L) (by lia) (by lia) (by show 0≤t.e+1+1;lia) X;refine qU (i:=66) (v:=.b .c) (b0.e (p.d Y)) (p.d Y) (by kernel_rfl) ⟨rfl,iO rfl⟩ (λh=>nB h) (λh=>nB h) λaZ H3 U q O3=>?_;have v:Bd (dd eb (k+6)) P em n8 (cg b b.f) H (eL F0 66 (.b .c)) a2 (ku E (24+Z) (16+L)) aZ H3:=⟨cx.o O3,q.d.p,q.a.b⟩
 --aV=[aA.selected]
 have e2:Ex (dd eb (k+6)) (ku E (24+Z) (16+L)) (eL F0 66 (.b .c)) (.a 103 (.z (.a (.c (.a 66) 22) .b))) .a (ku E (24+Z) (16+L)) (eL (eL F0 66 (.b .c)) 103 (.c eb [.a 1])):=fO rfl rfl;refine Fv aO e2 v q.a λg4 a4 bn H4 d aT=>?_;generalize ac:cg (cg b b.f) g4=J at d;have G4:Gn J (k+6):=ac▸G.g.g;have aR:∀a o,¬J.j a o:=λa o h=>by rw[←ac] at h;exact aQ a o h
 have ag:∀i k,n8.lookup i=d9 k->J.a.kindOf (eE (nm i))=d9 k:=λi k D=>by rw[←ac];exact kd i k D
 --for bg in bh(1+be(6))
 have aB:Lw (ku E (24+Z) (16+L)) [1] (1+2*0) 20:={ L2 with a:=by show t.e+1+1≤20;lia,b:=ig _ };have f4:BF (eL (eL F0 66 (.b .c)) 103 (.c eb [.a 1])) [1]:=⟨rfl,rfl,rfl⟩;refine aB.f (e:=.d 6) (m:=6) (k:=k+5) (by lia) f4.a (by decide) rfl λr3 d3 s0 s1 L5=>?_;let n:Es:=.a (.p io (.d 1) (.j 39 (.a (.a 98) (.a (.d 6) .b)))) .b;have aD:lW (dd eb (k+6)) (ku E (24+Z) (16+L)) (eL (eL F0 66 (.b .c)) 103 (.c eb [.a 1])) n [.a (1+r3)] _:=eV (hZ (v:=.a 1) rfl d3 rfl) fJ;let z:=(fj (eS 42)).tail.tail;have aF:n.f em n8 em (xl (sE (z.headD gH)))=true:=by kernel_rfl
 have aq:jg (KK P) j4 (eE (nm 9))=d9 eh∧uY (eE (nm 9))=d9 (eK "range")∧eE (nm 9)≠"__name__":=⟨by kernel_rfl,by kernel_rfl,by decide+kernel⟩;have aG:BY.e n8 (sB (z.headD gH))=true:=by kernel_rfl
 refine vf (Nc d.b.a (Y:=[nm 104]) (λaY hy=>by rw[gR.mp hy];exact ag 104 _ rfl) aR (Fx d.b.a G4.a (rV d.b.a (ag 9 _ rfl) (d.b.b▸aq.1) aq.2.1 aq.2.2 ⟨rfl,(mP n).1 aF aD d λus a5 H5 p5 af U=>?_⟩ (ju 9)) (mH n _)) λU=>rfl);clear U;obtain⟨u1,f,rfl,rfl,af⟩ :=af;clear U;obtain rfl:f=[]:=af;refine fL (Kq (show 0≤1+r3 by lia)) λaS hm=>?_;rw[hm];refine⟨aS,rfl,by lia,LJ J a t H,⟨a5,_,[1],_,(d.e p5).g,aT.d p5,f4,{ L5 with a:=jY L5.a (by decide) },ig _⟩,λU U U U=>trivial,?_,?_⟩
 ·rintro g hT i au H6 p D ⟨a6,K,R6,I,aa,j,F,L6,aw⟩
  have aE:FR J H a6 K (eL I 104 (.a i)) (ic au (nm 104) (vi i)) H6:=aa.l (by decide) (ag 104 _ rfl) rfl (λh=>nB h) (λh=>nB h);exact QQ (k:=k) (st:=gH) ((d.b.o hT.2).m) G4.g.i aG (by kernel_rfl) (by kernel_rfl) (by kernel_rfl) aE.p.m j (F.f (by decide)) L6 aw (by lia) λg' bj M q=>lC q.b λa' O R' A q=>⟨a',O,R',A,q.1.n.o,q.2⟩
 ·rintro g au H6 hT ⟨a6,K,R6,I,aa,j,F,L6,aw⟩ O6
  have b6:Bd (dd eb (k+6)) P em n8 (cg J g) H I a6 K au H6:=⟨d.b.o O6,aa.p,j.b⟩
  --return(aA,aV)
  refine b6.h F.b λu1 W U U n1=>?_
  (refine fe W λe3 U=>?_;(clear W;obtain rfl:=e3))
  refine b6.h F.c λu2 v2 U o2 n2=>?_
  (refine eR (o2 rfl) λl e4 hl=>?_;(clear o2;(clear U;obtain rfl:=e4)))
  refine vf (Bm O6 (yp (Bu (jk (n1 _ _ (jk (n2 _ _ (kC ⟨iO rfl,λr hr=>?_⟩)) λU=>rfl)) λU=>rfl))));have aU:=j.d (.g (o:=.f [ec a6.e,ec l]) j.b hr);exact hq a6 K _ R6 r l aU { L6 with a:=by have:=L6.a;lia,b:=by have:=L6.b;lia } (by lia) (gA _ _ _) (v2.a (.g j.b hr) j.b) hl
end
section
variable{c:Cx}{V:eJ}{H M:AH}{P:iE}{d:ir}{Y:gZ}{B:AH}{F K:Fr}{a w:Ad}{t O I E:eB}{n m:Int}
noncomputable def iz:gZ:=[(107,eu),(98,eu),(66,fK),(103,eu),(108,eu),(109,eu),(53,eu),(100,eu),(110,eu),(111,eu),(56,eu),(104,eu),(65,eu),(57,eu),(42,eY),(39,eY),(30,eY),(40,eY),(13,eY),(14,eY),(26,eY),(28,eY),(41,eY),(44,eY),(9,eY),(43,eY),(18,eY),(0,eY),(38,eY)]
theorem IM:(fD (eS 44)).names=(fN iz).names:=by kernel_rfl
theorem Ob{w C:eP}{p d:fE}{Q:ed->AH->Prop}{l:et}{a:Array ed}(i:c.f.IsList l a)(P:a.size≤100000)
  (h:TE c w V H (λv Z=>v=ec l∧TE c C V Z (λk T=>∃n:Nat,k=vi n∧∀D,T D=eh->Q (ec D) (eQ T D (.a ((a.toList.map nv).take n)))))):
  TE c (pN w (xN eh (d9 C) eh p) d) V H Q:=λE s S=>by
 refine KS (fc (h E s S) (λv g G=>?_) λU U x=>x);obtain⟨Z,m,N,G⟩ :=G;obtain rfl:=gX N;refine wpAny_Slice (iA (fc (G E g m) (λk f G=>iA ?_) λU U x=>x));obtain⟨T,r,n,z,G⟩ :=G;obtain⟨t,rfl⟩ :=uo z;obtain⟨o,L,b,I,A⟩ :=i;obtain⟨_,F,_⟩ :=r.e;refine I1 (P:=f) r (fQ o (F.keep _ _ L) b ⟨I,A⟩) rfl (by rw[fC,tm];exact P) .none (.int n t) .none (by decide) (A:=(a.toList.map nv).take n) (λa e=>?_) rfl G;rw[slicePick_upto',←e];simp
noncomputable def th:gZ:=[(48,eu),(112,eu),(4,eY)]
noncomputable def Uy:eP->eP
 |xN _ (d9 u) _ _=>u
 |_=>fU
def PX(e:eP):Expr:=pN ((eW.a 107).u (x1 e)) (xN eh (d9 ((eW.d 63).u (Uy (x2 e)))) eh (x2 e).pos) e.pos
def Cd(e:eP):Expr:=pM ((eW.w 4 (.a 112)).u (x1 e)) [⟨jy 112 (xg e).target,PX (xg e).iter,[],0⟩] (fN th) e.pos
def PY(u:fG):Stmt:=lm [jy 98 (sT u)] (AV [Cd ((xl (sE u)).headD fU),(eW.d 0).u ((xl (sE u)).tail.headD fU)] (sE u).pos) u.pos
noncomputable def sg(i:Int):Int:=if i<0 then-i else i
def tI(S:List Int):eB:=⟨λU=>w0 0,0,[],0,0,0,0,0,S,0⟩
theorem PM{X:List Int}{a:Array ed}{l:et}{e:eP}{Q:ed->AH->Prop}(S:jA d P em iz c)(s:c.b.handled=eh)(t:c.f.IsList l a)(b:a.toList.map nv=X.map vi)(W:X.length≤63)(K:c.a.kindOf (eE (nm 107))=d9 eu)(A:V (nm 107)=d9 (ec l))
  (G:∀M D,(∀x o,H x=d9 o->M x=d9 o)->M D=eh->Q (ec D) (eQ M D (.a ((X.map sg).map vi)))):TE c (Cd e) V H Q:=by
 have F:mh iz [112] th=true:=by kernel_rfl
 have T:a.size=X.length:=by rw[←tm,←fC (f:=nv),b,fC]
 refine Fk S.a (S.h rfl) (Gw λy B e=>?_) (λy B=>?_) (Y:=[nm 112]) (Oy s (Ob t (by lia) (tj S.a K A _ ⟨rfl,mE _ (ey 63 rfl (λD n=>(fS D _ rfl (gA _ _ _) ?_)))⟩))) (λU=>rfl) (zS F) rfl (zU F)
 ·have:∀p∈(fN th).names,p.2≠gb:=by
   intro p J
   (refine fP J λq G R=>?_;(clear J;obtain rfl:=R))
   exact of_decide_eq_true (p:=∀q∈th,q.2≠gb) (by kernel_rfl) q G
  exact absurd e (this y B)
 ·obtain rfl:=gR.mp B
  exact(mY (uv F)).trans rfl
 rw[b,KL (by rw[fC];exact W)];generalize O:eQ H D (.a (X.map vi))=Z;have R:∀x o,H x=d9 o->Z x=d9 o:=λx o h=>O▸rn n x o h;have f:Z D=d9 (.a (X.map vi)):=O▸gA _ _ _;refine(ey (λi z M=>M=Z∧z=((X.take i).map sg).map vi∧i≤X.length) ⟨⟨rfl,rfl,pL _⟩,?_,?_⟩ ?_)
 ·rintro i z M ⟨rfl,rfl,h⟩
  refine⟨f,?_⟩;rw[fC,fC,xB];lia
 ·rintro i z M C m r w L ⟨rfl,rfl,h⟩ Y
  have L:i<X.length:=by simpa using L
  have N:∀j k,th.lookup j=d9 k->k≠gb->(cc c (fN th) (sK c.a.cells (fN th).names []) C m r).a.kindOf (eE (nm j))=d9 k:=λj k h u=>by
   have:=wj (C:=C) (m:=m) (r:=r) S F h;rw[if_neg u] at this;exact this
  have E:jg (KK P) j4 (eE (nm 4))=d9 eh∧uY (eE (nm 4))=d9 (iP "abs")∧eE (nm 4)≠"__name__":=⟨by kernel_rfl,by kernel_rfl,by decide+kernel⟩;refine Bz ?_;rw[if_pos rfl];refine(tT (f:=iP "abs") Y rfl (rV Y (N 4 _ rfl nofun) (by show jg c.e _ _=_;rw[S.b];exact E.1) E.2.1 E.2.2 ⟨rfl,rfl,λaa g=>Ip g,.a,jk (tj (u:=vi X[i]) Y (N 112 _ rfl nofun) ?_ _ (kC (Nu ⟨rfl,?_,L⟩))) λU=>rfl⟩ (ju 4)))
  ·show ic w _ _ _=_
   rw[wF,lE,lF,jF L];rfl
  ·rw[WY L,lb,lb];rfl
 ·rintro z M ⟨rfl,rfl,_⟩ I v
  rw[fC,WW];exact G M I R v
theorem PN{X:List Int}{F:Array ed}{l:et}{e:eP}{O:eP}{i:fE}{Q:ed->AH->Prop}(S:jA d P em iz c)(B:c.b.handled=eh)(C:c.f.IsList l F)(g:F.toList.map nv=X.map vi)(W:X.length≤63)(K:c.a.kindOf (eE (nm 107))=d9 eu)(A:V (nm 107)=d9 (ec l))
  (G:∀a M,(∀x o,H x=d9 o->M x=d9 o)->Wd M a (tI (X.map sg))->H a.f=eh->Q (ec a.f) M):TE c (AV [Cd e,(eW.d 0).u O] i) V H Q:=by
 refine Bs (jk (PM S B C g W K A λZ D R q=>jk (mE _ (kC ⟨iO rfl,λw J=>?_⟩)) λU=>rfl) λU=>rfl);have b:w≠D:=λe=>by rw[e,gA] at J;exact iX J
 have I:Z w=none:=(fw _ _ b).symm.trans J;have f:H w=none:=by
  cases j:H w with
  |none=>rfl
  |some o=>rw[R _ _ j] at I;exact iX I
 exact G ⟨w,w,w,w,D,λU=>w,λU=>w,λU=>w,λU=>w,λU=>w⟩ _ (λx o h=>rn J x o (rn q x o (R x o h))) ⟨gA _ _ _,(fw _ _ (gM b)).trans (gA _ _ _),b,λh=>absurd h (by decide:¬5≤0)⟩ f
end
section
variable{c:Cx}{V:eJ}{H M:AH}{P:iE}{d:ir}{Y:gZ}{B:AH}{F K:Fr}{a w:Ad}{t O I E:eB}{n m:Int}
noncomputable def mi:gZ:=[(48,eu),(53,eu),(66,gb)]
noncomputable def PK:eP->eP
 |qG k _ _ _ _=>k
 |_=>fU
noncomputable def PL:eP->eP
 |qG _ v _ _ _=>v
 |_=>fU
noncomputable def Cb:eP->Comprehension
 |qG _ _ [g] _ _=>g
 |_=>fU
noncomputable abbrev v9:eW:=.c (.a 66) 16
abbrev Ce(f:Nat):eW:=.c (.n v9 (.a 53)) f
def OV(e:eP):Expr:=qG ((eW.a 53).u (PK e)) ((eW.A (.a (Ce 6) (.a (Ce 7) .b))).u (PL e)) [⟨jy 53 (Cb e).target,v9.u (Cb e).iter,[],0⟩] (fN mi) e.pos
def FN(u:fG):Stmt:=lm [jy 100 (sT u)] (OV (sE u)) u.pos
noncomputable def KT(H:AH)(g:Int->List Int):List Int->List (Int×ed)->Prop
 |[],A=>A=[]
 |n::X,A=>∃r f,A=(n,ec r)::f∧H r=d9 (.f ((g n).map vi))∧KT H g X f
variable{g:Int->List Int}
theorem KT.e(c:∀x A,H x=d9 (.f A)->M x=d9 (.f A)):∀{X:List Int} {A:List (Int×ed)},KT H g X A->KT M g X A:=by
 intro N
 induction N with
 |nil=>
  intro U a;exact a
 |cons U _ D=>
  intro U L;exact fT L λr d R a S=>⟨r,d,R,c _ _ a,D S⟩
theorem KT.h{n:Int}{r:et}(E:H r=d9 (.f ((g n).map vi))):∀{X:List Int} {A:List (Int×ed)},KT H g X A->KT H g (X++[n]) (A++[(n,ec r)]):=by
 intro N
 induction N with
 |nil=>
  intro U a;exact(fS r ([]) (by rw[show _=[] from a];rfl) E rfl)
 |cons U _ D=>
  intro U Z;exact fT Z λq c R a S=>⟨q,_,by rw[R];rfl,a,D S⟩
theorem KT.b:∀{X:List Int} {A:List (Int×ed)},KT H g X A->A.map (·.1)=X:=by
 intro N
 induction N with
 |nil=>
  intro U a;rw[show _=[] from a];rfl
 |cons U _ D=>
  intro U j;exact fT j λq c R a S=>by rw[R,gj,D S]
theorem KT.f{n:Int}{v:ed}{X:List Int}{A:List (Int×ed)}(c:KT H g X A)(W:n∉X):qx A n v=A++[(n,v)]:=by
 have:¬(A.any λT=>eU (T.1=n))=true:=λq=>by
  refine eR (AF.mp q) λp J a=>?_;exact W (c.b▸(of_decide_eq_true a)▸jZ J)
 exact if_neg this
theorem KT.i{X:List Int}{A:List (Int×ed)}(a:KT H g X A):A.length=X.length:=by rw[←a.b,fC]
theorem Lu:∀{l:List Int},gN H a t (l.map .a) (l.map vi):=by
 intro N
 induction N with
 |nil=>
  exact rfl
 |cons U _ D=>
  exact(fS _ _ rfl rfl D)
theorem LV:∀{X:List Int} {A:List (Int×ed)},KT H g X A->jK H a t (X.map λn=>(n,tp (g n))) A:=by
 intro N
 induction N with
 |nil=>
  intro U h;exact h
 |cons U _ D=>
  intro U L;exact fT L λq f R h S=>⟨_,_,R,⟨q,_,rfl,h,Lu⟩,D S⟩
theorem CX{L:Type}{f:Int->L}:∀{l:List Int} {n:Int},n∈l->(l.map λn=>(n,f n)).lookup n=d9 (f n)
 |x::r,n,h=>by
  rw[gj,iw];cases e:n==x with
  |true=>rw[beq_iff_eq.mp e]
  |false=>exact CX ((gy.mp h).resolve_left λq=>by rw[q,beq_self_eq_true] at e;exact CP e)
theorem Oq{Z:List fG}{z:et}{o:fM}{G:List (Int×ed)}{Q:gr->eJ->AH->Prop}(D:H z=d9 (.c o))(y:OR c.l c.k (.e G) o)(h:TS c Z V (eQ H z (.e G)) Q):TS c Z V H Q:=λE s S=>by
 refine h E s (St.A (o:=o) ?_ y);rw[Ka D];exact S
theorem tX.h{f:String}{x C z:et}{y:List (String×ed)}{u:ed}{b:Cx}(h:tX c H f x C z y u)(F:b.e=c.e)(e:∀x o,H x=d9 o->(∀k,o≠.e k)->M x=d9 o):tX b M f x C z y u:=
 ⟨e _ _ h.e nofun,e _ _ h.b nofun,h.d,by have:=h.g;unfold CA at this ⊢;rw[F];exact this,h.a⟩
theorem Fj{f:Nat}{e:eW}{X C z:et}{y:List (String×ed)}{u:ed}{a:eP}{Q:ed->AH->Prop}(O:c.d)(J:e.Q=eb)(g:tX c M (gf f) X C z y u)(n:∀R:ed->AH->Prop,R (ec X) M->TE c (e.u (x1 a)) V H R)(G:Q u M):TE c ((eW.c e f).u a) V H Q:=
 qR O (wS J _) (n _ ⟨X,C,z,y,u,rfl,g.e,g.b,g.d,g.g,g.a,G⟩)
def uk(t:eB):List (Int×eT):=t.b.map λn=>(n,tp [sz t 0 n,sz t 1 n])
theorem OX{u:fG}{au:List fG}{Q:gr->eJ->AH->Prop}(b:Bd d P em iz c (λU=>eh) F a t V H)(B:c.b.handled=eh)(aG:u=FN u)(hl:((sT u).pos.line==(sE u).pos.line)=eb)(aC:v9.y em iz em (Cb (sE u)).iter=eb)(ac:F 66=d9 (.b .c))(h7:t.g=7)(aK:t.b.length≤100)
  (hq:∀a' l M,Bd d P em iz c (λU=>eh) (eL F 100 (.g eb (uk t))) a' t l M->fk a t H a' t M->TS c au l M Q):TS c (u::au) V H Q:=by
 have ok:mh iz [53] mi=true:=by kernel_rfl
 have aI:((fN mi).names.any λ(n,k)=>n==eE (nm 100)&&(k==eu||k==fK))=false:=by kernel_rfl
 rw[aG];refine b.h ac λu0 v0 aF U U=>?_
 (refine fe v0 λR J=>?_;(clear v0 aF;(clear U;clear U;obtain rfl:=R)))
 have ev:Ev d t F v9 .j t:=ji (f:=0) (v:=.j) ac rfl h7;refine kJ (M6 b.b.a (b.b.h rfl) ?_ (b.b.e 100 _ rfl) (C8 b ok) (λaf hy=>?_) (Ow B ((fR v9).1 aC ev b λu1 f Z p aj U=>?_)) (λU=>rfl) (zS ok) rfl (zU ok))
 ·show(f9 (c.a.blockKind==jH&&c.a.kindOf (eE (nm 100))==d9 eu&&(sT u).pos.line==(sE u).pos.line&&!((fN mi).names.any λ(n,k)=>n==eE (nm 100)&&(k==eu||k==fK))):Sem Bool)=f9 eb
  rw[aI,b.b.l,b.b.e 100 _ rfl,hl];rfl
 ·obtain rfl:=gR.mp hy
  exact(mY (uv ok)).trans rfl
 (refine fe aj λO U=>?_;(clear aj;obtain rfl:=O))
 have y:=b.e p;have v:=p.b.b J;refine y.h ac λu2 v2 aE U U=>?_
 (refine fe v2 λe3 U=>?_;(clear v2;obtain rfl:=e3))
 refine kD (aE.resolve_left λq=>by
  have:=b.b.e 66 _ rfl;rw(occs:=eO) [q.1] at this;cases this) λaL ad cl aB=>?_
 refine(kM f.c _ rfl v.h v.c (λo ho U=>?_));generalize A:eQ Z f.c (.c o)=N;have er:∀x w,Z x=d9 w->(∀k,w≠.e k)->N x=d9 w:=λx w K I=>by
  rw(occs:=eO) [←A,fw _ _ λe=>?_]
  ·exact K
  ·rw(occs:=eO) [e,v.c] at K;exact I _ (eX K).symm
 have S:N f.c=d9 (.c o):=A▸gA _ _ _;refine wc (f:=16) b.b.b p.b (v:=.b .c) ⟨rfl,J⟩ (b:=.j) (show t.n[0]? =d9 .j by rw[we h7];rfl) λx0 C0 d0 f0 w0 e0 gT vT U=>?_
 (replace e0:=lq e0;subst e0)
 (refine fe vT λe4 U=>?_;(clear vT;obtain rfl:=e4))
 refine(ey (λi z M=>(∀x w,N x=d9 w->M x=d9 w)∧KT M (λn=>[sz t 0 n,sz t 1 n]) (t.b.take i) z) ⟨⟨λU U h=>h,rfl⟩,?_,?_⟩ ?_)
 ·rintro i z M ⟨e,k⟩
  refine⟨e _ _ S,?_⟩;rw[k.i,xB];lia
 ·rintro i z M C m r av L ⟨e,kt⟩ Y
  rw[fC] at L;have kk:∀j k,mi.lookup j=d9 k->(cc c (fN mi) (kn c mi) C m r).a.kindOf (eE (nm j))=d9 (if k=gb then fK else k):=λj k h=>wj b.b ok h;have ak:=kk 53 _ rfl;have aq:=kk 66 _ rfl;have aw:(cc c (fN mi) (kn c mi) C m r).a.cells.lookup (eE (nm 66))=d9 ad:=B9 cl (eH (Cs (C:=C) (m:=m) (r:=r) b.b ok aq).2);have W:t.b[i]∈t.b:=uH L;generalize ae:t.b[i]=n at W;have aD:=v.f n W;have g:ic av (nm 53) (ej (((t.b.map λn=>(n,ec (f.b n))).map (·.1)).getD i 0) 0) (nm 53)=d9 (vi n):=by
   rw[wF,gJ,lE,lF,jF L,ae];rfl
  have ag:∀{aa:Nat} {X:Int} {af:eP} {T:AH} {Q:ed->AH->Prop},((t.a n).n n t.h)[aa]? =d9 (.a X)->(∀x w,N x=d9 w->T x=d9 w)->Q (vi X) T->TE (cc c (fN mi) (kn c mi) C m r) ((Ce aa).u af) (ic av (nm 53) (ej (((t.b.map λn=>(n,ec (f.b n))).map (·.1)).getD i 0) 0)) T Q:=by
   intro aa X af T Q hg O hQ;refine wc (f:=aa) b.b.b p.b (v:=.b (.d n)) ⟨rfl,J,aD⟩ (b:=.a X) hg λx1 C1 d1 f1 w1 R gW vW U=>?_
   (replace R:=lq R;subst R)
   obtain rfl:w1=vi X:=vW;refine Fj Y rfl (gW.h (b:=cc c (fN mi) (kn c mi) C m r) rfl λx o K I=>O _ _ (er _ _ K I)) (λaJ hR=>?_) hQ;refine Bt (Fj Y rfl (gT.h (b:=cc c (fN mi) (kn c mi) C m r) rfl λx o K I=>O _ _ (er _ _ K I)) (λR' aA=>Fh Y aq aw (O _ _ (er _ _ aB nofun)) aA (ju 66)) (lw Y ak g (OA (O _ _ S) ho (CX W) hR λU U=>rfl) (ju 53)))
  refine Bz ?_;rw[if_pos rfl];refine lw Y ak g (ey n rfl (Bu (jk (ag (aa:=6) (X:=sz t 0 n) rfl e (jk (ag (aa:=7) (X:=sz t 1 n) rfl e (kC ⟨iO rfl,λaM hr=>?_⟩)) λU=>rfl)) λU=>rfl))) (ju 53);have aH:n∉t.b.take i:=by
   have:=v.g.1;rw[←tv i t.b,qE] at this;exactλq=>this.2.2 n q n (ae▸Ku L▸gp ..) rfl
  refine⟨λx w h=>rn hr x w (e x w h),?_⟩;rw[kt.f aH,WY L,ae];exact(kt.e λx us h=>rn hr x _ h).h (gA _ _ _)
 ·rintro z M ⟨e,kt⟩ D hD az
  rw[fC,WW] at kt;have s:D≠f.c:=λq=>by rw[q,e _ _ S] at hD;exact iX hD
  refine Oq (z:=f.c) (o:=o) ((fw _ _ (gM s)).trans (e _ _ S)) ho ?_;have ext:∀x w,Z x=d9 w->eQ (eQ M D (.e z)) f.c (.e (t.b.map λn=>(n,ec (f.b n)))) x=d9 w:=λx w hx=>by
   by_cases q:x=f.c
   ·rw(occs:=eO) [q,gA,←v.c,←hx,q]
   ·rw[fw _ _ q]
    exact rn hD x w (e _ _ (A▸(fw _ _ q).trans hx))
  have p2:=fk.i p.b ext;have p3:=p.d p2;have G:Z D=none:=by
   cases q:Z D with
   |none=>rfl
   |some w=>have:=e D w (A▸(fw _ _ s).trans q);rw(occs:=eO) [hD] at this;exact nS this
  refine hq f _ _ ⟨b.b,(y.e p2).g.l (v:=.g eb (uk t)) (by decide) (b.b.e 100 _ rfl) (Cp D z rfl ((fw _ _ s).trans (gA _ _ _)) (LV (kt.e λx us h=>?_)) az (λq=>?_) (λU q=>?_)) (λU=>(ey D rfl rfl)) (λU j w U hw hj U=>vb y p2 G hw hj),p2.b⟩ p3
  ·rw(occs:=eO) [fw _ _ λq=>?_]
   ·exact rn hD x _ h
   ·rw(occs:=eO) [q,e _ _ S] at h;cases h
  ·exact Bg p.b G q
  ·exact Bj p.b G q
end
section
variable{c:Cx}{V:eJ}{H M:AH}{P:iE}{d:ir}{Y:gZ}{B:AH}{F K:Fr}{a w:Ad}{t O I E:eB}{n m:Int}{T:Int->Nat}
theorem Bv{s:js}{r:Ss}{z:List fG}{Q:gr->eJ->AH->Prop}(X:s.C Y (z.headD gH)=eb)(h:Ex d t F s .a E K)(b:Bd d P em Y c B F a t V H)(e:fk w I B a t H)
  (k:∀f o Z,Bd d P em Y c B K f E o Z->fk w I B f E Z->TS c (r.d z.tail) o Z Q):TS c ((Ss.a s r).d z) V H Q:=by
 refine kJ (yk s X h b e λg f o Z p l=>?_);rw[show g=fY from l];exact k f o Z (p.g b) p.a
theorem yt{s:js}{r:Ss}{z:List fG}{Q:gr->eJ->AH->Prop}(X:(Ss.a s r).e Y z=eb)(h:Ex d t F s .a E K)(b:Bd d P em Y c B F a t V H)(e:fk w I B a t H)
  (k:r.e Y z.tail=eb->∀f o Z,Bd d P em Y c B K f E o Z->fk w I B f E Z->TS c (r.d z.tail) o Z Q):TS c ((Ss.a s r).d z) V H Q:=
 let⟨v,j⟩ :=nj.mp X;Bv v h b e (k j)
abbrev zv:js:=.j [56] (.a (.A (.a (.x 13) (.a (.x 14) .b)))) (.a Ag .b)
theorem O9{u:fG}{k:Nat}{G:List (Int×eT)}{o:Int->Int->Int}{aa:gr->eJ->AH->Prop}(b:Bd (dd eb (k+65)) P em iz c B F a t V H)(hh:c.b.handled=eh)(v:(eW.A (.a (.x 13) (.a (.x 14) .b))).y em iz em (sE u)=eb)(af:(Ss.a Ag .b).e iz (sB u)=eb)
  (S:fk w I B a t H) (h:Gx t T 0 0) (hb:∀n∈t.b,T n<61) (ae:F 66=d9 (.b .c)) (g:F 100=d9 (.g eb G)) (hk:∀x∈t.b,G.lookup x=d9 (.f [.a (o 0 x),.a (o 1 x)]))
  (D:∀m,Ax m->∀x∈t.b,Dn t T m (o m) (sz t m) x∧LL t T m x≤o m x∧o m x≤100)
  (hq:∀s F' l M,Bd (dd eb (k+65)) P em iz c B F' s t l M->fk w I B s t M->(∀j,j≠56->F' j=F j)->aa fY l M):T1 c (zv.v u) V H aa:=by
 have d:Ev (dd eb (k+65)) t F (.A (.a (.x 13) (.a (.x 14) .b))) (.b (.f [.a 0,.a 1])) t:=ki (J:=[.a 0,.a 1]) rfl rfl (iO rfl);refine Bl b.b.a (Y:=[nm 56]) (λau hy=>by rw(occs:=eO) [gR.mp hy];exact b.b.e 56 _ rfl) (Oz hh ((fR _).1 v d b λaq f Z p N U=>?_)) (λU=>rfl);clear U;obtain⟨r,us,rfl,hr,u1,ws,rfl,e1,u2,aj,rfl,e2,W⟩ :=N;obtain rfl:=(show u1=vi 0 from e1);obtain rfl:=(show u2=vi 1 from e2);obtain rfl:=(show aj=[] from W);have y:=b.e p;have s1:=S.d p;have f1:=y.g;have L:=y.f;have C:jW c B F V Z r=d9 (.f [vi 0,vi 1]):=by
  rw(occs:=eO) [wV λag=>?_]
  ·exact hr
  ·(refine gY (zF f1 ag) λU U g1=>?_;refine eR g1 λak K h2=>?_)
   rw[hr] at K;exact h2 _ (eX K).symm
 have O:=IG f1 s1;have ac:∀x,jW c B F V Z x=eh->B x=none:=λx hx=>O.h hx;refine(fS r _ rfl hr (lP (λi l M=>∃s F',FR c (jW c B F V Z) s t F' l M∧fk f t (jW c B F V Z) s t M∧∀j,j≠56->F' j=F j) (fS f F (IE f1 (b.b.h rfl)) (.i (wW f1 L) (λU U=>IF)) (λU U=>rfl)) ?_ ?_ ?_))
 ·rintro i l M ⟨s,F',_,X,_⟩
  exact X.f _ _ C (nG (wW f1 L) C rfl)
 ·rintro i l M p' hi ⟨s,F',Q,X,e⟩
  have hi:i<2:=hi;have z:([vi 0,vi 1]:List ed).getD i ez=vi i:=by
   rcases i with _|_|i
   ·rfl
   ·rfl
   ·lia
  have R:Ax (i:Int):=by
   clear z;rcases i with _|_|i
   ·exact eH rfl
   ·exact eI rfl
   ·lia
  show TS _ _ (ic l (nm 56) (([vi 0,vi 1]:List ed).getD i ez)) _ _;rw[z];have q:FR c (jW c B F V Z) s t (eL F' 56 (.a i)) (ic l (nm 56) (vi i)) M:=Q.l (by decide) (b.b.e 56 _ rfl) rfl (λh=>nB h) (λh=>nB h);refine yt (K:=eL F' 56 (.a i)) af (U6 (k:=k) (G:=G) (o:=o) h hb R ((e 66 (by decide)).trans ae) rfl ((e 100 (by decide)).trans g) hk (λx hx=>(D _ R x hx).1) λx hx=>(D _ R x hx).2) ⟨b.b.m,q.m,X.b⟩ X λU a2 av H2 b2 Y=>qV (fS a2 _ b2.g.n Y (λj J=>(if_neg J).trans (e j J)))
 ·rintro l M ⟨s,F',Q,X,e⟩
  exact hq s F' l M ⟨b.b,Q.C ac,X.b⟩ (O.d X) e
end
section
variable{c:Cx}{V:eJ}{H M:AH}{P:iE}{d:ir}{Y:gZ}{B:AH}{F K:Fr}{a w:Ad}{t O I E:eB}{n m:Int}{T:Int->Nat}{R:List Int}
noncomputable abbrev Gv:eW:=.j 26 (.a (.a 66) (.a (.a 108) (.a (.a 109) .b)))
def J9(u:fG):Stmt:=uW [(js.h Gv).v ((tB u).headD gH),Af.v ((tB u).tail.headD gH),zv.v ((tB u).tail.tail.headD gH)] [uS (d9 (gk (ei "LispSignal") (tH u).1)) eh [ze.v ((tH u).2.1.headD gH)] (tH u).2.2] [] [] u.pos
theorem Lw.j{A:Nat}{r:Int}(L:Lw t R A r)(G:Gx t T 0 0)(z:Gx O T 0 0)(N:Kp 0 t O)(i:O.b=t.b):Lw O R A r:=by
 have f:t.i∈O.b:=i▸L.c;refine⟨⟨T,z⟩,N.b▸f,?_,L.e.h N,N.c▸L.i,N.c▸L.a,N.d▸L.h,i▸L.b⟩;rw[N.b];rcases N.a _ f with ⟨_,e,_⟩ |⟨l,_⟩
 ·exact e.trans L.g
 ·exact absurd (G.g _ L.c).2 (rH.2 l)
theorem FR.D{e:et}{p:fM}{J:Array ed}(f:FR c B a t F V H)(K:H e=d9 (.c p))(I:p.data=fB J)(W:J[2]? =d9 ez):FR (Internal.rm c e) B a t F V H:=⟨f.h,f.d,f.f,f.inj,LQ K I W⟩
theorem FR.L{e:et}(f:FR (Internal.rm c e) B a t F V H)(h:kK c.b H):FR c B a t F V H:=⟨f.h,f.d,f.f,f.inj,h⟩
theorem Tg{A:Nat}{r wd z:Int}{u:fG}{en:Bool}{Q:gr->eJ->AH->Prop}(b:Bd (dd eb 70) P em iz c B F a t V H)(S:fk w I B a t H)(G:Gn c 80)(aB:c.o=[])(aA:∀a o,¬c.j a o)(aC:u=J9 u)
  (au:Gv.y em iz em (sE ((tB u).headD gH))=eb) (av:(Ss.a Af (.a zv .b)).e iz (tB u).tail=eb) (aw:(eW.A (.a (.x 13) (.a (.x 14) .b))).y em iz em (sE ((tB u).tail.tail.headD gH))=eb) (k:(Ss.a Ag .b).e iz (sB ((tB u).tail.tail.headD gH))=eb) (az:(Ss.a ze .b).e iz (tH u).2.1=eb)
  (aa:Lw t R A r) (G0:Gx t T 0 0) (hb:∀n∈t.b,T n<61) (hw:wd≤100) (hh:z≤100) (he:en=(eU (LL t T 0 t.d≤wd)&&eU (LL t T 1 t.d≤z))) (J:F 66=d9 (.b .c)) (ac:F 108=d9 (.a wd)) (ae:F 109=d9 (.a z)) (K:F 111=d9 (.d en)) (ak:F 110=d9 (.b (CF t T))) (aj:F 100=d9 (.g eb (uk t)))
  (hq:∀a' O F' l M,Bd (dd eb 70) P em iz c B F' a' O l M->fk w I B a' O M->Lw O R A r->(∀j,j≠56->F' j=F j)->Q fY l M):T1 c u V H Q:=by
 rw[aC];have ev:lW (dd eb 70) t F (.a (.a 66) (.a (.a 108) (.a (.a 109) .b))) [.b .c,.a wd,.a z] t:=eV (ip J) (eV (fu ac) (eV (fu ae) fJ));refine Na (C:=38) (N:=37) (W:=35) (X:=λl C M=>en=em∧l=V∧XQ a t H t C M) b.b.a G.d G.h (by unfold fo;rw[aB];rfl) G.e G.f (b.b.b▸zW) (b.b.b▸(by kernel_rfl:jg (KK P) j4 (ei "LispSignal")=some (some (.ref 38)))) (b.b.e 44 _ rfl) (by kernel_rfl) aA ?_ (λU U U h=>h.2.2.1) ?_
 ·refine Ft (E2 (Fp au ev b λus a1 H1 p hv=>?_) b.b.g rfl)
  cases e:en with
  |false=>
   refine(Th (k:=75) b.b.b b.b.a G.b G.a G.d p.b hv G0 ?_).b λC H2 h=>⟨rfl,rfl,vg p _ _ h⟩;rw[e] at he;rcases Bool.and_eq_false_iff.mp he.symm with h|h
   ·rw[decide_eq_true (rH.mp (of_decide_eq_false h))];rfl
   ·rw[decide_eq_true (rH.mp (of_decide_eq_false h))];exact pI _
  |true=>
   rw[e] at he K;refine fq he.symm λq1 q2=>?_
   (refine uq (Tf (g:=0) (k:=66) G0 ⟨of_decide_eq_true q1,hw⟩ ⟨of_decide_eq_true q2,hh⟩) λt2 aD g po kp hz g1=>?_;refine fe g1 λi hd=>?_)
   have x:=aa.j G0 g kp i;refine Fc (qh ql 70 c b.b.b b.b.a (G.b.f (by decide)) (λU=>G.a) _ _ _ _ _ aD _ _ _ _ _ p.b (.a G.a) hv λaF a2 H2 D U U=>Fu ?_);have b2:=(b.e p).e D;have aq:∀n∈t2.b,T n<61:=i▸hb;refine yt (s:=Af) (r:=.a zv .b) (z:=(tB u).tail) av (U5 (k:=67) g po x.c x.g J K ac ae hz) b2 ((S.d p).d D) λU N X L v s3=>?_;refine kJ (O9 (k:=5) (o:=sz t) v G.a aw k s3 g aq J aj (λag Z=>CX (i▸Z)) (λm Z ag Y=>?_) λa4 F4 aE f d s4 e4=>qV (hq a4 t2 F4 aE f d s4 x e4));refine fe (hd m Z ag (i▸Y)) λq d2=>?_;exact⟨q,d2▸G0.U Z (i▸Y),G0.W Z (i▸Y)⟩
 ·rintro l M e oe vs ⟨e0,rfl,_,a1,af⟩ W h1 h2
  have p:=af.d (.g (o:=.c oe) af.b W);have y:=b.e p;have cx:jA (dd em 70) P em iz (Internal.rm c e):=⟨b.b.b,b.b.a.n,b.b.g,b.b.l,b.b.e,(λh=>nB h),b.b.h,70,(⟨(G.b.f (m:=70) (by decide)).b,(G.b.f (m:=70) (by decide)).a⟩ :Lv (Internal.rm c e) 70),qh ql 70⟩;refine yt (s:=ze) (r:=.b) (z:=(tH u).2.1) az (Qu (k:=67) G0 hb J (e0▸K) ak) ⟨cx,y.g.D (gA _ _ _) h1 h2,y.f⟩ (S.d p) λU N X L v s3=>qV (hq N t F X L ⟨b.b,v.g.L (.a G.a),v.f⟩ s3 aa λU U=>rfl)
noncomputable abbrev yT:eW:=.j 42 (.a (.a 98) .b)
abbrev CC:eW:=.D oO (.a (ge 108 13) (.a (ge 109 14) .b))
noncomputable abbrev zu:js:=.a 110 (.j 30 (.a (.a 66) .b))
abbrev Pd:Ss:=.a .p (.a (.l em [66,103] yT) (.a zt (.a .p (.a zu (.a (.a 111 CC) (.a .p (.a (.j [104] (.a (.j 9 (.a (.d 2) .b))) (.a zw .b)) wv)))))))
theorem VN:Pd.d (fj (eS 44))=fj (eS 44):=by kernel_rfl
abbrev Dm(i:Nat):Stmt:=((fj (eS 44)).drop i).headD gH
noncomputable abbrev B0:AH:=λU=>eh
theorem Pq(w:Wd H a t)(J:t.g<5):fk a t B0 a t H:=
 ⟨w,(by intro _ _ h;exact nS h),(by intro _ _ h;exact nS h),λU U=>eI rfl,λU U=>eI rfl,rfl,rfl,rfl,λh=>absurd h (by lia)⟩
theorem QR{u:fG}{d:Nat}{r:Int}{f:gr->eJ->AH->Prop}(b:Bd (dd eb 70) P em iz c B0 F a t V H)(W:fk w I B0 a t H)(B:c.b.handled=eh)(v:(Ss.a zw .b).e iz (sB u)=eb)
  (L:Lw t R d r) (hB:r≤8000) (g:R.length≤900) (K:F 66=d9 (.b .c)) (C:F 98=d9 .h) (Z:F 103=d9 (.c eb (eF R.reverse)))
  (G:∀s O A l M,Bd (dd eb 70) P em iz c B0 A s O l M->fk w I B0 s O M->Lw O R d (r+4)->(∀j,j≠104->A j=F j)->f fY l M):T1 c ((js.j [104] (.a (.j 9 (.a (.d 2) .b))) (.a zw .b)).v u) V H f:=by
 have o:jg (KK P) j4 (eE (nm 9))=d9 eh∧uY (eE (nm 9))=d9 (eK "range")∧eE (nm 9)≠"__name__":=⟨by kernel_rfl,by kernel_rfl,by decide+kernel⟩;refine Bl b.b.a (Y:=[nm 104]) (λy N=>by rw[gR.mp N];exact b.b.e 104 _ rfl) (Fx b.b.a B (rV b.b.a (b.b.e 9 _ rfl) (b.b.b▸o.1) o.2.1 o.2.2 ⟨rfl,jk (mE _ (kC (fQ 2 rfl (by decide) ?_))) λU=>rfl⟩ (ju 9)) rfl) (λU=>rfl);refine(lP (λi l M=>∃s O A,FR c B0 s O A l M∧fk w I B0 s O M∧Lw O R d (r+2*i)∧∀j,j≠104->A j=F j) (pj a t F b.g W ({ L with a:=by have:=L.a;lia }) (λU U=>rfl)) (λU U U U=>trivial) ?_ ?_)
 ·rintro i l M p D ⟨s,O,A,Q,X,z,e⟩
  have q:FR c B0 s O (eL A 104 (.a i)) (ic l (nm 104) (vi i)) M:=Q.l (by decide) (b.b.e 104 _ rfl) rfl (λh=>nB h) (λh=>nB h);refine eR (QV (F:=eL A 104 (.a i)) (k:=65) z (by lia) g ((e 66 (by decide)).trans K) ((e 98 (by decide)).trans C) ((e 103 (by decide)).trans Z)) λt2 m x=>?_;refine yt (K:=eL A 104 (.a i)) v m ⟨b.b.m,q.m,X.b⟩ X λU k n T E Y=>qV (pj k t2 _ E.g.n Y ?_ (λj J=>(if_neg J).trans (e j J)));rw[show r+2*((i+1:Nat):Int)=r+2*i+2 by lia];exact x
 ·rintro l M ⟨s,O,A,Q,X,z,e⟩
  exact G s O A l M ⟨b.b,Q,X.b⟩ X z e
theorem QT{z:List fG}{A:Nat}{r:Int}{Q:gr->eJ->AH->Prop}(b:Bd (dd eb 70) P em iz c B0 F a t V H)(S:fk w I B0 a t H)(X:wv.e iz z=eb)(L:Lw t R A r)(i:r≤8000)(J:F 66=d9 (.b .c))(C:F 98=d9 .h)
  (G:∀e M,Q (iV (fF eb)) e M):TS c (wv.d z) V H Q:=by
 refine ur (QW (k:=66) L i J C) λO h f=>?_;refine qQ wv X f b S λg s e T p l=>?_
 (refine f5 l λu d N U=>?_;(clear l;obtain rfl:=d))
 rw[show u=fF eb from N];exact G _ _
theorem QX{l ad:et}{X:List Int}{aF:Array ed}{Q:gr->eJ->AH->Prop}(S:jA (dd eb 70) P em iz c)(G:Gn c 80)(aE:c.o=[])(bc:∀a bg,¬c.j a bg)(hl:c.f.IsList l aF)(hi:aF.toList.map nv=X.map vi)(hn:X.length≤63)(aV:V (nm 107)=d9 (ec l))
  (aq:∀x,c.a.kindOf x=d9 fK->x=eE (nm 66)) (ba:c.a.cells.lookup (eE (nm 66))=d9 ad) (aX:H ad=d9 (.g eh)) (hq:∀bw M,Q (iV (fF eb)) bw M):TS c (fj (eS 44)) V H Q:=by
 have af:=S.a;have I:=S.e;rw[←VN]
 --aS=[..]
 have bo:Dm 0=PY (Dm 0):=by kernel_rfl
 refine kJ ?_;show T1 c (Dm 0) _ _ _;rw[bo];refine tP (PN S G.a hl hi hn (I 107 _ rfl) aV λa H1 ext aw bJ=>?_) rfl;have b0:Bd (dd eb 70) P em iz c B0 (λU=>eh) a (tI (X.map sg)) V H1:=⟨S,⟨λU U h=>nS h,λU U U U U U h=>nS h,λx Z=>(fS ad eh (by rw[aq x Z];exact ba) (ext _ _ aX) (λU=>rfl)),λx bv U Z hy U U=>(aq x Z).trans (aq bv hy).symm,.a G.a⟩,aw⟩;refine qU (i:=98) (v:=.h) b0 (Pq aw (show 0<5 by decide)) (by kernel_rfl) rfl (λh=>nB h) (λh=>nB h) λo H2 U Y=>?_;have e1:Internal.oJ (λU=>eh) 98 .h=eL (λU=>eh) 98 .h:=rfl;rw[e1] at Y;have y:Bd (dd eb 70) P em iz c B0 (eL (λU=>eh) 98 .h) a (tI (X.map sg)) o H2:=⟨S,Y.d,Y.a.b⟩
 --bV,bW=bF(aS)
 let p:=(fj (eS 44)).tail;have aY:yT.y em iz em (sE (p.headD gH))=true:=by kernel_rfl
 refine kJ (yo (tT af (mH _ _) (B7 aY (eV (fg (v:=.h) rfl) fJ) y λA a2 H3 au hv=>yq ?_)) (n6 (e:=yT) rfl (sE (p.headD gH)) (d9 (iD (jV [66,103] (xl (sT (p.headD gH)))) (xk (sT (p.headD gH))) (sT (p.headD gH)).pos)) (p.headD gH).pos.line c.a) (z6 (e:=yT) rfl _ _ _ _ _));obtain⟨u1,ws,rfl,rfl,hv⟩ :=hv;obtain rfl:ws=[]:=hv;refine Ps (k:=73) S.b af G.b G.a G.d aE G.e G.f au.b (show 0<5 by decide) ⟨ja 0,(by decide:(0:Int)≤10)⟩ (by show(X.map sg).length≤100;rw[fC];lia) λN C f R bQ r aG L3 hR hr aD bL=>?_;have v:=(y.e au).e aG;have B:=((Y.a.d au).d aG);have h7:C.g=7:=let⟨_,ag⟩ :=L3.d;ag.f;refine Bn G.a hr rfl rfl ?_;refine v.g.g _ (I 66 _ rfl) λs v0 g1 g2 g3=>?_;refine tS (Fq af (I 66 _ rfl) g1 g2 ?_);have f4:=v.g.z (i:=66) (v:=.b .c) (u:=ec N.e) (by decide) (I 66 _ rfl) g1 g2 ⟨rfl,by lia⟩ (λh=>nB h) (λh=>nB h);have s4:=B.u (o:=.g (d9 (ec N.e))) rfl (Bi B.b g2 rfl);have b4:Bd (dd eb 70) P em iz c B0 (eL (eL (λU=>eh) 98 .h) 66 (.b .c)) N C o (eQ f s (.g (d9 (ec N.e)))):=⟨S,f4,s4.b⟩;have v4:VR (eQ f s (.g (d9 (ec N.e)))) N C (.c eb (eF R.reverse)) (ec r):=by
  refine VR.l (o:=.g v0) g2 (λA e=>by cases e) aD λU e=>?_;refine fT aD λav A e1 O U=>?_;rw[e] at e1;(clear U;(replace e1:=lq e1;subst e1));rw[g2] at O;cases O
 refine tS (qU (i:=103) b4 s4 (by kernel_rfl) v4 (λU=>(ey r rfl rfl)) (λU bN aw g ho U=>?_) λbz H5 U w=>?_)
 ·unfold eL at g
  split at g
  ·(replace g:=eX g;subst g);exact nB ho
  ·split at g
   ·(replace g:=eX g;subst g);exact nB ho
   ·exact nS g
 have e5:Internal.oJ (eL (eL (λU=>eh) 98 .h) 66 (.b .c)) 103 (.c eb (eF R.reverse))=eL (eL (eL (λU=>eh) 98 .h) 66 (.b .c)) 103 (.c eb (eF R.reverse)):=rfl;rw[e5] at w;generalize ak:eL (eL (eL (λU=>eh) 98 .h) 66 (.b .c)) 103 (.c eb (eF R.reverse))=b at w;have b5:Bd (dd eb 70) P em iz c B0 b N C bz H5:=⟨S,w.d,w.a.b⟩;have J:b 66=d9 (.b .c):=ak▸rfl;have aj:b 98=d9 .h:=ak▸rfl;have aU:b 103=d9 (.c eb (eF R.reverse)):=ak▸rfl
 --bX,bK
 let az:=p.tail;have aZ:zt.C iz (az.headD gH)=true:=by kernel_rfl
 refine mZ (QU (k:=69) L3 (by decide) aj) λi z K x6 t g hh=>?_;refine Bv (z:=az) (s:=zt) (K:=fV b [109,108] [.a z,.a i]) aZ x6 b5 w.a λa6 b9 H6 b6 s6=>?_
 --bI
 let n:=az.tail;have bq:n.headD gH=FN (n.headD gH):=by kernel_rfl
 have aW:K.g=7:=let⟨_,ag⟩ :=t.d;ag.f;refine OX (u:=n.headD gH) b6 G.a bq (by kernel_rfl) (by kernel_rfl) J aW (by have:=t.b;lia) λa7 cb H7 b7 p7=>?_;have s7:=s6.d p7
 --bO
 let aA:=n.tail;refine fL t.d λbR G0=>?_;refine eR G0.ah λT W j=>?_;have k:zu.C iz (aA.headD gH)=true:=by kernel_rfl
 have x8:Ex (dd eb 70) K (eL (fV b [109,108] [.a z,.a i]) 100 (.g eb (uk K))) zu .a K (eL (eL (fV b [109,108] [.a z,.a i]) 100 (.g eb (uk K))) 110 (.b (CF K T))):=
  fO (gI (eV (ip J) fJ) (Ca (Q:=eb) (k:=67) W.y W.h)) rfl
 refine Bv (z:=aA) (s:=zu) k x8 b7 s7 λa8 aK L b8 s8=>?_
 --bM
 let aa:=aA.tail;let d:=eL (eL (fV b [109,108] [.a z,.a i]) 100 (.g eb (uk K))) 110 (.b (CF K T));have aC:(ge 108 13).y em iz em ((xl (sE (aa.headD gH))).headD fU)=eb∧(ge 109 14).y em iz em ((xl (sE (aa.headD gH))).tail.headD fU)=true:=⟨by kernel_rfl,by kernel_rfl⟩;have v1:=Hc (A:=0) (B:=0) (F:=d) (m:=i) (k:=9) W j (eH rfl) (i:=108) (g:=13) J rfl rfl;have v2:=Hc (A:=0) (B:=0) (F:=d) (m:=z) (k:=9) W j (eI rfl) (i:=109) (g:=14) J rfl rfl;let m:=eU (LL K T 0 K.d≤i)&&eU (LL K T 1 K.d≤z);have te:TE c (CC.u (sE (aa.headD gH))) aK L (λaH M=>aH=fF m∧∃D,fk a8 K L D K M):=by
  refine N1 ((fR (ge 108 13)).1 aC.1 v1 b8 λu D H9 p9 bf U=>(ey _ bf ?_));cases e:eU (LL K T 0 K.d≤i) with
  |false=>exact⟨congrArg fF (show em=(eU _&&eU _) by rw[e];rfl),D,p9⟩
  |true=>
   rw[if_pos rfl];refine(fR (ge 109 14)).1 aC.2 v2 (b8.e p9) λu aO ae bh be U=>⟨(show u=_ from be).trans (congrArg fF (show _=(eU _&&eU _) by rw[e];rfl)),aO,p9.d bh⟩
 refine kJ (tP (te.a λaH M av=>?_) (n6 (e:=CC) rfl _ _ _ _))
 (refine It av λO D p9=>?_;(clear av;obtain rfl:=O))
 refine qU (i:=111) (v:=.d m) (b8.e p9) (s8.d p9) (by kernel_rfl) rfl (λh=>nB h) (λh=>nB h) λaJ ae U q=>?_;have aT:Internal.oJ d 111 (.d m)=eL d 111 (.d m):=rfl;have q:gK c B0 a (tI (X.map sg)) [111] aK M K (Internal.oJ d 111 (.d m)) D aJ ae:=q;rw[aT] at q;have aP:Bd (dd eb 70) P em iz c B0 (eL d 111 (.d m)) D K aJ ae:=⟨S,q.d,q.a.b⟩
 --try
 let ac:=aa.tail;have bu:ac.headD gH=J9 (ac.headD gH):=by kernel_rfl
 refine kJ ?_;show T1 c (ac.headD gH) _ _ _;refine Tg (wd:=i) (z:=z) (en:=m) aP q.a G aE bc bu (by kernel_rfl) (by kernel_rfl) (by kernel_rfl) (by kernel_rfl) (by kernel_rfl) t W j g hh rfl J rfl rfl rfl rfl rfl λbG bS bA bY bC aQ bj aL F=>?_
 --bU bP
 let aI:=ac.tail;refine kJ (QR (u:=aI.headD gH) aQ bj G.a (by kernel_rfl) aL (by decide) (by lia) ((F 66 (by decide)).trans J) ((F 98 (by decide)).trans aj) ((F 103 (by decide)).trans aU) λbH bT bB bZ bE aR bn aM aB=>?_);exact QT (z:=aI.tail) aR bn (by kernel_rfl) aM (by decide) ((aB 66 (by decide)).trans ((F 66 (by decide)).trans J)) ((aB 98 (by decide)).trans ((F 98 (by decide)).trans aj)) hq
end
section
def ug(b:jI)(a:eZ)(H N:ft->Option ed)(B:iN):Cx:=
 { l:=pw,k:=b,t:=callerA,b:=callerA.deeper B,m:=a.heap,o:=[],n:=B,a:=B,f:=a.heap,h:=a.heap.objs.size,r:=H,s:=N,p:=qv,e:=KK b.params,u:=a.os,i:=eh,j:=λU U=>False }
theorem RF{j:gr}(h:nf j=iV (fF eb)):j=iV (fF eb):=by
 cases j with
 |ret v=>exact congrArg iV (zH (Flow.ret.inj h))
 |_=>cases h
theorem Px{w:jI}{L:eZ}{H N:ft->Option ed}{o:fM}{d l:et}{E cd r:ed}{ac:Array ed}{ns:List Int}{aa:pQ->eZ->Prop}(X:(KK w.params).In L.heap)(T:rK qv (rM qv []) H N L.heap)(hg:L.gens=#[])
  (y:L.heap.get? d=d9 o) (hd:o.data=xL (docDef (ei "law") (qi (eS 44)) (fj (eS 44)) (fD (eS 44)) E cd r)) (V:L.heap.CodeRec cd (ei "law")) (C:L.heap.IsList l ac) (D:ac.toList.map nv=ns.map vi) (hn:ns.length≤63)
  (g:∀P,(∀b o,L.heap.get? b=d9 o->P.heap.get? b=d9 o)->P.os=L.os->P.gens=#[]->aa (kF (iV (fF eb))) P):qL (jJ pw w) callerA (.call (ec d) ⟨[ec l],[]⟩) aa L:=by
 have W:(iz.all λp=>eU (p.1<113))=true:=by kernel_rfl
 have I:∀i k,iz.lookup i=d9 k->(fD (eS 44)).names.lookup (eE (nm i))=d9 k:=λi k D=>by rw[IM];exact(mY (sX W)).trans D
 have af:=I 107 _ rfl;have Q:∀k,rN k (fD (eS 44)).names []=[(eE (nm 66),k)]:=λk=>by kernel_rfl
 refine call_cells (binds:=[(eE (nm 107),ec l)]) (by decide) y hd T.nolimit V (by kernel_rfl) (λx Z=>by rw[gR.mp Z];exact eH af) (λae tk F Y=>?_) (by kernel_rfl) (by kernel_rfl) (by kernel_rfl);rw[Q] at Y;have z:(fD (eS 44)).kind=jH:=by kernel_rfl
 generalize n:mM (ei "law") (fD (eS 44)) L.heap.objs.size d cd=B at F Y ⊢;have c:B.scope=fD (eS 44):=n▸rfl;have O:(ug w L H N B).d:=⟨below_caller _,X,T,Ec rfl,n▸rfl,by show B.scope.kind=_;rw[c,z],by show B.scope.kind=_;rw[c,z],n▸rfl,n▸rfl⟩;have f:∀x,B.kindOf x=(fD (eS 44)).names.lookup x:=λx=>by rw[←n];rfl
 have v:∀i k,iz.lookup i=d9 k->B.kindOf (eE (nm i))=d9 k:=λi k D=>(f _).trans (I i k D);have lv:Lv (ug w L H N B) 80:=⟨by show 302+80≤900;decide,by show 4+3+10*80+1000≤9900;decide⟩;have S:jA (dd eb 70) w.params em iz (ug w L H N B):=by
  refine⟨rfl,O,?_,?_,v,λU=>rfl,λU=>rfl,(ey 70 (lv.f (by decide)) (qh ql _))⟩
  ·unfold rP;rw[O.b];rfl
  ·unfold xM;rw[O.b];rfl
 have G:Gn (ug w L H N B) 80:=⟨rfl,X,T,rfl,rfl,lv⟩;have m:∀x,B.kindOf x=d9 fK->x=eE (nm 66):=λx Z=>by
  rw[f,IM] at Z;refine fP (pB Z) λp J e=>?_;have:=of_decide_eq_true (p:=∀p∈iz,p.2=fK->p.1=66) (by kernel_rfl) p J (congrArg Ea e);rw[←this];exact(congrArg kz e).symm
 have t:B.cells.lookup (eE (nm 66))=d9 (L.heap.objs.size+1):=by
  rw[←n];show(rN _ _ _).lookup _=_;rw[Q];exact KC
 have u:St (ug w L H N B) (ic (λU=>eh) (nm 107) (ec l)) (eQ (λU=>eh) (L.heap.objs.size+1) (.g eh)) { L with heap:=ae,toks:=tk }:=by
  refine⟨(fQ _ F (n▸rfl) (λx aj Z=>?_)),⟨λa o M=>?_,λa o M=>?_⟩,λa o q=>q.elim,hg,rfl⟩
  ·unfold ic at Z
   split at Z
   ·rename_i e
    rw[e]
    (replace Z:=eX Z;subst Z)
    refine(ey (ec l) ?_ rfl);rw(occs:=eO) [Gl,if_pos (v 107 _ rfl)];rw[show([(eE (nm 107),ec l)]:List (ft×ed)).reverse.lookup (eE (nm 107))=d9 (ec l) from KC]
   ·exact nS Z
  ·by_cases e:a=L.heap.objs.size+1
   ·subst e
    rw[gA] at M
    (replace M:=eX M;subst M)
    refine eR (Y.cell (eE (nm 66)) _ KC) λoc K h2=>?_;refine(ey oc K (ey _ h2 ?_));rw(occs:=eO) [Gk,v 66 _ rfl,if_neg nofun];rw(occs:=eO) [show([(eE (nm 107),ec l)]:List (ft×ed)).reverse.lookup (eE (nm 66))=eh by kernel_rfl];rfl
   ·rw[fw _ _ e] at M;exact nS M
  ·by_cases e:a=L.heap.objs.size+1
   ·clear M
    rw[e];exact⟨KP _,kA (xH _)⟩
   ·rw[fw _ _ e] at M;exact nS M
 refine fc (QX (c:=ug w L H N B) (Q:=λj U U=>j=iV (fF eb)) S G rfl (λU U h=>h) C D hn wF m t (gA _ _ _) (λU U=>rfl) _ _ u) (λj P hq=>?_) λU U x=>x;refine iH hq λak H' R e=>?_;rw[RF e];refine eR R.e λag A U=>?_;exact g P A.keep R.l R.n
end
section
open PySem.W.X
def dL(p:fE):DefRec:=⟨ei "law",qi (eS 44),fj (eS 44),fD (eS 44),p⟩
theorem Qr{c:ClaimW}{X:ft->Option et}{L:ExcName->Option ed}{w:List WData}{g P:eZ}(E:∀x,c.raises w x=em)(J:c.post w (.bool eb) w=eb)
  (K:∀b o,g.heap.get? b=d9 o->P.heap.get? b=d9 o) (I:P.os=g.os) (W:P.gens=#[]):GoodWG c X L w g (kF (iV (fF eb))) P:=by
 refine GoodW.toG ⟨eH ⟨_,_,[],rfl,E,.bool _,J,λU=>⟨og,nofun⟩⟩,K,I,W⟩
set_option tactic.hygienic true in
theorem X4{p:fE}:WalkO qv [] (XL qv []) hk.says (Yj.row).toRowW (dL p) [] (λf J=>xX f J):=by
 intro ag Q g H N G Y d o pm s r dV i y D V q F l w af as m z M k U;have b:=kIn_of Y;refine Ground.open G ?_;intro T B aa e x
 wrow_args m z M k U
 refine enter_call ?_
 rename_i X S c a t C h R ae J L hL A Z u O E v j
 have n:=Dflts.none q rfl;subst n;have n:=Dflts.noKw q;subst n;refine Px b (topRead_of T) l y (fd_plain D) V hL (by simpa using zk O) (by have:¬(63:Int)<(X.length:Int):=v;omega) λP K I W=>?_;exact Qr (λac=>by rfl) (by wrow_post) K I W
end
end Mine.Internal
end
open PySem.W.X
open Mine.Internal in
theorem PySem.Challenge.cw_ok0064_01_holds : PySem.Challenge.rw_ok0064_01.Holds := by
 refine holds_law (by delta OpenLaw.wellSaid OpenRow.wellSaid OpenRow.partSaid looksOpen;(repeat' with_reducible refine look_both ?_ ?_)<;>decide+kernel) λsaid=>?_;refine holds_open (q:=qv) (loose:=[]) (Xt:=λs=>xlAt qv [] s&&recOk [] s) (XP:=XL qv []) (Yf:=hk.obs) (Ya:=hk.val) (YP:=hk.says) (N:=5000) X3 hk.of hk.keeps (λs e=>xl_of s (Bool.and_eq_true_iff.mp e).1) XL.keeps (by rfl) (by rfl) (by rfl) (λs e=>recFacts_of (Bool.and_eq_true_iff.mp e).2) (by rfl) said (by decide+kernel) ⟨rfl,rfl,rfl,rfl,rfl,by decide+kernel⟩ ?_ X4
 w_on
 w_witness2
